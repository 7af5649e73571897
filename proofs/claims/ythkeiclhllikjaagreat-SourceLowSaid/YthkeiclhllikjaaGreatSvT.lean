/-
  SourceOwn: its walk.
-/
import Derived.Test.YthkeiclhllikjaaGreatSvS
set_option linter.unusedSimpArgs false
set_option linter.unusedVariables false
namespace Go.Proofs.YthkeiclhllikjaaGreat
open Go.RowKit
def PMsg.withSrc (m : PMsg) (z : Int) : PMsg := { m with isrc := z }
def PMsg.withKind (m : PMsg) (k : Nat) : PMsg := { m with kind := k }
/-- What stays of a source, whatever comes. -/
structure Hold (S : PSrc) (n : Int) (i : Nat) : Prop where
  src : S.src = n
  own : S.t.own.length = 5
  len : S.L.length ≤ i
  ok : ∀ q ∈ S.L, q.1.Ok
section
variable {S : PSrc} {n k c : Int} {i : Nat} {x : PAct} {y : PItem} {m : PMsg} {W w : World}
theorem PAct.OkA.kept (h : x.OkA W) (hb : Below W.heap.size W w) : x.OkA w := ⟨h.item, h.msg, h.vo.kept fun k hk => hb.block k hk, h.vs.kept fun k hk => hb.block k hk⟩
theorem Hold.mono (h : Hold S n i) : Hold S n (i + 1) := ⟨h.src, h.own, Nat.le_succ_of_le h.len, h.ok⟩
theorem hold_send (h : Hold S n i) (hx : y.Ok) : Hold (sendM S y).1 n (i + 1) := by
  unfold sendM
  split
  · exact h.mono
  split
  · exact h.mono
  split
  · exact h.mono
  split
  · exact h.mono
  · refine ⟨h.src, h.own, ?_, fun p hp => ?_⟩
    · show (S.L ++ [_]).length ≤ i + 1
      rw [List.length_append]
      have := h.len
      simp only [List.length_cons, List.length_nil]
      omega
    · rcases List.mem_append.1 hp with hp | hp
      · exact h.ok p hp
      · rcases List.mem_singleton.1 hp with rfl
        exact ⟨hx.kind, hx.key, hx.at0, hx.at1, hx.n0, hx.n1⟩
theorem setA_ok {L : List (PItem × Nat)} (h : ∀ q ∈ L, q.1.Ok) : ∀ q ∈ setA L k c, q.1.Ok := fun q hq => by
  unfold setA at hq
  split at hq
  · rename_i p hp
    rcases List.mem_or_eq_of_mem_set hq with hq | rfl
    · exact h q hq
    · exact h p (List.mem_of_getElem? hp)
  · exact h q hq
theorem keepT_own {t u : PTab} : (keepT t u).1.own.length = t.own.length := by
  unfold keepT
  split
  · rename_i h
    unfold newerT at h
    simp only [Bool.and_eq_true, beq_iff_eq] at h
    have := h.1.2
    show u.own.length = t.own.length
    omega
  · rfl
theorem hold_ans (h : Hold S n i) : Hold (ansM S k c).1 n i := by
  unfold ansM
  split
  · exact h
  · exact ⟨h.src, h.own, by show (setA S.L k c).length ≤ i; rw [setA_len]; exact h.len, setA_ok h.ok⟩
theorem hold_handle (h : Hold S n i) : Hold (handleM S m).1 n i := by
  unfold handleM
  split
  · exact hold_ans h
  · split
    · exact ⟨h.src, by show (keepT S.t _).1.own.length = 5; rw [keepT_own]; exact h.own, h.len, h.ok⟩
    · exact h
theorem hold_one (h : Hold S n i) (hx : x.item.Ok) : Hold (oneM S n x).1 n (i + 1) := by
  unfold oneM
  split
  · exact hold_send h hx
  · split
    · exact (hold_handle h).mono
    · split
      · exact (hold_handle h).mono
      · exact h.mono
end
section
variable {w0 W w : World} {x y : PAct} {g i : Nat} {L : List Thg} {A : Array Value} {t : TypeId} {m : PMsg} {vo vs : Value}
abbrev zact : Array Value := actC ⟨0, itZ, PMsg.zero, .slice none 0 0, .slice none 0 0, 0, 0⟩
theorem al_act : (Instr.alloc 50 true (.tuple #[])).run Tryz.prog w = .ok (.pointer (some ⟨w.heap.size, 0, none⟩)) (w.alloc (.cells zact 50)) := by
  simp [go_sem]
  rfl
theorem act_one (ho : x.vo.oneCell' = true) (hs : x.vs.oneCell' = true) : (actC x).all (·.oneCell') = true := by
  unfold actC
  simp only [List.all_toArray, List.all_cons, List.all_nil, Bool.and_true, ho, hs]
  rfl
theorem st_act (h : w.heap[g]? = some (.cells (actC x) 50 (0, 0))) (h1 : (actC y).all (·.oneCell') = true) : (Instr.storeAt 50 (.pointer (some ⟨g, 0, none⟩)) (.agg (actC y))).run Tryz.prog w = .ok () (w.setRow g (actC y)) := by
  simp only [Instr.storeAt, Instr.sureAddr, Sem.run_bind, Sem.run_pure, Result.andThen_ok, run_storeVar_row w g 50 50 (actC x) (actC y) h infoAct rfl h1]
theorem st_int {y old : Int} (h : w.heap[g]? = some (.cells A t (0, 0))) (hc : A[i]? = some (.int .i64 old)) : (Instr.storeAt 3 (.pointer (some ⟨g, i, none⟩)) (.int .i64 y)).run Tryz.prog w = .ok () (w.setCell ⟨g, i, none⟩ (.int .i64 y)) := by
  have hc2 := (cells_at h i).trans hc
  have hz := thaw_at h i
  simp [go_sem, hc2, hz]
theorem st_u8k {y old : Int} (h : w.heap[g]? = some (.cells A t (0, 0))) (hc : A[i]? = some (.int .u8 old)) : (Instr.storeAt 5 (.pointer (some ⟨g, i, none⟩)) (.int .u8 y)).run Tryz.prog w = .ok () (w.setCell ⟨g, i, none⟩ (.int .u8 y)) := by
  have hc2 := (cells_at h i).trans hc
  have hz := thaw_at h i
  simp [go_sem, hc2, hz]
theorem ld_mgB (h : w.heap[g]? = some (.cells (mcells m vo vs) 37 (0, 0))) : (Instr.loadAt 37 (.pointer (some ⟨g, 0, none⟩))).run Tryz.prog w = .ok (.agg (mcells m vo vs)) w := ld_msgA fun k u hu => by
  rw [box_cells h k, Nat.zero_add]
  exact hu
theorem handle_own {S : PSrc} (h1 : m.isrc ≠ S.src) (h2 : m.kind ≠ 14) : handleM S m = (S, false) := by
  unfold handleM
  rw [beq_eq_false_iff_ne.2 h1, Bool.and_false, Bool.and_false, show ((m.kind : Int) == 14) = false from beq_eq_false_iff_ne.2 (by omega)]
  rfl
end
section
variable {W : World}
set_option maxRecDepth 100000 in
set_option maxHeartbeats 4000000 in
theorem own_law {n0 : Nat} {l : List PAct} {v : Value} (hn0 : n0 < 256) (hl : RdC W 33 v (l.map actC)) (hok : ∀ x ∈ l, x.OkA W) (hll : l.length ≤ maxLen) :
    Calls Tryz.prog 8 #[.int .u8 (n0 : Nat), v] W fun e W' => e = .returned (.bool true) ∧ Below W.heap.size W W' := by
  have hlw : ∀ w, Below W.heap.size W w → RdC w 33 v (l.map actC) := fun w hb => hl.kept fun k hk => hb.block k hk
  have hokw : ∀ w, Below W.heap.size W w → ∀ x ∈ l, x.OkA w := fun w hb x hx => (hok x hx).kept hb
  obtain ⟨A1, c1, rfl⟩ := hl.slc
  rw [List.length_map] at hlw
  rw [List.length_map]
  clear hl
  have ml : maxLen ≤ 9223372036854775807 := by unfold maxLen; omega
  have hn4 : n0 % 4 < 4 := Nat.mod_lt _ (by decide)
  have hL := LV.init W
  go_enter Tryz.func8, Tryz.ntmps8
  refine wp_fr (n := 100) (m := [(0, _), (1, _)]) ⟨rfl, rfl, by intro p hp; simp only [List.mem_cons, List.not_mem_nil, or_false] at hp; rcases hp with rfl | rfl <;> rfl⟩ fun a0 H0 => ?_
  repeat (go_not_at_region 0; go_step)
  refine wp_region_lit ?_
  refine h_op H0 rfl (wn rfl) (R_as H0 rfl rfl) rfl (P2 0 1 rfl rfl) fun a1 H1 => ?_
  clear H0
  refine h_end ?_
  repeat (go_not_at_region 1; go_step)
  refine wp_region_lit ?_
  refine h_call H1 rfl (wn rfl) (R_call0 H1 rfl (fun w => by simp [go_sem])) rfl ?_
  refine awake_ok.mono ?_
  rintro e w2 ⟨rfl, hb⟩
  replace hL := hL.call hb
  clear hb
  refine ⟨_, rfl, fun a2 HH => ?_⟩
  have H2 := HH _ (P3 20 0 1 rfl rfl rfl)
  clear HH H1
  refine h_op H2 rfl (wn rfl) (R_not H2 rfl rfl) rfl (P3 21 0 1 rfl rfl rfl) fun a3 H3 => ?_
  clear H2
  refine h_end ?_
  repeat (go_not_at_region 3; go_step)
  refine wp_cond_false (H3.ev (x := .tmp 21) rfl) ?_
  repeat (go_not_at_region 3; go_step)
  refine wp_region_lit ?_
  refine h_op H3 rfl (wn rfl) (R_mv H3 rfl rfl) rfl (P3 22 0 1 rfl rfl rfl) fun a4 H4 => ?_
  clear H3
  refine h_call H4 rfl (wn rfl) (R_call1 H4 rfl rfl (fun w => by simp [go_sem])) rfl ?_
  refine (great_any (hlw _ hL.1) (hokw _ hL.1) hll).mono ?_
  rintro e w5 ⟨b, rfl, hb, hsm⟩
  replace hL := hL.call hb
  clear hb
  refine ⟨_, rfl, fun a5 HH => ?_⟩
  have H5 := HH _ (P3 23 0 1 rfl rfl rfl)
  clear HH H4
  refine h_end ?_
  cases b
  rotate_left
  · repeat (go_not_at_region 4; go_step)
    refine wp_cond_true (H5.ev (x := .tmp 23) rfl) ?_
    repeat (go_not_at_region 4; go_step)
    refine wp_region_lit ?_
    refine h_op H5 rfl (wn rfl) (R_as H5 rfl rfl) rfl (P1 4 rfl) fun a6 H6 => ?_
    clear H5
    refine h_end ?_
    repeat (go_not_at_region 999; go_step)
    exact H6.ret1 rfl rfl ⟨rfl, hL.1⟩
  obtain ⟨h200, hsmall⟩ := hsm rfl
  clear hsm
  repeat (go_not_at_region 5; go_step)
  refine wp_cond_false (H5.ev (x := .tmp 23) rfl) ?_
  repeat (go_not_at_region 5; go_step)
  refine wp_region_lit ?_
  refine h_op H5 rfl (wn rfl) (R_mv H5 rfl rfl) rfl (P2 24 1 rfl rfl) fun a6 H6 => ?_
  clear H5
  refine h_op H6 rfl (wn rfl) (R_bin H6 rfl rfl rfl (B8_remN _ 4 (by decide) hn0)) rfl (P2 25 1 rfl rfl) fun a7 H7 => ?_
  clear H6
  refine h_op H7 rfl (wn rfl) (R_cv H7 rfl rfl (cv_u8i (Nat.lt_of_lt_of_le hn4 (by decide)))) rfl (P2 26 1 rfl rfl) fun a8 H8 => ?_
  clear H7
  refine h_op H8 rfl (wn rfl) (R_as H8 rfl rfl) rfl (P2 5 1 rfl rfl) fun a9 H9 => ?_
  clear H8
  refine h_end ?_
  repeat (go_not_at_region 6; go_step)
  refine wp_region_lit ?_
  refine h_opS [bk (w5.heap.size) row5 3] H9 rfl (wn rfl) (R_bs5 H9 rfl rfl rfl rfl rfl rfl bs_5) (hL.alloc _ _) rfl (P3 27 5 1 rfl rfl rfl) fun a10 w10 H10 hL' => ?_
  replace hL := hL'
  clear H9 hL'
  refine h_op H10 rfl (wn rfl) (R_bd3 H10 rfl rfl rfl rfl (bd_tb (o := T5.own))) rfl (P3 28 5 1 rfl rfl rfl) fun a11 H11 => ?_
  clear H10
  refine h_opS [bk w10.heap.size (tbC ⟨0, 0, []⟩ (.slice none 0 0)) 28, bk w5.heap.size row5 3] H11 rfl (wn rfl) (R_alloc rfl al_tb) (hL.alloc _ _) rfl (P4 6 28 5 1 rfl rfl rfl rfl) fun a12 w12 H12 hL' => ?_
  replace hL := hL'
  clear H11 hL'
  refine h_stS [bk w10.heap.size (tbC T5 (.slice (some ⟨w5.heap.size, 0, none⟩) 5 5)) 28, bk w5.heap.size row5 3] H12 rfl (wn rfl) (R_st H12 rfl rfl rfl (st_tb (t := ⟨0, 0, []⟩) (p := none) (l := 0) (c := 0) hL.at_)) (hL.row _) fun a13 w13 H13 hL' => ?_
  replace hL := hL'
  clear H12 hL'
  refine h_end ?_
  obtain ⟨gt, hgt⟩ : ∃ g, g = w10.heap.size := ⟨_, rfl⟩
  obtain ⟨gr, hgr⟩ : ∃ g, g = w5.heap.size := ⟨_, rfl⟩
  rw [← hgt] at H13
  rw [← hgt, ← hgr] at hL
  clear hgt hgr
  repeat (go_not_at_region 7; go_step)
  refine wp_region_lit ?_
  refine h_op H13 rfl (wn rfl) (R_mv H13 rfl rfl) rfl (P4 30 6 5 1 rfl rfl rfl rfl) fun a14 H14 => ?_
  clear H13
  refine h_op H14 rfl (wn rfl) (R_ld H14 rfl rfl (ld_tb (t := T5) hL.at_)) rfl (P5 31 30 6 5 1 rfl rfl rfl rfl rfl) fun a15 H15 => ?_
  clear H14
  refine h_call H15 rfl (wn rfl) (R_call2 H15 rfl rfl rfl (fun w => by simp [go_sem])) rfl ?_
  have hrt : Rd _ (.slice (some ⟨gr, 0, none⟩) 5 5) T5.own := rd_row (L := [bk gt (tbC T5 (.slice (some ⟨gr, 0, none⟩) 5 5)) 28]) row5_is _ hL.swap
  refine (new_any (t := T5) (src := ((n0 % 4 : Nat) : Int)) hrt (by decide)).mono ?_
  rintro e w16 ⟨hA, _⟩
  obtain ⟨va, Ra, pa, oa, aa, rfl, hra, hL3⟩ := hA (newB5 hn4)
  clear hA hrt
  obtain ⟨LX, hLX⟩ : ∃ LX, LX = lift Ra ++ [bk gt (tbC T5 (.slice (some ⟨gr, 0, none⟩) 5 5)) 28, bk gr row5 3] := ⟨_, rfl⟩
  replace hL : LV W (srcs pa (⟨((n0 % 4 : Nat) : Int), T5, []⟩ : PSrc) va oa aa LX) w16 := by rw [hLX]; exact hL.joinV hL3
  clear hL3
  refine ⟨_, rfl, fun a16 HH => ?_⟩
  have H16 := HH _ (P4 32 6 5 1 rfl rfl rfl rfl)
  clear HH H15
  refine h_op H16 rfl (wn rfl) (R_mv H16 rfl rfl) rfl (P4 29 6 5 1 rfl rfl rfl rfl) fun a17 H17 => ?_
  clear H16
  refine h_op H17 rfl (wn rfl) (R_ext H17 rfl rfl rfl) rfl (P5 33 29 6 5 1 rfl rfl rfl rfl rfl) fun a18 H18 => ?_
  clear H17
  refine h_op H18 rfl (wn rfl) (R_ext H18 rfl rfl rfl) rfl (P5 34 33 6 5 1 rfl rfl rfl rfl rfl) fun a19 H19 => ?_
  clear H18
  refine h_op H19 rfl (wn rfl) (R_as H19 rfl rfl) rfl (P5 7 34 6 5 1 rfl rfl rfl rfl rfl) fun a20 H20 => ?_
  clear H19
  refine h_op H20 rfl (wn rfl) (R_as H20 rfl rfl) rfl (P5 8 7 6 5 1 rfl rfl rfl rfl rfl) fun a21 H21 => ?_
  clear H20
  refine h_end ?_
  repeat (go_not_at_region 8; go_step)
  refine wp_region_lit ?_
  refine h_op H21 rfl (wn rfl) (R_mv H21 rfl rfl) rfl (P6 36 8 7 6 5 1 rfl rfl rfl rfl rfl rfl) fun a22 H22 => ?_
  clear H21
  refine h_op H22 rfl (wn rfl) (R_ld H22 rfl rfl (ld_tb (t := T5) (hL.mem_at (g := gt) (A := (tbC T5 (.slice (some ⟨gr, 0, none⟩) 5 5))) (t := 28) (by rw [hLX]; simp)))) rfl (P6 37 36 8 7 5 1 rfl rfl rfl rfl rfl rfl) fun a23 H23 => ?_
  clear H22
  refine h_call H23 rfl (wn rfl) (R_call2 H23 rfl rfl rfl (fun w => by simp [go_sem])) rfl ?_
  have hrt : Rd _ (.slice (some ⟨gr, 0, none⟩) 5 5) T5.own := rd_row (L := []) row5_is _ (hL.only (q := bk gr row5 3) (by rw [hLX]; simp))
  refine (new_any (t := T5) (src := ((n0 % 4 : Nat) : Int)) hrt (by decide)).mono ?_
  rintro e w24 ⟨hA, _⟩
  obtain ⟨vb, Rb, pb, ob, ab, rfl, hrb, hL3⟩ := hA (newB5 hn4)
  clear hA hrt
  have hT : TwoS W pa oa aa (⟨((n0 % 4 : Nat) : Int), T5, []⟩ : PSrc) pb ob ab (⟨((n0 % 4 : Nat) : Int), T5, []⟩ : PSrc) w24 := two_new hL (fun w h => by rw [hLX] at h; exact rd_row hra w h) hrb rfl hL3
  clear hL3 hL hLX hra hrb
  replace hT := hT.kk
  refine ⟨_, rfl, fun a24 HH => ?_⟩
  have H24 := HH _ (P5 38 8 7 5 1 rfl rfl rfl rfl rfl)
  clear HH H23
  refine h_op H24 rfl (wn rfl) (R_mv H24 rfl rfl) rfl (P5 35 8 7 5 1 rfl rfl rfl rfl rfl) fun a25 H25 => ?_
  clear H24
  refine h_op H25 rfl (wn rfl) (R_ext H25 rfl rfl rfl) rfl (P6 39 35 8 7 5 1 rfl rfl rfl rfl rfl rfl) fun a26 H26 => ?_
  clear H25
  refine h_op H26 rfl (wn rfl) (R_ext H26 rfl rfl rfl) rfl (P6 40 39 8 7 5 1 rfl rfl rfl rfl rfl rfl) fun a27 H27 => ?_
  clear H26
  refine h_op H27 rfl (wn rfl) (R_as H27 rfl rfl) rfl (P6 9 40 8 7 5 1 rfl rfl rfl rfl rfl rfl) fun a28 H28 => ?_
  clear H27
  refine h_op H28 rfl (wn rfl) (R_as H28 rfl rfl) rfl (P6 10 9 8 7 5 1 rfl rfl rfl rfl rfl rfl) fun a29 H29 => ?_
  clear H28
  refine h_end ?_
  repeat (go_not_at_region 9; go_step)
  refine wp_region_lit ?_
  refine h_op H29 rfl (wn rfl) (R_as H29 rfl rfl) rfl (P5 11 9 7 5 1 rfl rfl rfl rfl rfl) fun a30 H30 => ?_
  clear H29
  refine h_end ?_
  repeat (go_not_at_region 10; go_step)
  obtain ⟨I, hI⟩ : ∃ I : Nat → Act → World → Prop, ∀ n a' w', I n a' w' ↔ ∃ (j : Nat) (S : PSrc), n = l.length - j ∧ j ≤ l.length ∧ Fr a' 100 [(1, .slice A1 l.length c1), (5, .int .i64 ((n0 % 4 : Nat) : Int)), (7, .pointer (some ⟨pa, 0, none⟩)), (9, .pointer (some ⟨pb, 0, none⟩)), (11, .int .i64 (j : Nat))] ∧ Hold S ((n0 % 4 : Nat) : Int) j ∧ (TwoK W pa oa aa S pb ob ab S []) w' := ⟨_, fun _ _ _ => Iff.rfl⟩
  have HI := Lib.hid hI
  clear hI
  refine wp_loop_ghost I (l.length) ((HI.out _ _ _).2 ⟨0, (⟨((n0 % 4 : Nat) : Int), T5, []⟩ : PSrc), rfl, Nat.zero_le _, H30.pick _ (P5 1 5 7 9 11 rfl rfl rfl rfl rfl), ⟨rfl, rfl, Nat.le_refl _, fun p hp => (by cases hp)⟩, hT⟩) ?_
  clear hT H30
  intro n a1 wl hi
  obtain ⟨j, S, rfl, hj, H0, hS, hT⟩ := (HI.out _ _ _).1 hi
  clear hi
  have hlen := hS.len
  have hown := hS.own
  have hsrc := hS.src
  by_cases hjl : j < l.length
  · repeat (go_not_at_region 10; go_step)
    refine wp_region_lit ?_
    refine h_op H0 rfl (wn rfl) (R_mv H0 rfl rfl) rfl (P6 41 1 5 7 9 11 rfl rfl rfl rfl rfl rfl) fun a1 H1 => ?_
    clear H0
    refine h_op H1 rfl (wn rfl) (R_mv H1 rfl rfl) rfl (P7 42 41 1 5 7 9 11 rfl rfl rfl rfl rfl rfl rfl) fun a2 H2 => ?_
    clear H1
    refine h_op H2 rfl (wn rfl) (R_lenS H2 rfl rfl Tryz.underlying46) rfl (P7 43 41 1 5 7 9 11 rfl rfl rfl rfl rfl rfl rfl) fun a3 H3 => ?_
    clear H2
    refine h_op H3 rfl (wn rfl) (R_bin H3 rfl rfl rfl (B_to (y := true) (B_lt Tryz.underlying3 _ _) (decide_eq_true (by omega)))) rfl (P6 44 1 5 7 9 11 rfl rfl rfl rfl rfl rfl) fun a4 H4 => ?_
    clear H3
    refine h_end ?_
    repeat (go_not_at_region 12; go_step)
    refine wp_cond_true (H4.ev (x := .tmp 44) rfl) ?_
    repeat (go_not_at_region 12; go_step)
    obtain ⟨ad, had, hel⟩ := (hlw _ hT.below).elem (List.length_map _) hjl
    have hx := hok _ (List.getElem_mem hjl)
    have hsx := hsmall _ (List.getElem_mem hjl)
    obtain ⟨x, hxe⟩ : ∃ x, x = l[j] := ⟨_, rfl⟩
    rw [← hxe] at hx hsx
    have hld : ∀ w, Below W.heap.size W w → (Instr.loadAt 50 (.pointer (some (ad.add (j * 33))))).run Tryz.prog w = .ok (.agg (actC x)) w := fun w hb => by
      obtain ⟨a2, hae2, hel2⟩ := (hlw _ hb).elem (List.length_map _) hjl
      have hq := Option.some.inj (had.symm.trans hae2)
      subst hq
      exact ld_actA fun k u hu => hel2 k u (by rw [List.getElem_map, ← hxe]; exact hu)
    have hvo : ∀ w, Below W.heap.size W w → Rd w x.vo x.msg.owner := fun w hb => (hx.kept hb).vo
    have hvs : x.vs.oneCell' = true := hx.vs.one
    have hvo1 : x.vo.oneCell' = true := hx.vo.one
    have hL := hT
    clear hT
    refine wp_region_lit ?_
    refine h_op H4 rfl (wn rfl) (R_mv H4 rfl rfl) rfl (P6 47 1 5 7 9 11 rfl rfl rfl rfl rfl rfl) fun a5 H5 => ?_
    clear H4
    refine h_op H5 rfl (wn rfl) (R_mv H5 rfl rfl) rfl (P7 48 47 1 5 7 9 11 rfl rfl rfl rfl rfl rfl rfl) fun a6 H6 => ?_
    clear H5
    refine h_op H6 rfl (wn rfl) (R_ixa H6 rfl rfl rfl (ix_actE had hjl)) rfl (P6 49 1 5 7 9 11 rfl rfl rfl rfl rfl rfl) fun a7 H7 => ?_
    clear H6
    refine h_op H7 rfl (wn rfl) (R_ld H7 rfl rfl (hld _ hL.below)) rfl (P6 50 1 5 7 9 11 rfl rfl rfl rfl rfl rfl) fun a8 H8 => ?_
    clear H7
    refine h_opP (TwoK W pa oa aa S pb ob ab S [bk wl.heap.size zact 50]) H8 rfl (wn rfl) (R_alloc rfl al_act) (hL.add fun R h => h.alloc _ _) rfl (P7 12 50 1 5 7 9 11 rfl rfl rfl rfl rfl rfl rfl) fun a9 w9 H9 hL' => ?_
    replace hL := hL'
    clear H8 hL'
    refine h_stP (TwoK W pa oa aa S pb ob ab S [bk wl.heap.size (actC x) 50]) H9 rfl (wn rfl) (R_st H9 rfl rfl rfl (st_act (hL.mem List.mem_cons_self) (act_one hvo1 hvs))) (hL.upd fun R h => h.row _) fun a10 w10 H10 hL' => ?_
    replace hL := hL'
    clear H9 hL'
    refine h_end ?_
    obtain ⟨gx, hgx⟩ : ∃ g, g = wl.heap.size := ⟨_, rfl⟩
    rw [← hgx] at H10 hL
    clear hgx
    by_cases h1 : x.do_ = 1
    · repeat (go_not_at_region 13; go_step)
      refine wp_region_lit ?_
      refine h_op H10 rfl (wn rfl) (R_fa H10 rfl rfl fa_box0) rfl (P7 51 12 1 5 7 9 11 rfl rfl rfl rfl rfl rfl rfl) fun a11 H11 => ?_
      clear H10
      refine h_op H11 rfl (wn rfl) (R_ld H11 rfl rfl (ld_int (x := x.do_) (by rw [hL.cl List.mem_cons_self]; rfl))) rfl (P7 52 12 1 5 7 9 11 rfl rfl rfl rfl rfl rfl rfl) fun a12 H12 => ?_
      clear H11
      refine h_op H12 rfl (wn rfl) (R_bin H12 rfl rfl rfl (B_to (y := true) (B_eq Tryz.underlying3 _ _) (beq_iff_eq.2 h1))) rfl (P7 53 12 1 5 7 9 11 rfl rfl rfl rfl rfl rfl rfl) fun a13 H13 => ?_
      clear H12
      refine h_end ?_
      repeat (go_not_at_region 14; go_step)
      refine wp_cond_true (H13.ev (x := .tmp 53) rfl) ?_
      repeat (go_not_at_region 14; go_step)
      refine wp_region_lit ?_
      refine h_op H13 rfl (wn rfl) (R_fa H13 rfl rfl fa_box2) rfl (P6 54 1 5 7 9 11 rfl rfl rfl rfl rfl rfl) fun a14 H14 => ?_
      clear H13
      refine h_op H14 rfl (wn rfl) (R_ld H14 rfl rfl (ld_boxM (hL.mem List.mem_cons_self))) rfl (P6 55 1 5 7 9 11 rfl rfl rfl rfl rfl rfl) fun a15 H15 => ?_
      clear H14
      refine h_opP (TwoK W pa oa aa S pb ob ab S [bk w10.heap.size zcells 37, bk gx (actC x) 50]) H15 rfl (wn rfl) (R_alloc rfl al_mg) (hL.add fun R h => h.alloc _ _) rfl (P7 13 55 1 5 7 9 11 rfl rfl rfl rfl rfl rfl rfl) fun a16 w16 H16 hL' => ?_
      replace hL := hL'
      clear H15 hL'
      refine h_stP (TwoK W pa oa aa S pb ob ab S [bk w10.heap.size (mcells x.msg x.vo x.vs) 37, bk gx (actC x) 50]) H16 rfl (wn rfl) (R_st H16 rfl rfl rfl (st_mg (hL.mem List.mem_cons_self) (mcells_one hvo1 hvs))) (hL.upd fun R h => h.row _) fun a17 w17 H17 hL' => ?_
      replace hL := hL'
      clear H16 hL'
      refine h_end ?_
      obtain ⟨gm, hgm⟩ : ∃ g, g = w10.heap.size := ⟨_, rfl⟩
      rw [← hgm] at H17 hL
      clear hgm
      repeat (go_not_at_region 15; go_step)
      refine wp_region_lit ?_
      refine h_op H17 rfl (wn rfl) (R_mv H17 rfl rfl) rfl (P7 56 13 1 5 7 9 11 rfl rfl rfl rfl rfl rfl rfl) fun a18 H18 => ?_
      clear H17
      refine h_op H18 rfl (wn rfl) (R_bin H18 rfl rfl rfl (B_toI (y := ((n0 % 4 + 1 : Nat) : Int)) (B_add Tryz.underlying3 _ _ (by omega) (by omega)) (by omega))) rfl (P7 57 13 1 5 7 9 11 rfl rfl rfl rfl rfl rfl rfl) fun a19 H19 => ?_
      clear H18
      refine h_op H19 rfl (wn rfl) (R_bin H19 rfl rfl rfl (B_rem _ 4 (by decide) (by decide) (by omega))) rfl (P7 58 13 1 5 7 9 11 rfl rfl rfl rfl rfl rfl rfl) fun a20 H20 => ?_
      clear H19
      refine h_op H20 rfl (wn rfl) (R_fa H20 rfl rfl (fa29_9 _ _)) rfl (P8 59 58 13 1 5 7 9 11 rfl rfl rfl rfl rfl rfl rfl rfl) fun a21 H21 => ?_
      clear H20
      refine h_op H21 rfl (wn rfl) (R_fa H21 rfl rfl (fi_k (by decide))) rfl (P8 60 58 13 1 5 7 9 11 rfl rfl rfl rfl rfl rfl rfl rfl) fun a22 H22 => ?_
      clear H21
      refine h_stP (TwoK W pa oa aa S pb ob ab S [bk gm (mcells (x.msg.withSrc (((n0 % 4 + 1) % 4 : Nat) : Int)) x.vo x.vs) 37, bk gx (actC x) 50]) H22 rfl (wn rfl) (R_st H22 rfl rfl rfl (st_int (old := x.msg.isrc) (hL.mem List.mem_cons_self) rfl)) (hL.upd fun R h => h.put 9 _) fun a23 w23 H23 hL' => ?_
      replace hL := hL'
      clear H22 hL'
      refine h_end ?_
      by_cases hk : x.msg.kind = 14
      · repeat (go_not_at_region 16; go_step)
        refine wp_region_lit ?_
        refine h_op H23 rfl (wn rfl) (R_fa H23 rfl rfl (fa29_0 _ _)) rfl (P7 61 13 1 5 7 9 11 rfl rfl rfl rfl rfl rfl rfl) fun a24 H24 => ?_
        clear H23
        refine h_op H24 rfl (wn rfl) (R_ld H24 rfl rfl (ld_u8 (x := x.msg.kind) (by rw [hL.cl List.mem_cons_self]; rfl))) rfl (P7 62 13 1 5 7 9 11 rfl rfl rfl rfl rfl rfl rfl) fun a25 H25 => ?_
        clear H24
        refine h_op H25 rfl (wn rfl) (R_bin H25 rfl rfl rfl (B_to (y := true) (B8_eq _ _) (beq_iff_eq.2 (by omega)))) rfl (P7 63 13 1 5 7 9 11 rfl rfl rfl rfl rfl rfl rfl) fun a26 H26 => ?_
        clear H25
        refine h_end ?_
        repeat (go_not_at_region 17; go_step)
        refine wp_cond_true (H26.ev (x := .tmp 63) rfl) ?_
        repeat (go_not_at_region 17; go_step)
        refine wp_region_lit ?_
        refine h_op H26 rfl (wn rfl) (R_fa H26 rfl rfl (fa29_0 _ _)) rfl (P7 64 13 1 5 7 9 11 rfl rfl rfl rfl rfl rfl rfl) fun a27 H27 => ?_
        clear H26
        refine h_stP (TwoK W pa oa aa S pb ob ab S [bk gm (mcells ((x.msg.withSrc (((n0 % 4 + 1) % 4 : Nat) : Int)).withKind 11) x.vo x.vs) 37, bk gx (actC x) 50]) H27 rfl (wn rfl) (R_st H27 rfl rfl rfl (st_u8k (old := x.msg.kind) (hL.mem List.mem_cons_self) rfl)) (hL.upd fun R h => h.put 0 (.int .u8 11)) fun a28 w28 H28 hL' => ?_
        replace hL := hL'
        clear H27 hL'
        refine h_end ?_
        repeat (go_not_at_region 18; go_step)
        refine wp_region_lit ?_
        refine h_op H28 rfl (wn rfl) (R_mv H28 rfl rfl) rfl (P7 65 13 1 5 7 9 11 rfl rfl rfl rfl rfl rfl rfl) fun a29 H29 => ?_
        clear H28
        refine h_op H29 rfl (wn rfl) (R_ld H29 rfl rfl (ld_mgB (hL.mem List.mem_cons_self))) rfl (P7 66 65 1 5 7 9 11 rfl rfl rfl rfl rfl rfl rfl) fun a30 H30 => ?_
        clear H29
        refine h_call H30 rfl (wn rfl) (R_call2 H30 rfl rfl rfl (fun w => by simp [go_sem])) rfl ?_
        have hq := k2_handle (m := ((x.msg.withSrc (((n0 % 4 + 1) % 4 : Nat) : Int)).withKind 11)) (vo := x.vo) (vs := x.vs) hL hvo (by omega) hx.msg.iseq0 hx.msg.iseq1 (by omega) (by have := hsx.owner; show x.msg.owner.length ≤ _; omega) hvs
        rw [handle_own (by show (((n0 % 4 + 1) % 4 : Nat) : Int) ≠ S.src; rw [hsrc]; omega) (by first | (show (11 : Nat) ≠ 14; decide) | exact hk)] at hq
        refine hq.mono ?_
        rintro e w31 ⟨rfl, hL2⟩
        replace hL := hL2
        clear hL2 hq
        refine ⟨_, rfl, fun a31 HH => ?_⟩
        have H31 := HH _ (P6 67 1 5 7 9 11 rfl rfl rfl rfl rfl rfl)
        clear HH H30
        refine h_end ?_
        repeat (go_not_at_region 11; go_step)
        refine wp_cond_false (H31.ev (x := .tmp 67) rfl) ?_
        repeat (go_not_at_region 11; go_step)
        refine wp_region_lit ?_
        refine h_op H31 rfl (wn rfl) (R_mv H31 rfl rfl) rfl (P6 45 1 5 7 9 11 rfl rfl rfl rfl rfl rfl) fun a32 H32 => ?_
        clear H31
        refine h_op H32 rfl (wn rfl) (R_bin H32 rfl rfl rfl (B_add Tryz.underlying3 _ _ (by omega) (by omega))) rfl (P6 46 1 5 7 9 11 rfl rfl rfl rfl rfl rfl) fun a33 H33 => ?_
        clear H32
        refine h_op H33 rfl (wn rfl) (R_as H33 rfl rfl) rfl (P5 11 1 5 7 9 rfl rfl rfl rfl rfl) fun a34 H34 => ?_
        clear H33
        refine h_end ?_
        repeat (go_not_at_region 999; go_step)
        exact ⟨l.length - (j + 1), by omega, (HI.out _ _ _).2 ⟨j + 1, S, rfl, hjl, H34.pick _ (P5 1 5 7 9 11 rfl rfl rfl rfl rfl), hS.mono, hL.tail.tail⟩⟩
      · repeat (go_not_at_region 16; go_step)
        refine wp_region_lit ?_
        refine h_op H23 rfl (wn rfl) (R_fa H23 rfl rfl (fa29_0 _ _)) rfl (P7 61 13 1 5 7 9 11 rfl rfl rfl rfl rfl rfl rfl) fun a24 H24 => ?_
        clear H23
        refine h_op H24 rfl (wn rfl) (R_ld H24 rfl rfl (ld_u8 (x := x.msg.kind) (by rw [hL.cl List.mem_cons_self]; rfl))) rfl (P7 62 13 1 5 7 9 11 rfl rfl rfl rfl rfl rfl rfl) fun a25 H25 => ?_
        clear H24
        refine h_op H25 rfl (wn rfl) (R_bin H25 rfl rfl rfl (B_to (y := false) (B8_eq _ _) (beq_eq_false_iff_ne.2 (by omega)))) rfl (P7 63 13 1 5 7 9 11 rfl rfl rfl rfl rfl rfl rfl) fun a26 H26 => ?_
        clear H25
        refine h_end ?_
        repeat (go_not_at_region 18; go_step)
        refine wp_cond_false (H26.ev (x := .tmp 63) rfl) ?_
        repeat (go_not_at_region 18; go_step)
        refine wp_region_lit ?_
        refine h_op H26 rfl (wn rfl) (R_mv H26 rfl rfl) rfl (P7 65 13 1 5 7 9 11 rfl rfl rfl rfl rfl rfl rfl) fun a27 H27 => ?_
        clear H26
        refine h_op H27 rfl (wn rfl) (R_ld H27 rfl rfl (ld_mgB (hL.mem List.mem_cons_self))) rfl (P7 66 65 1 5 7 9 11 rfl rfl rfl rfl rfl rfl rfl) fun a28 H28 => ?_
        clear H27
        refine h_call H28 rfl (wn rfl) (R_call2 H28 rfl rfl rfl (fun w => by simp [go_sem])) rfl ?_
        have hq := k2_handle (m := (x.msg.withSrc (((n0 % 4 + 1) % 4 : Nat) : Int))) (vo := x.vo) (vs := x.vs) hL hvo (by omega) hx.msg.iseq0 hx.msg.iseq1 (by omega) (by have := hsx.owner; show x.msg.owner.length ≤ _; omega) hvs
        rw [handle_own (by show (((n0 % 4 + 1) % 4 : Nat) : Int) ≠ S.src; rw [hsrc]; omega) (by first | (show (11 : Nat) ≠ 14; decide) | exact hk)] at hq
        refine hq.mono ?_
        rintro e w29 ⟨rfl, hL2⟩
        replace hL := hL2
        clear hL2 hq
        refine ⟨_, rfl, fun a29 HH => ?_⟩
        have H29 := HH _ (P6 67 1 5 7 9 11 rfl rfl rfl rfl rfl rfl)
        clear HH H28
        refine h_end ?_
        repeat (go_not_at_region 11; go_step)
        refine wp_cond_false (H29.ev (x := .tmp 67) rfl) ?_
        repeat (go_not_at_region 11; go_step)
        refine wp_region_lit ?_
        refine h_op H29 rfl (wn rfl) (R_mv H29 rfl rfl) rfl (P6 45 1 5 7 9 11 rfl rfl rfl rfl rfl rfl) fun a30 H30 => ?_
        clear H29
        refine h_op H30 rfl (wn rfl) (R_bin H30 rfl rfl rfl (B_add Tryz.underlying3 _ _ (by omega) (by omega))) rfl (P6 46 1 5 7 9 11 rfl rfl rfl rfl rfl rfl) fun a31 H31 => ?_
        clear H30
        refine h_op H31 rfl (wn rfl) (R_as H31 rfl rfl) rfl (P5 11 1 5 7 9 rfl rfl rfl rfl rfl) fun a32 H32 => ?_
        clear H31
        refine h_end ?_
        repeat (go_not_at_region 999; go_step)
        exact ⟨l.length - (j + 1), by omega, (HI.out _ _ _).2 ⟨j + 1, S, rfl, hjl, H32.pick _ (P5 1 5 7 9 11 rfl rfl rfl rfl rfl), hS.mono, hL.tail.tail⟩⟩
    · repeat (go_not_at_region 13; go_step)
      refine wp_region_lit ?_
      refine h_op H10 rfl (wn rfl) (R_fa H10 rfl rfl fa_box0) rfl (P7 51 12 1 5 7 9 11 rfl rfl rfl rfl rfl rfl rfl) fun a11 H11 => ?_
      clear H10
      refine h_op H11 rfl (wn rfl) (R_ld H11 rfl rfl (ld_int (x := x.do_) (by rw [hL.cl List.mem_cons_self]; rfl))) rfl (P7 52 12 1 5 7 9 11 rfl rfl rfl rfl rfl rfl rfl) fun a12 H12 => ?_
      clear H11
      refine h_op H12 rfl (wn rfl) (R_bin H12 rfl rfl rfl (B_to (y := false) (B_eq Tryz.underlying3 _ _) (beq_eq_false_iff_ne.2 h1))) rfl (P7 53 12 1 5 7 9 11 rfl rfl rfl rfl rfl rfl rfl) fun a13 H13 => ?_
      clear H12
      refine h_end ?_
      repeat (go_not_at_region 20; go_step)
      refine wp_cond_false (H13.ev (x := .tmp 53) rfl) ?_
      repeat (go_not_at_region 20; go_step)
      refine wp_region_lit ?_
      refine h_op H13 rfl (wn rfl) (R_mv H13 rfl rfl) rfl (P7 69 12 1 5 7 9 11 rfl rfl rfl rfl rfl rfl rfl) fun a14 H14 => ?_
      clear H13
      refine h_op H14 rfl (wn rfl) (R_mv H14 rfl rfl) rfl (P8 70 69 12 1 5 7 9 11 rfl rfl rfl rfl rfl rfl rfl rfl) fun a15 H15 => ?_
      clear H14
      refine h_op H15 rfl (wn rfl) (R_ld H15 rfl rfl (ld_boxA (hL.mem List.mem_cons_self))) rfl (P9 71 70 69 12 1 5 7 9 11 rfl rfl rfl rfl rfl rfl rfl rfl rfl) fun a16 H16 => ?_
      clear H15
      refine h_call H16 rfl (wn rfl) (R_call3 H16 rfl rfl rfl rfl (fun w => by simp [go_sem])) rfl ?_
      refine (one_k (n := ((n0 % 4 : Nat) : Int)) hL hvo hvs hx.msg hsx (by omega) (by omega)).mono ?_
      rintro e w17 ⟨rfl, hL2⟩
      replace hL := hL2
      clear hL2
      refine ⟨_, rfl, fun a17 HH => ?_⟩
      have H17 := HH _ (P7 72 12 1 5 7 9 11 rfl rfl rfl rfl rfl rfl rfl)
      clear HH H16
      refine h_op H17 rfl (wn rfl) (R_mv H17 rfl rfl) rfl (P7 68 12 1 5 7 9 11 rfl rfl rfl rfl rfl rfl rfl) fun a18 H18 => ?_
      clear H17
      refine h_op H18 rfl (wn rfl) (R_ext H18 rfl rfl rfl) rfl (P8 73 68 12 1 5 7 9 11 rfl rfl rfl rfl rfl rfl rfl rfl) fun a19 H19 => ?_
      clear H18
      refine h_op H19 rfl (wn rfl) (R_ext H19 rfl rfl rfl) rfl (P9 74 73 68 12 1 5 7 9 11 rfl rfl rfl rfl rfl rfl rfl rfl rfl) fun a20 H20 => ?_
      clear H19
      refine h_op H20 rfl (wn rfl) (R_ext H20 rfl rfl rfl) rfl (P9 75 74 73 12 1 5 7 9 11 rfl rfl rfl rfl rfl rfl rfl rfl rfl) fun a21 H21 => ?_
      clear H20
      refine h_op H21 rfl (wn rfl) (R_as H21 rfl rfl) rfl (P9 14 75 74 12 1 5 7 9 11 rfl rfl rfl rfl rfl rfl rfl rfl rfl) fun a22 H22 => ?_
      clear H21
      refine h_op H22 rfl (wn rfl) (R_as H22 rfl rfl) rfl (P9 15 14 75 12 1 5 7 9 11 rfl rfl rfl rfl rfl rfl rfl rfl rfl) fun a23 H23 => ?_
      clear H22
      refine h_op H23 rfl (wn rfl) (R_as H23 rfl rfl) rfl (P9 16 15 14 12 1 5 7 9 11 rfl rfl rfl rfl rfl rfl rfl rfl rfl) fun a24 H24 => ?_
      clear H23
      refine h_end ?_
      repeat (go_not_at_region 21; go_step)
      refine wp_region_lit ?_
      refine h_op H24 rfl (wn rfl) (R_mv H24 rfl rfl) rfl (P10 77 16 15 14 12 1 5 7 9 11 rfl rfl rfl rfl rfl rfl rfl rfl rfl rfl) fun a25 H25 => ?_
      clear H24
      refine h_op H25 rfl (wn rfl) (R_mv H25 rfl rfl) rfl (P11 78 77 16 15 14 12 1 5 7 9 11 rfl rfl rfl rfl rfl rfl rfl rfl rfl rfl rfl) fun a26 H26 => ?_
      clear H25
      refine h_op H26 rfl (wn rfl) (R_ld H26 rfl rfl (ld_boxA (hL.mem List.mem_cons_self))) rfl (P11 79 78 77 16 15 14 1 5 7 9 11 rfl rfl rfl rfl rfl rfl rfl rfl rfl rfl rfl) fun a27 H27 => ?_
      clear H26
      refine h_call H27 rfl (wn rfl) (R_call3 H27 rfl rfl rfl rfl (fun w => by simp [go_sem])) rfl ?_
      refine (one_k (n := ((n0 % 4 : Nat) : Int)) hL.symm hvo hvs hx.msg hsx (by omega) (by omega)).mono ?_
      rintro e w28 ⟨rfl, hL2⟩
      replace hL := hL2.symm
      clear hL2
      refine ⟨_, rfl, fun a28 HH => ?_⟩
      have H28 := HH _ (P9 80 16 15 14 1 5 7 9 11 rfl rfl rfl rfl rfl rfl rfl rfl rfl)
      clear HH H27
      refine h_op H28 rfl (wn rfl) (R_mv H28 rfl rfl) rfl (P9 76 16 15 14 1 5 7 9 11 rfl rfl rfl rfl rfl rfl rfl rfl rfl) fun a29 H29 => ?_
      clear H28
      refine h_op H29 rfl (wn rfl) (R_ext H29 rfl rfl rfl) rfl (P10 81 76 16 15 14 1 5 7 9 11 rfl rfl rfl rfl rfl rfl rfl rfl rfl rfl) fun a30 H30 => ?_
      clear H29
      refine h_op H30 rfl (wn rfl) (R_ext H30 rfl rfl rfl) rfl (P11 82 81 76 16 15 14 1 5 7 9 11 rfl rfl rfl rfl rfl rfl rfl rfl rfl rfl rfl) fun a31 H31 => ?_
      clear H30
      refine h_op H31 rfl (wn rfl) (R_ext H31 rfl rfl rfl) rfl (P11 83 82 81 16 15 14 1 5 7 9 11 rfl rfl rfl rfl rfl rfl rfl rfl rfl rfl rfl) fun a32 H32 => ?_
      clear H31
      refine h_op H32 rfl (wn rfl) (R_as H32 rfl rfl) rfl (P11 17 83 82 16 15 14 1 5 7 9 11 rfl rfl rfl rfl rfl rfl rfl rfl rfl rfl rfl) fun a33 H33 => ?_
      clear H32
      refine h_op H33 rfl (wn rfl) (R_as H33 rfl rfl) rfl (P11 18 17 83 16 15 14 1 5 7 9 11 rfl rfl rfl rfl rfl rfl rfl rfl rfl rfl rfl) fun a34 H34 => ?_
      clear H33
      refine h_op H34 rfl (wn rfl) (R_as H34 rfl rfl) rfl (P11 19 18 17 16 15 14 1 5 7 9 11 rfl rfl rfl rfl rfl rfl rfl rfl rfl rfl rfl) fun a35 H35 => ?_
      clear H34
      refine h_end ?_
      repeat (go_not_at_region 22; go_step)
      refine wp_region_lit ?_
      refine h_op H35 rfl (wn rfl) (R_mv H35 rfl rfl) rfl (P11 84 19 18 17 16 15 1 5 7 9 11 rfl rfl rfl rfl rfl rfl rfl rfl rfl rfl rfl) fun a36 H36 => ?_
      clear H35
      refine h_op H36 rfl (wn rfl) (R_mv H36 rfl rfl) rfl (P11 85 84 19 18 16 15 1 5 7 9 11 rfl rfl rfl rfl rfl rfl rfl rfl rfl rfl rfl) fun a37 H37 => ?_
      clear H36
      refine h_op H37 rfl (wn rfl) (R_bin H37 rfl rfl rfl (B_to (y := false) (B_ne Tryz.underlying3 _ _) (by simp))) rfl (P10 86 19 18 16 15 1 5 7 9 11 rfl rfl rfl rfl rfl rfl rfl rfl rfl rfl) fun a38 H38 => ?_
      clear H37
      refine h_op H38 rfl (wn rfl) (R_mv H38 rfl rfl) rfl (P10 87 19 18 16 15 1 5 7 9 11 rfl rfl rfl rfl rfl rfl rfl rfl rfl rfl) fun a39 H39 => ?_
      clear H38
      refine h_op H39 rfl (H39.wt rfl rfl rfl) (R_mv H39 rfl rfl) rfl (P10 88 87 19 18 16 1 5 7 9 11 rfl rfl rfl rfl rfl rfl rfl rfl rfl rfl) fun a40 H40 => ?_
      clear H39
      refine h_op H40 rfl (H40.wt rfl rfl rfl) (R_mv H40 rfl rfl) rfl (P10 89 88 87 19 16 1 5 7 9 11 rfl rfl rfl rfl rfl rfl rfl rfl rfl rfl) fun a41 H41 => ?_
      clear H40
      refine h_op H41 rfl (H41.wt rfl rfl rfl) (R_bin H41 rfl rfl rfl (B_to (y := false) (B_ne Tryz.underlying23 _ _) (by simp))) rfl (P9 90 87 19 16 1 5 7 9 11 rfl rfl rfl rfl rfl rfl rfl rfl rfl) fun a42 H42 => ?_
      clear H41
      refine h_op H42 rfl (wn rfl) (R_pick H42 rfl rfl rfl) rfl (P8 91 19 16 1 5 7 9 11 rfl rfl rfl rfl rfl rfl rfl rfl) fun a43 H43 => ?_
      clear H42
      refine h_op H43 rfl (wn rfl) (R_mv H43 rfl rfl) rfl (P8 92 19 16 1 5 7 9 11 rfl rfl rfl rfl rfl rfl rfl rfl) fun a44 H44 => ?_
      clear H43
      refine h_op H44 rfl (H44.wt rfl rfl rfl) (R_mv H44 rfl rfl) rfl (P8 93 92 19 1 5 7 9 11 rfl rfl rfl rfl rfl rfl rfl rfl) fun a45 H45 => ?_
      clear H44
      refine h_op H45 rfl (H45.wt rfl rfl rfl) (R_mv H45 rfl rfl) rfl (P8 94 93 92 1 5 7 9 11 rfl rfl rfl rfl rfl rfl rfl rfl) fun a46 H46 => ?_
      clear H45
      refine h_op H46 rfl (H46.wt rfl rfl rfl) (R_bin H46 rfl rfl rfl B_bne) rfl (P7 95 92 1 5 7 9 11 rfl rfl rfl rfl rfl rfl rfl) fun a47 H47 => ?_
      clear H46
      refine h_op H47 rfl (wn rfl) (R_pick H47 rfl rfl rfl) rfl (P6 96 1 5 7 9 11 rfl rfl rfl rfl rfl rfl) fun a48 H48 => ?_
      clear H47
      refine h_end ?_
      repeat (go_not_at_region 11; go_step)
      refine wp_cond_false (H48.ev (x := .tmp 96) rfl) ?_
      repeat (go_not_at_region 11; go_step)
      refine wp_region_lit ?_
      refine h_op H48 rfl (wn rfl) (R_mv H48 rfl rfl) rfl (P6 45 1 5 7 9 11 rfl rfl rfl rfl rfl rfl) fun a49 H49 => ?_
      clear H48
      refine h_op H49 rfl (wn rfl) (R_bin H49 rfl rfl rfl (B_add Tryz.underlying3 _ _ (by omega) (by omega))) rfl (P6 46 1 5 7 9 11 rfl rfl rfl rfl rfl rfl) fun a50 H50 => ?_
      clear H49
      refine h_op H50 rfl (wn rfl) (R_as H50 rfl rfl) rfl (P5 11 1 5 7 9 rfl rfl rfl rfl rfl) fun a51 H51 => ?_
      clear H50
      refine h_end ?_
      repeat (go_not_at_region 999; go_step)
      exact ⟨l.length - (j + 1), by omega, (HI.out _ _ _).2 ⟨j + 1, _, rfl, hjl, H51.pick _ (P5 1 5 7 9 11 rfl rfl rfl rfl rfl), hold_one hS (hx.item.ok hsx.key), hL.tail⟩⟩
  · repeat (go_not_at_region 10; go_step)
    refine wp_region_lit ?_
    refine h_op H0 rfl (wn rfl) (R_mv H0 rfl rfl) rfl (P6 41 1 5 7 9 11 rfl rfl rfl rfl rfl rfl) fun a1 H1 => ?_
    clear H0
    refine h_op H1 rfl (wn rfl) (R_mv H1 rfl rfl) rfl (P7 42 41 1 5 7 9 11 rfl rfl rfl rfl rfl rfl rfl) fun a2 H2 => ?_
    clear H1
    refine h_op H2 rfl (wn rfl) (R_lenS H2 rfl rfl Tryz.underlying46) rfl (P7 43 41 1 5 7 9 11 rfl rfl rfl rfl rfl rfl rfl) fun a3 H3 => ?_
    clear H2
    refine h_op H3 rfl (wn rfl) (R_bin H3 rfl rfl rfl (B_to (y := false) (B_lt Tryz.underlying3 _ _) (decide_eq_false (by omega)))) rfl (P6 44 1 5 7 9 11 rfl rfl rfl rfl rfl rfl) fun a4 H4 => ?_
    clear H3
    refine h_end ?_
    repeat (go_not_at_region 24; go_step)
    refine wp_cond_false (H4.ev (x := .tmp 44) rfl) ?_
    repeat (go_not_at_region 24; go_step)
    refine wp_region_lit ?_
    refine h_op H4 rfl (wn rfl) (R_mv H4 rfl rfl) rfl (P2 97 9 rfl rfl) fun a5 H5 => ?_
    clear H4
    refine h_op H5 rfl (wn rfl) (R_mv H5 rfl rfl) rfl (P2 98 97 rfl rfl) fun a6 H6 => ?_
    clear H5
    refine h_call H6 rfl (wn rfl) (R_call2 H6 rfl rfl rfl (fun w => by simp [go_sem])) rfl ?_
    refine (k2_alike hT (by omega) (by omega) hS.ok (by omega) (by omega)).mono ?_
    rintro e w7 ⟨rfl, hb⟩
    refine ⟨_, rfl, fun a7 HH => ?_⟩
    have H7 := HH _ (P1 99 rfl)
    clear HH H6
    refine h_op H7 rfl (wn rfl) (R_as H7 rfl rfl) rfl (P1 4 rfl) fun a8 H8 => ?_
    clear H7
    refine h_end ?_
    repeat (go_not_at_region 999; go_step)
    exact H8.ret1 rfl rfl ⟨rfl, hb⟩
end
end Go.Proofs.YthkeiclhllikjaaGreat
