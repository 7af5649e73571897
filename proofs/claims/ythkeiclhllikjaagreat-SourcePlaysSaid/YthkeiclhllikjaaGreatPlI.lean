/-
  SourcePlays: its walk.
-/
import Derived.Test.YthkeiclhllikjaaGreatPlN
set_option linter.unusedSimpArgs false
set_option linter.unusedVariables false
namespace Go.Proofs.YthkeiclhllikjaaGreat
open Go.RowKit R
section
variable {w : World} {t : PTab} {v : Value} {p : Nat} {X : List Thg} {a b : Thg} {w0 : World} {oa aa : Nat} {S : PSrc}
theorem OneK.toX (h : OneK w0 p oa aa S ([a] ++ (X ++ [b])) w) : OneK w0 p oa aa S (X ++ [a, b]) w := h.perm (List.perm_middle (l₁ := X) (l₂ := [b]) (a := a)).symm
theorem OneK.toX2 {c : Thg} (h : OneK w0 p oa aa S (c :: ([a] ++ (X ++ [b]))) w) : OneK w0 p oa aa S (X ++ [c, a, b]) w := by
 have h2 : OneK w0 p oa aa S (c :: (X ++ [a, b])) w := h.perm ((List.perm_middle (l₁ := X) (l₂ := [b]) (a := a)).symm.cons c)
 exact h2.perm (List.perm_middle (l₁ := X) (l₂ := [a, b]) (a := c)).symm
theorem OneK.front3 {c : Thg} (h : OneK w0 p oa aa S (X ++ [c, a, b]) w) : OneK w0 p oa aa S (c :: (X ++ [a, b])) w := h.perm List.perm_middle
theorem OneK.g11f {c : Thg} (h : OneK w0 p oa aa S (c :: (X ++ [a, b])) w) : OneK w0 p oa aa S (a :: (X ++ [b])) w := h.tail.perm (List.perm_middle (l₁ := X) (l₂ := [b]) (a := a))
theorem OneK.rdcS {B : List Thg} {S' : PSrc} {vL : Value} (h : OneK w0 p oa aa S B w) (hp : PRow 64 9 vL S'.L.length (snF S'.L) X) (hs : ∀ q ∈ X, q ∈ B) : RdC w 9 vL (S'.L.map snC) := by
 obtain ⟨L, hL⟩ := h.lvl
 refine prow_rdc (K := []) hp (w0 := w0) (w := w) ?_
 rcases hp.2 with ⟨_, _, rfl⟩ | ⟨g, cap, cur, _, rfl, _⟩
 ·exact LV.dropl (X := B ++ L) (by rw [List.append_nil, List.append_nil]; exact hL)
 ·exact hL.only (List.mem_append.2 (.inl (hs _ List.mem_cons_self)))
theorem code_ne (c : Nat) : (true && true && (((c : Nat) : Int) != 0)) = decide (c ≠ 0) := by
 by_cases h : c = 0
 ·subst h
  rfl
 ·rw [decide_eq_true h, bne_iff_ne.2 (show (c : Int) ≠ 0 by omega)]
  rfl
theorem code_neb (c : Nat) : (decide (c ≠ 0) != (((c : Nat) : Int) != 0)) = false := by
 by_cases h : c = 0
 ·subst h
  rfl
 ·rw [decide_eq_true h, bne_iff_ne.2 (show (c : Int) ≠ 0 by omega)]
  rfl
theorem ld_tbrE {g : Nat} {vo vL : Value} (h : HasB g (rfC S vo vL) 55 w) (e : ∃ q l c, vo = .slice q l c) : (Instr.loadAt 28 (.pointer (some ⟨g, 1, none⟩))).run Tryz.prog w = .ok (.agg (tbC S.t vo)) w := by
 obtain ⟨q, l, c, rfl⟩ := e
 exact ld_tbr h
def tblMsg (t : PTab) : PMsg := { PMsg.zero with kind := 14, epoch := t.ep, nodes := t.nd, owner := t.own }
theorem bd_tbl {t : PTab} {q : Option Addr} {l c : Nat} : (Instr.build 37 #[(0, .int .u8 14), (10, .agg (tbC t (.slice q l c)))]).run Tryz.prog w = .ok (.agg (mcells (tblMsg t) (.slice q l c) (.slice none 0 0))) w := by
 simp [go_sem]
 rfl
theorem B_toI {s : Sem Value} {w' : World} {x y : Int} (h : s.run Tryz.prog w = .ok (.int .i64 x) w') (e : x = y) : s.run Tryz.prog w = .ok (.int .i64 y) w' := e ▸ h
theorem B_subI {A B : Operand} (x y : Int) (h0 : -9223372036854775808 ≤ x - y) (h1 : x - y < 9223372036854775808) : ((do eqGuard .sub 3 A B (.int .i64 x) (.int .i64 y); binOp .sub 3 (.int .i64 x) (.int .i64 y)) : Sem Value).run Tryz.prog w = .ok (.int .i64 (x - y)) w := by
 have e : IntKind.wrap .i64 (x - y) = x - y := i64_id (by omega) (by omega)
 simp [go_sem, e]
set_option maxRecDepth 100000 in
theorem fd_tb0 : (Instr.field 28 (.agg (tbC t v)) 0).run Tryz.prog w = .ok (.int .i64 t.ep) w := by 
 rw [show Instr.field 28 (.agg (tbC t v)) 0 = (underlying 28 >>= fun d => match d with | .struct fields => (match fields[0]? with | some f => (asAgg (.agg (tbC t v)) >>= fun a => part f.type a f.offset) | none => stuck "Field: no such field") | _ => stuck "Field: struct type expected") from rfl, Sem.run_bind, run_underlying Tryz.underlying28 w]
 rfl
end
section
variable {P : Program} {ops : Array Oper} {Q : Exit → Act → World → Prop} {o : Oper} {a : Act} {w w' : World} {n d : Nat} {v : Value} {m m' : List (Nat × Value)}
theorem R_fld {t : TypeId} {x : Operand} {i : Nat} {vx : Value} (H : Fr a n m) (ho : o.op = .field t x i) (hx : ev1 m x = some vx) (hl : (Instr.field t vx i).run P w = .ok v w') : (execOp a.eval o).run P w = .ok (.value v) w' := by
 unfold execOp; rw [ho]; simp only [H.ev hx]; exact fr_v hl
theorem o_opP {K : Act → World → Prop} (R : World → Prop) (i : Nat) (H : Fr a n m) (hi : ops[i]? = some o) (hd : o.dst = some d) (hg : Region.wanted o (yielded ops a.tmps) = true) (hr : (execOp a.eval o).run P w = .ok (.value v) w') (hL : R w') (hn : Nat.blt d n = true) (hp : Picks ((d, v) :: m) m')
  (k : ∀ a' w', Fr a' n m' → R w' → K a' w') : wpOp P ops Q i K a w :=
 o_op i H hi hd hg hr hn hp fun a' H' => k a' w' H' hL
end
section
variable {A : List (PItem × Nat)} {j c : Nat} {a : Addr} {q : Option Addr} {w : World}
theorem oc_open (hj : j < A.length) (hc : A[j].2 = 0) : (ents (opF A) (j + 1)).length = (ents (opF A) j).length + 1 := by
 show (ents (opF A) j ++ _).length = _
 rw [List.length_append]
 unfold opF
 rw [List.getElem?_eq_getElem hj]
 simp [hc]
theorem oc_done (hj : j < A.length) (hc : ¬ A[j].2 = 0) : (ents (opF A) (j + 1)).length = (ents (opF A) j).length := by
 show (ents (opF A) j ++ _).length = _
 rw [List.length_append]
 unfold opF
 rw [List.getElem?_eq_getElem hj]
 simp [hc]
theorem snc_code (h : RdC w 9 (.slice q A.length c) (A.map snC)) (e : q = some a) (hj : j < A.length) : w.cell? ((a.add (j * 9)).add 8) = some (.int .i64 (codeN A ((j + 1 : Nat) : Int) : Nat)) := by
 rw [codeN_at hj]
 exact snc_cell h e hj rfl
end
section
variable {W : World}
set_option maxRecDepth 100000 in
set_option maxHeartbeats 8000000 in
theorem plays_law {src seq : Int} {t : PTab} {l : List PAct} {vt v : Value} (q0 : -9223372036854775808 ≤ seq) (q1 : seq < 9223372036854775808) (ht : Rd W vt t.own) (hl : RdC W 33 v (l.map actC)) (hok : ∀ x ∈ l, x.OkA W) (hll : l.length ≤ maxLen) :
  Calls Tryz.prog 5 #[.int .i64 src, .agg (tbC t vt), v, .int .i64 seq] W fun e W' => e = .returned (.bool true) ∧ Below W.heap.size W W' := by
 have hlw : ∀ w, Below W.heap.size W w → RdC w 33 v (l.map actC) := fun w hb => hl.kept fun k hk => hb.block k hk
 have hokw : ∀ w, Below W.heap.size W w → ∀ x ∈ l, x.OkA w := fun w hb x hx => (hok x hx).kept hb
 have hRt : ∀ w, Below W.heap.size W w → Rd w vt t.own := fun w hb => ht.kept fun k hk => hb.block k hk
 have hvt1 : vt.oneCell' = true := ht.one
 obtain ⟨A1, c1, rfl⟩ := hl.slc
 obtain ⟨A4, c4, rfl⟩ := ht.slc
 rw [List.length_map] at hlw
 rw [List.length_map]
 clear hl ht
 have ml : maxLen ≤ 9223372036854775807 := by unfold maxLen; omega
 have hL := LV.init W
 go_enter Tryz.func5, Tryz.ntmps5
 refine wp_fr (n := 269) (m := [(0, _), (1, _), (2, _), (3, _)]) ⟨rfl, rfl, by intro p hp; simp only [List.mem_cons, List.not_mem_nil, or_false] at hp; rcases hp with rfl | rfl | rfl | rfl <;> rfl⟩ fun a0 H0 => ?_
 repeat (go_not_at_region 0; go_step)
 refine wp_region_lit ?_
 refine h_opS [bk W.heap.size (tbC t (.slice A4 t.own.length c4)) 28] H0 rfl (wn rfl) (R_box H0 rfl rfl bx_tb) (hL.alloc _ _) rfl (P4 5 0 2 3 rfl rfl rfl rfl) fun _ w1 H1 hL => ?_
 refine h_o H1 rfl (R_as H1 rfl rfl) (P4 5 0 2 3 rfl rfl rfl rfl) fun _ H2 => ?_
 refine h_end ?_
 obtain ⟨g5, hg5⟩ : ∃ g, g = W.heap.size := ⟨_, rfl⟩
 rw [← hg5] at H2 hL
 clear hg5
 repeat (go_not_at_region 1; go_step)
 refine wp_region_lit ?_
 refine h_call H2 rfl (wn rfl) (R_call0 H2 rfl (fun w => by simp [go_sem])) rfl ?_
 refine awake_ok.mono ?_
 rintro e w3 ⟨rfl, hb⟩
 replace hL := hL.call hb
 clear hb
 refine ⟨_, rfl, fun a3 HH => ?_⟩
 have H3 := HH _ (P5 31 5 0 2 3 rfl rfl rfl rfl rfl)
 refine h_o H3 rfl (R_not H3 rfl rfl) (P5 32 5 0 2 3 rfl rfl rfl rfl rfl) fun _ H4 => ?_
 refine h_end ?_
 repeat (go_not_at_region 3; go_step)
 refine wp_cond_false (H4.ev (x := .tmp 32) rfl) ?_
 repeat (go_not_at_region 3; go_step)
 refine wp_region_lit ?_
 by_cases h300 : (t.own.length : Int) > 300
 ·refine h_op H4 rfl (wn rfl) (R_fa H4 rfl rfl (ft_2 _ _ _)) rfl (P2 33 2 rfl rfl) fun a5 H5 => ?_
  refine h_o H5 rfl (R_ld H5 rfl rfl (ld_sl (hL.cell 2))) (P2 34 2 rfl rfl) fun _ H6 => ?_
  refine h_o H6 rfl (R_lenS H6 rfl rfl Tryz.underlying26) (P2 35 2 rfl rfl) fun _ H7 => ?_
  refine h_o H7 rfl (R_bin H7 rfl rfl rfl (B_to (y := true) (B_gt Tryz.underlying3 _ _) (decide_eq_true h300))) (P2 36 2 rfl rfl) fun _ H8 => ?_
  refine h_o H8 rfl (R_mv H8 rfl rfl) (P2 37 2 rfl rfl) fun _ H9 => ?_
  refine h_skip H9 rfl (H9.wf rfl rfl rfl) rfl (P2 38 37 rfl rfl) fun _ H10 => ?_
  refine h_skip H10 rfl (H10.wf rfl rfl rfl) rfl (P2 39 37 rfl rfl) fun _ H11 => ?_
  refine h_o H11 rfl (R_pick H11 rfl rfl rfl) (P1 40 rfl) fun _ H12 => ?_
  refine h_end ?_
  repeat (go_not_at_region 4; go_step)
  refine wp_cond_true (H12.ev (x := .tmp 40) rfl) ?_
  repeat (go_not_at_region 4; go_step)
  refine wp_region_lit ?_
  refine h_o H12 rfl (R_as H12 rfl rfl) (P1 8 rfl) fun _ H13 => ?_
  refine h_end ?_
  repeat (go_not_at_region 999; go_step)
  exact H13.ret1 rfl rfl ⟨rfl, hL.1⟩
 refine h_o H4 rfl (R_fa H4 rfl rfl (ft_2 _ _ _)) (P5 33 5 0 2 3 rfl rfl rfl rfl rfl) fun _ H5 => ?_
 refine h_o H5 rfl (R_ld H5 rfl rfl (ld_sl (hL.cell 2))) (P5 34 5 0 2 3 rfl rfl rfl rfl rfl) fun _ H6 => ?_
 refine h_o H6 rfl (R_lenS H6 rfl rfl Tryz.underlying26) (P5 35 5 0 2 3 rfl rfl rfl rfl rfl) fun _ H7 => ?_
 refine h_o H7 rfl (R_bin H7 rfl rfl rfl (B_to (y := false) (B_gt Tryz.underlying3 _ _) (decide_eq_false h300))) (P5 36 5 0 2 3 rfl rfl rfl rfl rfl) fun _ H8 => ?_
 refine h_o H8 rfl (R_mv H8 rfl rfl) (P5 37 5 0 2 3 rfl rfl rfl rfl rfl) fun _ H9 => ?_
 refine h_op H9 rfl (H9.wt rfl rfl rfl) (R_mv H9 rfl rfl) rfl (P6 38 37 5 0 2 3 rfl rfl rfl rfl rfl rfl) fun _ H10 => ?_
 refine h_call H10 rfl (H10.wt rfl rfl rfl) (R_call1 H10 rfl rfl (fun w => by simp [go_sem])) rfl ?_
 refine (great_any (hlw _ hL.1) (hokw _ hL.1) hll).mono ?_
 rintro e w11 ⟨b, rfl, hb, hsm⟩
 replace hL := hL.call hb
 clear hb
 refine ⟨_, rfl, fun a11 HH => ?_⟩
 have H11 := HH _ (P6 39 37 5 0 2 3 rfl rfl rfl rfl rfl rfl)
 refine h_o H11 rfl (R_pick H11 rfl rfl rfl) (P5 40 5 0 2 3 rfl rfl rfl rfl rfl) fun _ H12 => ?_
 refine h_end ?_
 cases b
 rotate_left
 ·repeat (go_not_at_region 4; go_step)
  refine wp_cond_true (H12.ev (x := .tmp 40) rfl) ?_
  repeat (go_not_at_region 4; go_step)
  refine wp_region_lit ?_
  refine h_o H12 rfl (R_as H12 rfl rfl) (P1 8 rfl) fun _ H13 => ?_
  refine h_end ?_
  repeat (go_not_at_region 999; go_step)
  exact H13.ret1 rfl rfl ⟨rfl, hL.1⟩
 obtain ⟨h200, hsmall⟩ := hsm rfl
 clear hsm
 have hok2 := hok
 repeat (go_not_at_region 5; go_step)
 refine wp_cond_false (H12.ev (x := .tmp 40) rfl) ?_
 cases hb : newB src t
 ·repeat (go_not_at_region 5; go_step)
  refine wp_region_lit ?_
  refine h_o H12 rfl (R_mv H12 rfl rfl) (P5 42 5 0 2 3 rfl rfl rfl rfl rfl) fun _ H13 => ?_
  refine h_o H13 rfl (R_ld H13 rfl rfl (ld_tb (t := t) hL.at_)) (P6 43 42 5 0 2 3 rfl rfl rfl rfl rfl rfl) fun _ H14 => ?_
  refine h_call H14 rfl (wn rfl) (R_call2 H14 rfl rfl rfl (fun w => by simp [go_sem])) rfl ?_
  refine (new_any (t := t) (src := src) (hRt _ hL.1) (by omega)).mono ?_
  rintro e w15 ⟨_, hB⟩
  obtain ⟨rfl, hb2⟩ := hB hb
  replace hL := hL.call hb2
  clear hB hb2
  refine ⟨_, rfl, fun a15 HH => ?_⟩
  have H15 := HH _ (P5 44 5 0 2 3 rfl rfl rfl rfl rfl)
  refine h_o H15 rfl (R_mv H15 rfl rfl) (P5 41 5 0 2 3 rfl rfl rfl rfl rfl) fun _ H16 => ?_
  refine h_o H16 rfl (R_ext H16 rfl rfl rfl) (P6 45 41 5 0 2 3 rfl rfl rfl rfl rfl rfl) fun _ H17 => ?_
  refine h_o H17 rfl (R_ext H17 rfl rfl rfl) (P6 46 45 5 0 2 3 rfl rfl rfl rfl rfl rfl) fun _ H18 => ?_
  refine h_o H18 rfl (R_as H18 rfl rfl) (P6 9 46 5 0 2 3 rfl rfl rfl rfl rfl rfl) fun _ H19 => ?_
  refine h_o H19 rfl (R_as H19 rfl rfl) (P6 10 9 5 0 2 3 rfl rfl rfl rfl rfl rfl) fun _ H20 => ?_
  refine h_end ?_
  repeat (go_not_at_region 6; go_step)
  refine wp_region_lit ?_
  refine h_o H20 rfl (R_mv H20 rfl rfl) (P5 48 10 9 5 3 rfl rfl rfl rfl rfl) fun _ H21 => ?_
  refine h_o H21 rfl (R_ld H21 rfl rfl (ld_tb (t := t) hL.at_)) (P5 49 48 10 9 3 rfl rfl rfl rfl rfl) fun _ H22 => ?_
  refine h_call H22 rfl (wn rfl) (R_call2 H22 rfl rfl rfl (fun w => by simp [go_sem])) rfl ?_
  refine (rnew_any (t := t) (src := src) (hRt _ hL.1) (by omega)).mono ?_
  rintro e w23 ⟨_, hB, hb2⟩
  obtain rfl := hB hb
  replace hL := hL.call hb2
  clear hB hb2
  refine ⟨_, rfl, fun a23 HH => ?_⟩
  have H23 := HH _ (P4 50 10 9 3 rfl rfl rfl rfl)
  refine h_o H23 rfl (R_mv H23 rfl rfl) (P4 47 10 9 3 rfl rfl rfl rfl) fun _ H24 => ?_
  refine h_o H24 rfl (R_ext H24 rfl rfl rfl) (P5 51 47 10 9 3 rfl rfl rfl rfl rfl) fun _ H25 => ?_
  refine h_o H25 rfl (R_ext H25 rfl rfl rfl) (P5 52 51 10 9 3 rfl rfl rfl rfl rfl) fun _ H26 => ?_
  refine h_opS [bk _ (rfC rfZ (.slice none 0 0) (.slice none 0 0)) 55, bk g5 (tbC t (.slice A4 t.own.length c4)) 28] H26 rfl (wn rfl) (R_alloc rfl al_rf) (hL.alloc _ _) rfl (P6 11 52 51 10 9 3 rfl rfl rfl rfl rfl rfl) fun _ w27 H27 hL => ?_
  refine h_stS [bk _ (rfC rfZ (.slice none 0 0) (.slice none 0 0)) 55, bk g5 (tbC t (.slice A4 t.own.length c4)) 28] H27 rfl (wn rfl) (R_st H27 rfl rfl rfl (st_rf (S := rfZ) hL.at_ rfl rfl)) (hL.row _) fun _ w28 H28 hL => ?_
  refine h_o H28 rfl (R_as H28 rfl rfl) (P4 12 10 9 3 rfl rfl rfl rfl) fun _ H29 => ?_
  refine h_end ?_
  repeat (go_not_at_region 7; go_step)
  refine wp_region_lit ?_
  refine h_o H29 rfl (R_mv H29 rfl rfl) (P4 53 12 9 3 rfl rfl rfl rfl) fun _ H30 => ?_
  refine h_o H30 rfl (R_mv H30 rfl rfl) (P5 54 53 12 9 3 rfl rfl rfl rfl rfl) fun _ H31 => ?_
  refine h_o H31 rfl (R_bin H31 rfl rfl rfl (B_to (y := false) (B_ne Tryz.underlying3 _ _) (by decide))) (P4 55 12 9 3 rfl rfl rfl rfl) fun _ H32 => ?_
  refine h_o H32 rfl (R_mv H32 rfl rfl) (P4 56 12 9 3 rfl rfl rfl rfl) fun _ H33 => ?_
  refine h_op H33 rfl (H33.wt rfl rfl rfl) (R_mv H33 rfl rfl) rfl (P5 57 56 12 9 3 rfl rfl rfl rfl rfl) fun _ H34 => ?_
  refine h_op H34 rfl (H34.wt rfl rfl rfl) (R_bin H34 rfl rfl rfl B_pnn) rfl (P5 58 56 12 9 3 rfl rfl rfl rfl rfl) fun _ H35 => ?_
  refine h_op H35 rfl (H35.wt rfl rfl rfl) (R_mv H35 rfl rfl) rfl (P5 59 58 56 9 3 rfl rfl rfl rfl rfl) fun _ H36 => ?_
  refine h_op H36 rfl (H36.wt rfl rfl rfl) (R_bin H36 rfl rfl rfl (B_to (y := true) (B_ne Tryz.underlying3 _ _) (by decide))) rfl (P5 60 58 56 9 3 rfl rfl rfl rfl rfl) fun _ H37 => ?_
  refine h_op H37 rfl (H37.wt rfl rfl rfl) (R_bin H37 rfl rfl rfl B_bne) rfl (P4 61 56 9 3 rfl rfl rfl rfl) fun _ H38 => ?_
  refine h_o H38 rfl (R_pick H38 rfl rfl rfl) (P3 62 9 3 rfl rfl rfl) fun _ H39 => ?_
  refine h_end ?_
  repeat (go_not_at_region 9; go_step)
  refine wp_cond_false (H39.ev (x := .tmp 62) rfl) ?_
  repeat (go_not_at_region 9; go_step)
  refine wp_region_lit ?_
  refine h_o H39 rfl (R_mv H39 rfl rfl) (P3 63 9 3 rfl rfl rfl) fun _ H40 => ?_
  refine h_o H40 rfl (R_bin H40 rfl rfl rfl B_pnn) (P3 64 9 3 rfl rfl rfl) fun _ H41 => ?_
  refine h_end ?_
  repeat (go_not_at_region 10; go_step)
  refine wp_cond_true (H41.ev (x := .tmp 64) rfl) ?_
  repeat (go_not_at_region 10; go_step)
  refine wp_region_lit ?_
  refine h_o H41 rfl (R_mv H41 rfl rfl) (P3 66 9 3 rfl rfl rfl) fun _ H42 => ?_
  refine h_o H42 rfl (R_bd1 H42 rfl rfl bd_it1) (P4 67 66 9 3 rfl rfl rfl rfl) fun _ H43 => ?_
  refine h_call H43 rfl (wn rfl) (R_call2 H43 rfl rfl rfl (fun w => by simp [go_sem])) rfl ?_
  refine (send_nil).mono ?_
  rintro e w44 ⟨rfl, hb2⟩
  replace hL := hL.call hb2
  clear hb2
  refine ⟨_, rfl, fun a44 HH => ?_⟩
  have H44 := HH _ (P3 68 9 3 rfl rfl rfl)
  refine h_o H44 rfl (R_mv H44 rfl rfl) (P3 65 9 3 rfl rfl rfl) fun _ H45 => ?_
  refine h_o H45 rfl (R_ext H45 rfl rfl rfl) (P4 69 65 9 3 rfl rfl rfl rfl) fun _ H46 => ?_
  refine h_o H46 rfl (R_ext H46 rfl rfl rfl) (P4 70 69 9 3 rfl rfl rfl rfl) fun _ H47 => ?_
  refine h_o H47 rfl (R_as H47 rfl rfl) (P3 70 9 3 rfl rfl rfl) fun _ H48 => ?_
  refine h_o H48 rfl (R_as H48 rfl rfl) (P3 14 9 3 rfl rfl rfl) fun _ H49 => ?_
  refine h_end ?_
  repeat (go_not_at_region 11; go_step)
  refine wp_region_lit ?_
  refine h_o H49 rfl (R_build rfl bd_srZ) (P4 72 14 9 3 rfl rfl rfl rfl) fun _ H50 => ?_
  refine h_opS [bk _ srZ 60] H50 rfl (wn rfl) (R_box H50 rfl rfl bx_srZ) ((hL.tail.tail).alloc _ _) rfl (P4 73 14 9 3 rfl rfl rfl rfl) fun _ w51 H51 hL => ?_
  refine h_o H51 rfl (R_bd1 H51 rfl rfl bd_it1) (P5 74 73 14 9 3 rfl rfl rfl rfl rfl) fun _ H52 => ?_
  refine h_call H52 rfl (wn rfl) (R_call2 H52 rfl rfl rfl (fun w => by simp [go_sem])) rfl ?_
  refine (send_zero (fun w2 hb => (LV.cell (hL.call hb) 4).trans rfl)).mono ?_
  rintro e w53 ⟨rfl, hb2⟩
  replace hL := hL.call hb2
  clear hb2
  refine ⟨_, rfl, fun a53 HH => ?_⟩
  have H53 := HH _ (P4 75 14 9 3 rfl rfl rfl rfl)
  refine h_o H53 rfl (R_mv H53 rfl rfl) (P4 71 14 9 3 rfl rfl rfl rfl) fun _ H54 => ?_
  refine h_o H54 rfl (R_ext H54 rfl rfl rfl) (P5 76 71 14 9 3 rfl rfl rfl rfl rfl) fun _ H55 => ?_
  refine h_o H55 rfl (R_ext H55 rfl rfl rfl) (P5 77 76 14 9 3 rfl rfl rfl rfl rfl) fun _ H56 => ?_
  refine h_o H56 rfl (R_as H56 rfl rfl) (P4 77 14 9 3 rfl rfl rfl rfl) fun _ H57 => ?_
  refine h_o H57 rfl (R_as H57 rfl rfl) (P4 16 14 9 3 rfl rfl rfl rfl) fun _ H58 => ?_
  refine h_end ?_
  repeat (go_not_at_region 12; go_step)
  refine wp_region_lit ?_
  refine h_o H58 rfl (R_mv H58 rfl rfl) (P5 79 16 14 9 3 rfl rfl rfl rfl rfl) fun _ H59 => ?_
  refine h_o H59 rfl (R_mv H59 rfl rfl) (P5 80 79 16 14 9 rfl rfl rfl rfl rfl) fun _ H60 => ?_
  refine h_call H60 rfl (wn rfl) (R_call2 H60 rfl rfl rfl (fun w => by simp [go_sem])) rfl ?_
  refine (answer_nil).mono ?_
  rintro e w61 ⟨rfl, hb2⟩
  replace hL := hL.call hb2
  clear hb2
  refine ⟨_, rfl, fun a61 HH => ?_⟩
  have H61 := HH _ (P4 81 16 14 9 rfl rfl rfl rfl)
  refine h_o H61 rfl (R_mv H61 rfl rfl) (P4 78 16 14 9 rfl rfl rfl rfl) fun _ H62 => ?_
  refine h_o H62 rfl (R_ext H62 rfl rfl rfl) (P5 82 78 16 14 9 rfl rfl rfl rfl rfl) fun _ H63 => ?_
  refine h_o H63 rfl (R_ext H63 rfl rfl rfl) (P5 83 82 16 14 9 rfl rfl rfl rfl rfl) fun _ H64 => ?_
  refine h_o H64 rfl (R_as H64 rfl rfl) (P4 83 16 14 9 rfl rfl rfl rfl) fun _ H65 => ?_
  refine h_o H65 rfl (R_as H65 rfl rfl) (P4 18 16 14 9 rfl rfl rfl rfl) fun _ H66 => ?_
  refine h_end ?_
  repeat (go_not_at_region 13; go_step)
  refine wp_region_lit ?_
  refine h_o H66 rfl (R_mv H66 rfl rfl) (P4 84 18 16 9 rfl rfl rfl rfl) fun _ H67 => ?_
  refine h_o H67 rfl (R_bin H67 rfl rfl rfl (B_to (y := true) (B_eq Tryz.underlying23 _ _) (by decide))) (P4 85 18 16 9 rfl rfl rfl rfl) fun _ H68 => ?_
  refine h_o H68 rfl (R_mv H68 rfl rfl) (P4 86 18 16 9 rfl rfl rfl rfl) fun _ H69 => ?_
  refine h_op H69 rfl (H69.wt rfl rfl rfl) (R_mv H69 rfl rfl) rfl (P4 87 86 18 9 rfl rfl rfl rfl) fun _ H70 => ?_
  refine h_op H70 rfl (H70.wt rfl rfl rfl) (R_bin H70 rfl rfl rfl (B_to (y := true) (B_eq Tryz.underlying23 _ _) (by decide))) rfl (P4 88 86 18 9 rfl rfl rfl rfl) fun _ H71 => ?_
  refine h_o H71 rfl (R_pick H71 rfl rfl rfl) (P3 89 18 9 rfl rfl rfl) fun _ H72 => ?_
  refine h_o H72 rfl (R_mv H72 rfl rfl) (P3 90 18 9 rfl rfl rfl) fun _ H73 => ?_
  refine h_op H73 rfl (H73.wt rfl rfl rfl) (R_mv H73 rfl rfl) rfl (P3 91 90 9 rfl rfl rfl) fun _ H74 => ?_
  refine h_op H74 rfl (H74.wt rfl rfl rfl) (R_not H74 rfl rfl) rfl (P3 92 90 9 rfl rfl rfl) fun _ H75 => ?_
  refine h_o H75 rfl (R_pick H75 rfl rfl rfl) (P2 93 9 rfl rfl) fun _ H76 => ?_
  refine h_o H76 rfl (R_mv H76 rfl rfl) (P2 94 9 rfl rfl) fun _ H77 => ?_
  refine h_op H77 rfl (H77.wt rfl rfl rfl) (R_mv H77 rfl rfl) rfl (P3 95 94 9 rfl rfl rfl) fun _ H78 => ?_
  refine h_call H78 rfl (H78.wt rfl rfl rfl) (R_call1 H78 rfl rfl (fun w => by simp [go_sem])) rfl ?_
  refine (tick_nil).mono ?_
  rintro e w79 ⟨rfl, hb2⟩
  replace hL := hL.call hb2
  clear hb2
  refine ⟨_, rfl, fun a79 HH => ?_⟩
  have H79 := HH _ (P3 96 94 9 rfl rfl rfl)
  refine h_op H79 rfl (H79.wt rfl rfl rfl) (R_lenS H79 rfl rfl Tryz.underlying41) rfl (P3 97 94 9 rfl rfl rfl) fun _ H80 => ?_
  refine h_op H80 rfl (H80.wt rfl rfl rfl) (R_bin H80 rfl rfl rfl (B_to (y := true) (B_eq Tryz.underlying3 _ _) (by decide))) rfl (P3 98 94 9 rfl rfl rfl) fun _ H81 => ?_
  refine h_o H81 rfl (R_pick H81 rfl rfl rfl) (P2 99 9 rfl rfl) fun _ H82 => ?_
  refine h_o H82 rfl (R_mv H82 rfl rfl) (P2 100 9 rfl rfl) fun _ H83 => ?_
  refine h_op H83 rfl (H83.wt rfl rfl rfl) (R_mv H83 rfl rfl) rfl (P3 101 100 9 rfl rfl rfl) fun _ H84 => ?_
  refine h_call H84 rfl (H84.wt rfl rfl rfl) (R_call0 H84 rfl (fun w => by simp [go_sem])) rfl ?_
  refine first_any.mono ?_
  rintro e w85 ⟨vf, Rf, rfl, hrf, hL2⟩
  replace hL := hL.call hL2.1
  clear hL2
  obtain ⟨pf, cf, rfl⟩ := hrf.shapeI
  refine ⟨_, rfl, fun a85 HH => ?_⟩
  have H85 := HH _ (P4 102 101 100 9 rfl rfl rfl rfl)
  refine h_op H85 rfl (H85.wt rfl rfl rfl) (R_bd2 H85 rfl rfl rfl bd_tbl) rfl (P4 103 101 100 9 rfl rfl rfl rfl) fun _ H86 => ?_
  refine h_call H86 rfl (H86.wt rfl rfl rfl) (R_call2 H86 rfl rfl rfl (fun w => by simp [go_sem])) rfl ?_
  refine (handle_nil).mono ?_
  rintro e w87 ⟨rfl, hb2⟩
  replace hL := hL.call hb2
  clear hb2
  refine ⟨_, rfl, fun a87 HH => ?_⟩
  have H87 := HH _ (P3 104 100 9 rfl rfl rfl)
  refine h_op H87 rfl (H87.wt rfl rfl rfl) (R_not H87 rfl rfl) rfl (P3 105 100 9 rfl rfl rfl) fun _ H88 => ?_
  refine h_o H88 rfl (R_pick H88 rfl rfl rfl) (P2 106 9 rfl rfl) fun _ H89 => ?_
  refine h_o H89 rfl (R_mv H89 rfl rfl) (P2 107 9 rfl rfl) fun _ H90 => ?_
  refine h_op H90 rfl (H90.wt rfl rfl rfl) (R_mv H90 rfl rfl) rfl (P3 108 107 9 rfl rfl rfl) fun _ H91 => ?_
  refine h_call H91 rfl (H91.wt rfl rfl rfl) (R_call1 H91 rfl rfl (fun w => by simp [go_sem])) rfl ?_
  refine (low_nil).mono ?_
  rintro e w92 ⟨rfl, hb2⟩
  replace hL := hL.call hb2
  clear hb2
  refine ⟨_, rfl, fun a92 HH => ?_⟩
  have H92 := HH _ (P3 109 107 9 rfl rfl rfl)
  refine h_op H92 rfl (H92.wt rfl rfl rfl) (R_bin H92 rfl rfl rfl (B_to (y := true) (B_eq Tryz.underlying3 _ _) (by decide))) rfl (P3 110 107 9 rfl rfl rfl) fun _ H93 => ?_
  refine h_o H93 rfl (R_pick H93 rfl rfl rfl) (P2 111 9 rfl rfl) fun _ H94 => ?_
  refine h_o H94 rfl (R_mv H94 rfl rfl) (P2 112 9 rfl rfl) fun _ H95 => ?_
  refine h_op H95 rfl (H95.wt rfl rfl rfl) (R_mv H95 rfl rfl) rfl (P3 113 112 9 rfl rfl rfl) fun _ H96 => ?_
  refine h_call H96 rfl (H96.wt rfl rfl rfl) (R_call1 H96 rfl rfl (fun w => by simp [go_sem])) rfl ?_
  refine (last_nil).mono ?_
  rintro e w97 ⟨rfl, hb2⟩
  replace hL := hL.call hb2
  clear hb2
  refine ⟨_, rfl, fun a97 HH => ?_⟩
  have H97 := HH _ (P3 114 112 9 rfl rfl rfl)
  refine h_op H97 rfl (H97.wt rfl rfl rfl) (R_bin H97 rfl rfl rfl (B_to (y := true) (B_eq Tryz.underlying3 _ _) (by decide))) rfl (P3 115 112 9 rfl rfl rfl) fun _ H98 => ?_
  refine h_o H98 rfl (R_pick H98 rfl rfl rfl) (P2 116 9 rfl rfl) fun _ H99 => ?_
  refine h_o H99 rfl (R_mv H99 rfl rfl) (P2 117 9 rfl rfl) fun _ H100 => ?_
  refine h_op H100 rfl (H100.wt rfl rfl rfl) (R_mv H100 rfl rfl) rfl (P3 118 117 9 rfl rfl rfl) fun _ H101 => ?_
  refine h_call H101 rfl (H101.wt rfl rfl rfl) (R_call1 H101 rfl rfl (fun w => by simp [go_sem])) rfl ?_
  refine (left_nil).mono ?_
  rintro e w102 ⟨rfl, hb2⟩
  replace hL := hL.call hb2
  clear hb2
  refine ⟨_, rfl, fun a102 HH => ?_⟩
  have H102 := HH _ (P3 119 117 9 rfl rfl rfl)
  refine h_op H102 rfl (H102.wt rfl rfl rfl) (R_bin H102 rfl rfl rfl (B_to (y := true) (B_eq Tryz.underlying3 _ _) (by decide))) rfl (P3 120 117 9 rfl rfl rfl) fun _ H103 => ?_
  refine h_o H103 rfl (R_pick H103 rfl rfl rfl) (P2 121 9 rfl rfl) fun _ H104 => ?_
  refine h_o H104 rfl (R_mv H104 rfl rfl) (P2 122 9 rfl rfl) fun _ H105 => ?_
  refine h_op H105 rfl (H105.wt rfl rfl rfl) (R_mv H105 rfl rfl) rfl (P2 123 122 rfl rfl) fun _ H106 => ?_
  refine h_call H106 rfl (H106.wt rfl rfl rfl) (R_call1 H106 rfl rfl (fun w => by simp [go_sem])) rfl ?_
  refine (table_nil).mono ?_
  rintro e w107 ⟨rfl, hb2⟩
  replace hL := hL.call hb2
  clear hb2
  refine ⟨_, rfl, fun a107 HH => ?_⟩
  have H107 := HH _ (P2 124 122 rfl rfl)
  refine h_op H107 rfl (H107.wt rfl rfl rfl) (R_fld H107 rfl rfl fd_tb0) rfl (P2 125 122 rfl rfl) fun _ H108 => ?_
  refine h_op H108 rfl (H108.wt rfl rfl rfl) (R_bin H108 rfl rfl rfl (B_to (y := true) (B_eq Tryz.underlying3 _ _) (by decide))) rfl (P2 126 122 rfl rfl) fun _ H109 => ?_
  refine h_o H109 rfl (R_pick H109 rfl rfl rfl) (P1 127 rfl) fun _ H110 => ?_
  refine h_o H110 rfl (R_as H110 rfl rfl) (P1 8 rfl) fun _ H111 => ?_
  refine h_end ?_
  repeat (go_not_at_region 999; go_step)
  exact H111.ret1 rfl rfl ⟨rfl, hL.1⟩
 ·repeat (go_not_at_region 5; go_step)
  refine wp_region_lit ?_
  refine h_o H12 rfl (R_mv H12 rfl rfl) (P5 42 5 0 2 3 rfl rfl rfl rfl rfl) fun _ H13 => ?_
  refine h_o H13 rfl (R_ld H13 rfl rfl (ld_tb (t := t) hL.at_)) (P6 43 42 5 0 2 3 rfl rfl rfl rfl rfl rfl) fun _ H14 => ?_
  refine h_call H14 rfl (wn rfl) (R_call2 H14 rfl rfl rfl (fun w => by simp [go_sem])) rfl ?_
  refine (new_any (t := t) (src := src) (hRt _ hL.1) (by omega)).mono ?_
  rintro e w15 ⟨hA, _⟩
  obtain ⟨va, Ra, p, oa, aa, rfl, hra, hL3⟩ := hA hb
  replace hL : OneK W p oa aa ⟨src, t, []⟩ [bk g5 (tbC t (.slice A4 t.own.length c4)) 28] w15 := ⟨va, lift Ra, (hL.joinV hL3).perm (((List.perm_append_comm (l₁ := lift Ra) (l₂ := [bk g5 (tbC t (.slice A4 t.own.length c4)) 28])).cons _).cons _ |>.cons _), fun w h => rd_row (L := []) hra w (by rw [List.append_nil]; exact h)⟩
  clear hA hL3 hra
  refine ⟨_, rfl, fun a15 HH => ?_⟩
  have H15 := HH _ (P5 44 5 0 2 3 rfl rfl rfl rfl rfl)
  refine h_o H15 rfl (R_mv H15 rfl rfl) (P5 41 5 0 2 3 rfl rfl rfl rfl rfl) fun _ H16 => ?_
  refine h_o H16 rfl (R_ext H16 rfl rfl rfl) (P6 45 41 5 0 2 3 rfl rfl rfl rfl rfl rfl) fun _ H17 => ?_
  refine h_o H17 rfl (R_ext H17 rfl rfl rfl) (P6 46 45 5 0 2 3 rfl rfl rfl rfl rfl rfl) fun _ H18 => ?_
  refine h_o H18 rfl (R_as H18 rfl rfl) (P6 9 46 5 0 2 3 rfl rfl rfl rfl rfl rfl) fun _ H19 => ?_
  refine h_o H19 rfl (R_as H19 rfl rfl) (P6 10 9 5 0 2 3 rfl rfl rfl rfl rfl rfl) fun _ H20 => ?_
  refine h_end ?_
  repeat (go_not_at_region 6; go_step)
  refine wp_region_lit ?_
  refine h_o H20 rfl (R_mv H20 rfl rfl) (P6 48 10 9 5 2 3 rfl rfl rfl rfl rfl rfl) fun _ H21 => ?_
  refine h_o H21 rfl (R_ld H21 rfl rfl (ld_tb (t := t) (hL.mem List.mem_cons_self))) (P6 49 48 10 9 2 3 rfl rfl rfl rfl rfl rfl) fun _ H22 => ?_
  refine h_call H22 rfl (wn rfl) (R_call2 H22 rfl rfl rfl (fun w => by simp [go_sem])) rfl ?_
  refine (rnew_any (t := t) (src := src) (hRt _ hL.below) (by omega)).mono ?_
  rintro e w23 ⟨hA, _, hb2⟩
  obtain rfl := hA hb
  replace hL := hL.call hb2
  clear hA hb2
  refine ⟨_, rfl, fun a23 HH => ?_⟩
  have H23 := HH _ (P5 50 10 9 2 3 rfl rfl rfl rfl rfl)
  refine h_o H23 rfl (R_mv H23 rfl rfl) (P5 47 10 9 2 3 rfl rfl rfl rfl rfl) fun _ H24 => ?_
  refine h_o H24 rfl (R_ext H24 rfl rfl rfl) (P6 51 47 10 9 2 3 rfl rfl rfl rfl rfl rfl) fun _ H25 => ?_
  refine h_o H25 rfl (R_ext H25 rfl rfl rfl) (P6 52 51 10 9 2 3 rfl rfl rfl rfl rfl rfl) fun _ H26 => ?_
  refine h_opP (OneK W p oa aa ⟨src, t, []⟩ [bk w23.heap.size (rfC rfZ (.slice none 0 0) (.slice none 0 0)) 55, bk g5 (tbC t (.slice A4 t.own.length c4)) 28]) H26 rfl (wn rfl) (R_alloc rfl al_rf) (hL.add fun R h => h.alloc _ _) rfl (P7 11 52 51 10 9 2 3 rfl rfl rfl rfl rfl rfl rfl) fun _ w27 H27 hL => ?_
  refine h_stP (OneK W p oa aa ⟨src, t, []⟩ [bk w23.heap.size (rfC ⟨src, t, []⟩ (.slice A4 t.own.length c4) (.slice none 0 0)) 55, bk g5 (tbC t (.slice A4 t.own.length c4)) 28]) H27 rfl (wn rfl) (R_st H27 rfl rfl rfl (st_rf (S := ⟨src, t, []⟩) (hL.mem List.mem_cons_self) rfl rfl)) (hL.upd fun R h => h.row _) fun _ w28 H28 hL => ?_
  refine h_o H28 rfl (R_as H28 rfl rfl) (P6 12 11 10 9 2 3 rfl rfl rfl rfl rfl rfl) fun _ H29 => ?_
  refine h_end ?_
  obtain ⟨g11, hg⟩ : ∃ g, g = w23.heap.size := ⟨_, rfl⟩
  rw [← hg] at H29 hL
  clear hg
  repeat (go_not_at_region 7; go_step)
  refine wp_region_lit ?_
  refine h_o H29 rfl (R_mv H29 rfl rfl) (P6 53 12 11 9 2 3 rfl rfl rfl rfl rfl rfl) fun _ H30 => ?_
  refine h_o H30 rfl (R_mv H30 rfl rfl) (P7 54 53 12 11 9 2 3 rfl rfl rfl rfl rfl rfl rfl) fun _ H31 => ?_
  refine h_o H31 rfl (R_bin H31 rfl rfl rfl (B_to (y := false) (B_ne Tryz.underlying3 _ _) (by decide))) (P6 55 12 11 9 2 3 rfl rfl rfl rfl rfl rfl) fun _ H32 => ?_
  refine h_o H32 rfl (R_mv H32 rfl rfl) (P6 56 12 11 9 2 3 rfl rfl rfl rfl rfl rfl) fun _ H33 => ?_
  refine h_op H33 rfl (H33.wt rfl rfl rfl) (R_mv H33 rfl rfl) rfl (P7 57 56 12 11 9 2 3 rfl rfl rfl rfl rfl rfl rfl) fun _ H34 => ?_
  refine h_op H34 rfl (H34.wt rfl rfl rfl) (R_bin H34 rfl rfl rfl B_pn) rfl (P7 58 56 12 11 9 2 3 rfl rfl rfl rfl rfl rfl rfl) fun _ H35 => ?_
  refine h_op H35 rfl (H35.wt rfl rfl rfl) (R_mv H35 rfl rfl) rfl (P7 59 58 56 11 9 2 3 rfl rfl rfl rfl rfl rfl rfl) fun _ H36 => ?_
  refine h_op H36 rfl (H36.wt rfl rfl rfl) (R_bin H36 rfl rfl rfl (B_to (y := false) (B_ne Tryz.underlying3 _ _) (by decide))) rfl (P7 60 58 56 11 9 2 3 rfl rfl rfl rfl rfl rfl rfl) fun _ H37 => ?_
  refine h_op H37 rfl (H37.wt rfl rfl rfl) (R_bin H37 rfl rfl rfl B_bne) rfl (P6 61 56 11 9 2 3 rfl rfl rfl rfl rfl rfl) fun _ H38 => ?_
  refine h_o H38 rfl (R_pick H38 rfl rfl rfl) (P5 62 11 9 2 3 rfl rfl rfl rfl rfl) fun _ H39 => ?_
  refine h_end ?_
  repeat (go_not_at_region 9; go_step)
  refine wp_cond_false (H39.ev (x := .tmp 62) rfl) ?_
  repeat (go_not_at_region 9; go_step)
  refine wp_region_lit ?_
  refine h_o H39 rfl (R_mv H39 rfl rfl) (P5 63 11 9 2 3 rfl rfl rfl rfl rfl) fun _ H40 => ?_
  refine h_o H40 rfl (R_bin H40 rfl rfl rfl B_pn) (P5 64 11 9 2 3 rfl rfl rfl rfl rfl) fun _ H41 => ?_
  refine h_end ?_
  repeat (go_not_at_region 14; go_step)
  refine wp_cond_false (H41.ev (x := .tmp 64) rfl) ?_
  repeat (go_not_at_region 14; go_step)
  refine wp_region_lit ?_
  refine h_o H41 rfl (R_as H41 rfl rfl) (P5 19 11 9 2 3 rfl rfl rfl rfl rfl) fun _ H42 => ?_
  refine h_end ?_
  have hI0 : PlayI ⟨src, t, []⟩ 0 := by
   unfold newB at hb
   simp only [Bool.not_eq_true', Bool.or_eq_false_iff, decide_eq_false_iff_not, Bool.not_eq_false'] at hb
   exact ⟨by show 0 ≤ src; omega, by show src ≤ 3; omega, hb.2, Nat.le_refl _, fun j p hp => by simp at hp⟩
  repeat (go_not_at_region 15; go_step)
  obtain ⟨I, hI⟩ : ∃ I : Nat → Act → World → Prop, ∀ n a' w', I n a' w' ↔ ∃ (j : Nat) (S : PSrc) (vo vL : Value) (X : List Thg), n = l.length - j ∧ j ≤ l.length ∧ Fr a' 269 [(2, .slice A1 l.length c1), (3, .int .i64 seq), (9, .pointer (some ⟨p, 0, none⟩)), (11, .pointer (some ⟨g11, 0, none⟩)), (19, .int .i64 (j : Nat))] ∧ PlayI S j ∧ PRow 64 9 vL S.L.length (snF S.L) X ∧ (∀ w, Below W.heap.size W w → Rd w vo S.t.own) ∧ (OneK W p oa aa S ([bk g11 (rfC S vo vL) 55] ++ (X ++ [bk g5 (tbC t (.slice A4 t.own.length c4)) 28]))) w' := ⟨_, fun _ _ _ => Iff.rfl⟩
  have HI := Lib.hid hI
  clear hI
  refine wp_loop_ghost I (l.length) ((HI.out _ _ _).2 ⟨0, ⟨src, t, []⟩, (.slice A4 t.own.length c4), .slice none 0 0, [], rfl, Nat.zero_le _, H42.pick _ (P5 2 3 9 11 19 rfl rfl rfl rfl rfl), hI0, PRow.nil, hRt, hL⟩) ?_
  clear hL hI0 H42
  intro n a1 wl hi
  obtain ⟨j, S, vo, vL, X, rfl, hj, H0, hI, hp, hvo, hL⟩ := (HI.out _ _ _).1 hi
  clear hi
  by_cases hjl : j < l.length
  ·repeat (go_not_at_region 15; go_step)
   refine wp_region_lit ?_
   refine h_o H0 rfl (R_mv H0 rfl rfl) (P6 128 2 3 9 11 19 rfl rfl rfl rfl rfl rfl) fun _ H1 => ?_
   refine h_o H1 rfl (R_mv H1 rfl rfl) (P7 129 128 2 3 9 11 19 rfl rfl rfl rfl rfl rfl rfl) fun _ H2 => ?_
   refine h_o H2 rfl (R_lenS H2 rfl rfl Tryz.underlying46) (P7 130 128 2 3 9 11 19 rfl rfl rfl rfl rfl rfl rfl) fun _ H3 => ?_
   refine h_o H3 rfl (R_bin H3 rfl rfl rfl (B_to (y := true) (B_lt Tryz.underlying3 _ _) (decide_eq_true (by omega)))) (P6 131 2 3 9 11 19 rfl rfl rfl rfl rfl rfl) fun _ H4 => ?_
   refine h_end ?_
   repeat (go_not_at_region 17; go_step)
   refine wp_cond_true (H4.ev (x := .tmp 131) rfl) ?_
   obtain ⟨ad, had, hel⟩ := (hlw _ hL.below).elem (List.length_map _) hjl
   have hx := hok _ (List.getElem_mem hjl)
   have hsx := hsmall _ (List.getElem_mem hjl)
   obtain ⟨x, hxe⟩ : ∃ x, x = l[j] := ⟨_, rfl⟩
   rw [← hxe] at hx hsx
   have hld : ∀ w, Below W.heap.size W w → (Instr.loadAt 50 (.pointer (some (ad.add (j * 33))))).run Tryz.prog w = .ok (.agg (actC x)) w := fun w hb => by
    obtain ⟨a2, hae2, hel2⟩ := (hlw _ hb).elem (List.length_map _) hjl
    have hq := Option.some.inj (had.symm.trans hae2)
    subst hq
    exact ld_actA fun k u hu => hel2 k u (by rw [List.getElem_map, ← hxe]; exact hu)
   have hxo2 : ∀ w, Below W.heap.size W w → Rd w x.vo x.msg.owner := fun w hb => (hx.kept hb).vo
   have hxs : x.vs.oneCell' = true := hx.vs.one
   have hxo1 : x.vo.oneCell' = true := hx.vo.one
   have hfn := hx.msg
   have hxo := hx.item.ok hsx.key
   repeat (go_not_at_region 17; go_step)
   refine wp_region_held_drew (S := fun w' => HasB g11 (rfC S vo vL) 55 w' ∧ Below W.heap.size W w') (by kernel_rfl) (⟨OneK.mem hL.drew (by simp), OneK.below hL.drew⟩ : HasB g11 (rfC S vo vL) 55 _ ∧ Below W.heap.size W _) (fun _ => ?_)
   replace hL := hL.drew
   refine dag_cut (fun a' w' => ∃ (S2 : PSrc) (vo2 vL2 : Value) (X2 : List Thg) (gt : Nat), Fr a' 269 [(20, .pointer (some ⟨gt, 0, none⟩)), (21, .bool true), (2, .slice A1 l.length c1), (3, .int .i64 seq), (9, .pointer (some ⟨p, 0, none⟩)), (11, .pointer (some ⟨g11, 0, none⟩)), (19, .int .i64 (j : Nat))] ∧ PlayI S2 (j + 1) ∧ PRow 64 9 vL2 S2.L.length (snF S2.L) X2 ∧ (∀ w, Below W.heap.size W w → Rd w vo2 S2.t.own) ∧ OneK W p oa aa S2 (bk gt (rfC S2 vo2 vL2) 55 :: (X2 ++ [bk g11 (rfC S vo vL) 55, bk g5 (tbC t (.slice A4 t.own.length c4)) 28])) w') 0 #[true, true, true, true, true, true, true, true, true, true, true, true, true] ?_ (fun hS => ?_)
   rotate_left
   ·refine a_op 0 H4 rfl rfl (by kernel_rfl) (by kernel_rfl) (by kernel_rfl) (fun _ _ _ h => h) (wn rfl) (fun w hL => R_mv H4 rfl rfl) ((⟨OneK.mem hL (by simp), OneK.below hL⟩ : HasB g11 (rfC S vo vL) 55 _ ∧ Below W.heap.size W _)) rfl (P6 135 2 3 9 11 19 rfl rfl rfl rfl rfl rfl) fun a5 H5 => ?_
    refine a_opZ 1 H5 rfl rfl (by kernel_rfl) (wn rfl) (fun w hL => R_ld H5 rfl rfl (ld_rf (S := S) hL.1)) ((⟨OneK.mem hL (by simp), OneK.below hL⟩ : HasB g11 (rfC S vo vL) 55 _ ∧ Below W.heap.size W _)) rfl (P7 136 135 2 3 9 11 19 rfl rfl rfl rfl rfl rfl rfl) fun _ H6 => ?_
    refine a_opZ 2 H6 rfl rfl (by kernel_rfl) (wn rfl) (fun w hL => R_mv H6 rfl rfl) ((⟨OneK.mem hL (by simp), OneK.below hL⟩ : HasB g11 (rfC S vo vL) 55 _ ∧ Below W.heap.size W _)) rfl (P8 137 136 135 2 3 9 11 19 rfl rfl rfl rfl rfl rfl rfl rfl) fun _ H7 => ?_
    refine a_opZ 3 H7 rfl rfl (by kernel_rfl) (wn rfl) (fun w hL => R_mv H7 rfl rfl) ((⟨OneK.mem hL (by simp), OneK.below hL⟩ : HasB g11 (rfC S vo vL) 55 _ ∧ Below W.heap.size W _)) rfl (P9 138 137 136 135 2 3 9 11 19 rfl rfl rfl rfl rfl rfl rfl rfl rfl) fun _ H8 => ?_
    refine a_opZ 4 H8 rfl rfl (by kernel_rfl) (wn rfl) (fun w hL => R_ixa H8 rfl rfl rfl (ix_actE had hjl)) ((⟨OneK.mem hL (by simp), OneK.below hL⟩ : HasB g11 (rfC S vo vL) 55 _ ∧ Below W.heap.size W _)) rfl (P8 139 136 135 2 3 9 11 19 rfl rfl rfl rfl rfl rfl rfl rfl) fun _ H9 => ?_
    refine a_opZ 5 H9 rfl rfl (by kernel_rfl) (wn rfl) (fun w hL => R_ld H9 rfl rfl (hld _ hL.2)) ((⟨OneK.mem hL (by simp), OneK.below hL⟩ : HasB g11 (rfC S vo vL) 55 _ ∧ Below W.heap.size W _)) rfl (P8 140 136 135 2 3 9 11 19 rfl rfl rfl rfl rfl rfl rfl rfl) fun _ H10 => ?_
    refine a_all2 6 10 (by kernel_rfl) ?_ ?_
    ·refine o_call 6 H10 rfl rfl (wn rfl) (R_call3 H10 rfl rfl rfl rfl (fun w => by simp [go_sem])) rfl ?_
     refine (does_k (X := X) (K := [bk g11 (rfC S vo vL) 55, bk g5 (tbC t (.slice A4 t.own.length c4)) 28]) hL.toX hp hvo hxo2 hxs hxo hfn hsx hI (by omega)).mono ?_
     rintro e w11 ⟨S2, vo2, vL2, X2, rfl, hI2, hp2, hvo3, hL2⟩
     replace hL := hL2
     clear hL2
     have hv2 : vo2.oneCell' = true := (hvo3 _ hL.below).one
     have hvl2 : vL2.oneCell' = true := by obtain ⟨q, c, rfl⟩ := hp2.shape; rfl
     refine ⟨_, rfl, fun a11 HH => ?_⟩
     have H11 := HH _ (P6 141 2 3 9 11 19 rfl rfl rfl rfl rfl rfl)
     refine ⟨(⟨OneK.mem hL (by simp), OneK.below hL⟩ : HasB g11 (rfC S vo vL) 55 _ ∧ Below W.heap.size W _), ?_⟩
     refine a_opZ 7 H11 rfl rfl (by kernel_rfl) (wn rfl) (fun w hL => R_mv H11 rfl rfl) ((⟨OneK.mem hL (by simp), OneK.below hL⟩ : HasB g11 (rfC S vo vL) 55 _ ∧ Below W.heap.size W _)) rfl (P6 134 2 3 9 11 19 rfl rfl rfl rfl rfl rfl) fun _ H12 => ?_
     refine a_opZ 8 H12 rfl rfl (by kernel_rfl) (wn rfl) (fun w hL => R_ext H12 rfl rfl rfl) ((⟨OneK.mem hL (by simp), OneK.below hL⟩ : HasB g11 (rfC S vo vL) 55 _ ∧ Below W.heap.size W _)) rfl (P7 142 134 2 3 9 11 19 rfl rfl rfl rfl rfl rfl rfl) fun _ H13 => ?_
     refine a_opZ 9 H13 rfl rfl (by kernel_rfl) (wn rfl) (fun w hL => R_ext H13 rfl rfl rfl) ((⟨OneK.mem hL (by simp), OneK.below hL⟩ : HasB g11 (rfC S vo vL) 55 _ ∧ Below W.heap.size W _)) rfl (P7 143 142 2 3 9 11 19 rfl rfl rfl rfl rfl rfl rfl) fun _ H14 => ?_
     refine a_all1 10 (by kernel_rfl) ?_
     refine o_opP (OneK W p oa aa S2 (bk _ (rfC rfZ (.slice none 0 0) (.slice none 0 0)) 55 :: (X2 ++ [bk g11 (rfC S vo vL) 55, bk g5 (tbC t (.slice A4 t.own.length c4)) 28]))) 10 H14 rfl rfl (wn rfl) (R_alloc rfl al_rf) (hL.add fun R h => h.alloc _ _) rfl (P8 20 143 142 2 3 9 11 19 rfl rfl rfl rfl rfl rfl rfl rfl) fun a15 w15 H15 hL' => ⟨(⟨OneK.mem hL' (by simp), OneK.below hL'⟩ : HasB g11 (rfC S vo vL) 55 _ ∧ Below W.heap.size W _), ?_⟩
     replace hL := hL'
     refine a_all1 11 (by kernel_rfl) ?_
     refine o_stP (OneK W p oa aa S2 (bk _ (rfC S2 vo2 vL2) 55 :: (X2 ++ [bk g11 (rfC S vo vL) 55, bk g5 (tbC t (.slice A4 t.own.length c4)) 28]))) 11 H15 rfl rfl (wn rfl) (R_st H15 rfl rfl rfl (st_rf (S := S2) (hL.mem List.mem_cons_self) hv2 hvl2)) (hL.upd fun R h => h.row _) fun a16 w16 H16 hL' => ⟨(⟨OneK.mem hL' (by simp), OneK.below hL'⟩ : HasB g11 (rfC S vo vL) 55 _ ∧ Below W.heap.size W _), ?_⟩
     replace hL := hL'
     refine a_opZ 12 H16 rfl rfl (by kernel_rfl) (wn rfl) (fun w hL => R_as H16 rfl rfl) ((⟨OneK.mem hL (by simp), OneK.below hL⟩ : HasB g11 (rfC S vo vL) 55 _ ∧ Below W.heap.size W _)) rfl (P7 21 20 2 3 9 11 19 rfl rfl rfl rfl rfl rfl rfl) fun _ H17 => ?_
     exact dag_use hS (by kernel_rfl) (by kernel_rfl) ⟨S2, vo2, vL2, X2, _, H17.pick _ (P7 20 21 2 3 9 11 19 rfl rfl rfl rfl rfl rfl rfl), hI2, hp2, hvo3, hL⟩
    ·refine o_opP (OneK W p oa aa S (bk _ (rfC rfZ (.slice none 0 0) (.slice none 0 0)) 55 :: ([bk g11 (rfC S vo vL) 55] ++ (X ++ [bk g5 (tbC t (.slice A4 t.own.length c4)) 28])))) 10 H10 rfl rfl (wn rfl) (R_alloc rfl al_rf) (hL.add fun R h => h.alloc _ _) rfl (P9 20 140 136 135 2 3 9 11 19 rfl rfl rfl rfl rfl rfl rfl rfl rfl) fun a11 w11 H11 hL' => ⟨(⟨OneK.mem hL' (by simp), OneK.below hL'⟩ : HasB g11 (rfC S vo vL) 55 _ ∧ Below W.heap.size W _), ?_⟩
     replace hL := hL'
     refine a_all1 6 (by kernel_rfl) ?_
     refine o_call 6 H11 rfl rfl (wn rfl) (R_call3 H11 rfl rfl rfl rfl (fun w => by simp [go_sem])) rfl ?_
     refine (does_k (X := X) (K := [bk _ (rfC rfZ (.slice none 0 0) (.slice none 0 0)) 55, bk g11 (rfC S vo vL) 55, bk g5 (tbC t (.slice A4 t.own.length c4)) 28]) hL.toX2 hp hvo hxo2 hxs hxo hfn hsx hI (by omega)).mono ?_
     rintro e w12 ⟨S2, vo2, vL2, X2, rfl, hI2, hp2, hvo3, hL2⟩
     replace hL := hL2.front3
     clear hL2
     have hv2 : vo2.oneCell' = true := (hvo3 _ hL.below).one
     have hvl2 : vL2.oneCell' = true := by obtain ⟨q, c, rfl⟩ := hp2.shape; rfl
     refine ⟨_, rfl, fun a12 HH => ?_⟩
     have H12 := HH _ (P7 141 20 2 3 9 11 19 rfl rfl rfl rfl rfl rfl rfl)
     refine ⟨(⟨OneK.mem hL (by simp), OneK.below hL⟩ : HasB g11 (rfC S vo vL) 55 _ ∧ Below W.heap.size W _), ?_⟩
     refine a_opZ 7 H12 rfl rfl (by kernel_rfl) (wn rfl) (fun w hL => R_mv H12 rfl rfl) ((⟨OneK.mem hL (by simp), OneK.below hL⟩ : HasB g11 (rfC S vo vL) 55 _ ∧ Below W.heap.size W _)) rfl (P7 134 20 2 3 9 11 19 rfl rfl rfl rfl rfl rfl rfl) fun _ H13 => ?_
     refine a_opZ 8 H13 rfl rfl (by kernel_rfl) (wn rfl) (fun w hL => R_ext H13 rfl rfl rfl) ((⟨OneK.mem hL (by simp), OneK.below hL⟩ : HasB g11 (rfC S vo vL) 55 _ ∧ Below W.heap.size W _)) rfl (P8 142 134 20 2 3 9 11 19 rfl rfl rfl rfl rfl rfl rfl rfl) fun _ H14 => ?_
     refine a_opZ 9 H14 rfl rfl (by kernel_rfl) (wn rfl) (fun w hL => R_ext H14 rfl rfl rfl) ((⟨OneK.mem hL (by simp), OneK.below hL⟩ : HasB g11 (rfC S vo vL) 55 _ ∧ Below W.heap.size W _)) rfl (P8 143 142 20 2 3 9 11 19 rfl rfl rfl rfl rfl rfl rfl rfl) fun _ H15 => ?_
     refine a_all1 11 (by kernel_rfl) ?_
     refine o_stP (OneK W p oa aa S2 (bk _ (rfC S2 vo2 vL2) 55 :: (X2 ++ [bk g11 (rfC S vo vL) 55, bk g5 (tbC t (.slice A4 t.own.length c4)) 28]))) 11 H15 rfl rfl (wn rfl) (R_st H15 rfl rfl rfl (st_rf (S := S2) (hL.mem List.mem_cons_self) hv2 hvl2)) (hL.upd fun R h => h.row _) fun a16 w16 H16 hL' => ⟨(⟨OneK.mem hL' (by simp), OneK.below hL'⟩ : HasB g11 (rfC S vo vL) 55 _ ∧ Below W.heap.size W _), ?_⟩
     replace hL := hL'
     refine a_opZ 12 H16 rfl rfl (by kernel_rfl) (wn rfl) (fun w hL => R_as H16 rfl rfl) ((⟨OneK.mem hL (by simp), OneK.below hL⟩ : HasB g11 (rfC S vo vL) 55 _ ∧ Below W.heap.size W _)) rfl (P7 21 20 2 3 9 11 19 rfl rfl rfl rfl rfl rfl rfl) fun _ H17 => ?_
     exact dag_use hS (by kernel_rfl) (by kernel_rfl) ⟨S2, vo2, vL2, X2, _, H17.pick _ (P7 20 21 2 3 9 11 19 rfl rfl rfl rfl rfl rfl rfl), hI2, hp2, hvo3, hL⟩
   clear hL H4 hI hp hvo
   rintro a0 w0 ⟨S2, vo2, vL2, X2, gt, H0, hI, hp, hvo, hL⟩
   have hv2 : vo2.oneCell' = true := (hvo _ hL.below).one
   obtain ⟨qL, cL, rfl⟩ := hp.shape
   refine wpAnyH_done (by kernel_rfl) ?_ _
   have hv6 : ∃ q l c, vo2 = .slice q l c := by obtain ⟨q, c, e⟩ := (hvo _ hL.below).slc; exact ⟨q, _, c, e⟩
   have hown := rightT_len hI.rt
   have hlen := hI.len
   repeat (go_not_at_region 18; go_step)
   refine wp_region_lit ?_
   refine h_o H0 rfl (R_ld H0 rfl rfl (ld_rf (S := S2) (hL.mem List.mem_cons_self))) (P7 144 21 2 3 9 11 19 rfl rfl rfl rfl rfl rfl rfl) fun _ H1 => ?_
   replace hL := hL.g11f
   refine h_stP (OneK W p oa aa S2 ([bk g11 (rfC S2 vo2 (.slice qL S2.L.length cL)) 55] ++ (X2 ++ [bk g5 (tbC t (.slice A4 t.own.length c4)) 28]))) H1 rfl (wn rfl) (R_st H1 rfl rfl rfl (st_rf (S := S2) (S2 := S) (vo2 := vo) (vL2 := vL) (hL.mem List.mem_cons_self) hv2 rfl)) (hL.upd fun R h => h.row _) fun _ w2 H2 hL => ?_
   refine h_end ?_
   repeat (go_not_at_region 19; go_step)
   refine wp_region_lit ?_
   refine h_o H2 rfl (R_as H2 rfl rfl) (P7 22 21 2 3 9 11 19 rfl rfl rfl rfl rfl rfl rfl) fun _ H3 => ?_
   refine h_end ?_
   repeat (go_not_at_region 20; go_step)
   refine wp_region_lit ?_
   refine h_o H3 rfl (R_as H3 rfl rfl) (P8 23 22 21 2 3 9 11 19 rfl rfl rfl rfl rfl rfl rfl rfl) fun _ H4 => ?_
   refine h_end ?_
   repeat (go_not_at_region 21; go_step)
   obtain ⟨I2, hI2⟩ : ∃ I : Nat → Act → World → Prop, ∀ n a' w', I n a' w' ↔ ∃ k : Nat, n = S2.L.length - k ∧ k ≤ S2.L.length ∧ Fr a' 269 [(2, .slice A1 l.length c1), (3, .int .i64 seq), (9, .pointer (some ⟨p, 0, none⟩)), (11, .pointer (some ⟨g11, 0, none⟩)), (19, .int .i64 (j : Nat)), (21, .bool true), (22, .int .i64 ((ents (opF S2.L) k).length : Nat)), (23, .int .i64 (k : Nat))] ∧ OneK W p oa aa S2 ([bk g11 (rfC S2 vo2 (.slice qL S2.L.length cL)) 55] ++ (X2 ++ [bk g5 (tbC t (.slice A4 t.own.length c4)) 28])) w' := ⟨_, fun _ _ _ => Iff.rfl⟩
   have HI2 := Lib.hid hI2
   clear hI2
   refine wp_loop_ghost I2 S2.L.length ((HI2.out _ _ _).2 ⟨0, rfl, Nat.zero_le _, H4.pick _ (P8 2 3 9 11 19 21 22 23 rfl rfl rfl rfl rfl rfl rfl rfl), hL⟩) ?_
   clear hL H4
   intro n a1 wk hi
   obtain ⟨k, rfl, hk, H0, hL⟩ := (HI2.out _ _ _).1 hi
   clear hi
   by_cases hkl : k < S2.L.length
   ·repeat (go_not_at_region 21; go_step)
    refine wp_region_lit ?_
    refine h_o H0 rfl (R_mv H0 rfl rfl) (P9 145 2 3 9 11 19 21 22 23 rfl rfl rfl rfl rfl rfl rfl rfl rfl) fun _ H1 => ?_
    refine h_o H1 rfl (R_fa H1 rfl rfl fa_rf2) (P10 146 145 2 3 9 11 19 21 22 23 rfl rfl rfl rfl rfl rfl rfl rfl rfl rfl) fun _ H2 => ?_
    refine h_o H2 rfl (R_ld H2 rfl rfl (ld_sn ((hL.cl (g := g11) (A := (rfC S2 vo2 (.slice qL S2.L.length cL))) (t := 55) (by simp) 4).trans rfl))) (P10 147 145 2 3 9 11 19 21 22 23 rfl rfl rfl rfl rfl rfl rfl rfl rfl rfl) fun _ H3 => ?_
    refine h_o H3 rfl (R_lenS H3 rfl rfl Tryz.underlying53) (P10 148 145 2 3 9 11 19 21 22 23 rfl rfl rfl rfl rfl rfl rfl rfl rfl rfl) fun _ H4 => ?_
    refine h_o H4 rfl (R_bin H4 rfl rfl rfl (B_to (y := true) (B_lt Tryz.underlying3 _ _) (decide_eq_true (by omega)))) (P9 149 2 3 9 11 19 21 22 23 rfl rfl rfl rfl rfl rfl rfl rfl rfl) fun _ H5 => ?_
    refine h_end ?_
    repeat (go_not_at_region 23; go_step)
    refine wp_cond_true (H5.ev (x := .tmp 149) rfl) ?_
    obtain ⟨ad, hA⟩ := snc_addr (hL.rdc (S' := S2) hp) hkl
    have hc : codeN S2.L ((k : Int) + 1) = S2.L[k].2 := codeN_at hkl
    have hcn : (ents (opF S2.L) k).length ≤ k := ents_size
    repeat (go_not_at_region 23; go_step)
    refine wp_region_lit ?_
    refine h_o H5 rfl (R_mv H5 rfl rfl) (P9 153 2 3 9 11 19 21 22 23 rfl rfl rfl rfl rfl rfl rfl rfl rfl) fun _ H6 => ?_
    refine h_o H6 rfl (R_mv H6 rfl rfl) (P10 154 153 2 3 9 11 19 21 22 23 rfl rfl rfl rfl rfl rfl rfl rfl rfl rfl) fun _ H7 => ?_
    refine h_o H7 rfl (R_bin H7 rfl rfl rfl (B_add Tryz.underlying3 _ _ (by omega) (by omega))) (P10 155 153 2 3 9 11 19 21 22 23 rfl rfl rfl rfl rfl rfl rfl rfl rfl rfl) fun _ H8 => ?_
    refine h_call H8 rfl (wn rfl) (R_call2 H8 rfl rfl rfl (fun w => by simp [go_sem])) rfl ?_
    have hq := k1_answer (k := (k : Int) + 1) hL (by omega) (by omega)
    rw [hc] at hq
    refine hq.mono ?_
    rintro e wx ⟨rfl, rfl⟩
    refine ⟨_, rfl, fun a9 HH => ?_⟩
    have H9 := HH _ (P9 156 2 3 9 11 19 21 22 23 rfl rfl rfl rfl rfl rfl rfl rfl rfl)
    refine h_o H9 rfl (R_mv H9 rfl rfl) (P9 152 2 3 9 11 19 21 22 23 rfl rfl rfl rfl rfl rfl rfl rfl rfl) fun _ H10 => ?_
    refine h_o H10 rfl (R_ext H10 rfl rfl rfl) (P10 157 152 2 3 9 11 19 21 22 23 rfl rfl rfl rfl rfl rfl rfl rfl rfl rfl) fun _ H11 => ?_
    refine h_o H11 rfl (R_ext H11 rfl rfl rfl) (P10 158 157 2 3 9 11 19 21 22 23 rfl rfl rfl rfl rfl rfl rfl rfl rfl rfl) fun _ H12 => ?_
    refine h_o H12 rfl (R_as H12 rfl rfl) (P10 24 158 2 3 9 11 19 21 22 23 rfl rfl rfl rfl rfl rfl rfl rfl rfl rfl) fun _ H13 => ?_
    refine h_o H13 rfl (R_as H13 rfl rfl) (P10 25 24 2 3 9 11 19 21 22 23 rfl rfl rfl rfl rfl rfl rfl rfl rfl rfl) fun _ H14 => ?_
    refine h_end ?_
    repeat (go_not_at_region 24; go_step)
    refine wp_region_lit ?_
    refine h_o H14 rfl (R_mv H14 rfl rfl) (P11 159 25 24 2 3 9 11 19 21 22 23 rfl rfl rfl rfl rfl rfl rfl rfl rfl rfl rfl) fun _ H15 => ?_
    refine h_o H15 rfl (R_fa H15 rfl rfl fa_rf2) (P12 160 159 25 24 2 3 9 11 19 21 22 23 rfl rfl rfl rfl rfl rfl rfl rfl rfl rfl rfl rfl) fun _ H16 => ?_
    refine h_o H16 rfl (R_ld H16 rfl rfl (ld_sn ((hL.cl (g := g11) (A := (rfC S2 vo2 (.slice qL S2.L.length cL))) (t := 55) (by simp) 4).trans rfl))) (P12 161 159 25 24 2 3 9 11 19 21 22 23 rfl rfl rfl rfl rfl rfl rfl rfl rfl rfl rfl rfl) fun _ H17 => ?_
    refine h_o H17 rfl (R_mv H17 rfl rfl) (.cons (d := 162) rfl (.cons (d := 161) rfl (.cons (d := 159) rfl (.cons (d := 25) rfl (.cons (d := 24) rfl (.cons (d := 2) rfl (.cons (d := 3) rfl (.cons (d := 9) rfl (.cons (d := 11) rfl (.cons (d := 19) rfl (.cons (d := 21) rfl (.cons (d := 22) rfl (.cons (d := 23) rfl .nil))))))))))))) fun _ H18 => ?_
    refine h_o H18 rfl (R_ixa H18 rfl rfl rfl (ix_sn hA hkl)) (P12 163 159 25 24 2 3 9 11 19 21 22 23 rfl rfl rfl rfl rfl rfl rfl rfl rfl rfl rfl rfl) fun _ H19 => ?_
    refine h_o H19 rfl (R_fa H19 rfl rfl fa_sn1) (P12 164 159 25 24 2 3 9 11 19 21 22 23 rfl rfl rfl rfl rfl rfl rfl rfl rfl rfl rfl rfl) fun _ H20 => ?_
    refine h_o H20 rfl (R_ld H20 rfl rfl (ld_int (snc_cell (hL.rdc (S' := S2) hp) hA hkl rfl))) (P12 165 159 25 24 2 3 9 11 19 21 22 23 rfl rfl rfl rfl rfl rfl rfl rfl rfl rfl rfl rfl) fun _ H21 => ?_
    refine h_o H21 rfl (R_bin H21 rfl rfl rfl (B_to (y := false) (B_ne Tryz.underlying3 _ _) (bne_self_eq_false' _))) (P11 166 25 24 2 3 9 11 19 21 22 23 rfl rfl rfl rfl rfl rfl rfl rfl rfl rfl rfl) fun _ H22 => ?_
    refine h_o H22 rfl (R_mv H22 rfl rfl) (P11 167 25 24 2 3 9 11 19 21 22 23 rfl rfl rfl rfl rfl rfl rfl rfl rfl rfl rfl) fun _ H23 => ?_
    refine h_op H23 rfl (H23.wt rfl rfl rfl) (R_mv H23 rfl rfl) rfl (P12 168 167 25 24 2 3 9 11 19 21 22 23 rfl rfl rfl rfl rfl rfl rfl rfl rfl rfl rfl rfl) fun _ H24 => ?_
    refine h_op H24 rfl (H24.wt rfl rfl rfl) (R_mv H24 rfl rfl) rfl (P12 169 168 167 25 2 3 9 11 19 21 22 23 rfl rfl rfl rfl rfl rfl rfl rfl rfl rfl rfl rfl) fun _ H25 => ?_
    refine h_op H25 rfl (H25.wt rfl rfl rfl) (R_bin H25 rfl rfl rfl (B_ne Tryz.underlying3 _ _)) rfl (P12 170 168 167 25 2 3 9 11 19 21 22 23 rfl rfl rfl rfl rfl rfl rfl rfl rfl rfl rfl rfl) fun _ H26 => ?_
    refine h_op H26 rfl (H26.wt rfl rfl rfl) (R_bin H26 rfl rfl rfl (B_to (y := false) (B_neb _ _) (code_neb _))) rfl (P11 171 167 25 2 3 9 11 19 21 22 23 rfl rfl rfl rfl rfl rfl rfl rfl rfl rfl rfl) fun _ H27 => ?_
    refine h_o H27 rfl (R_pick H27 rfl rfl rfl) (P10 172 25 2 3 9 11 19 21 22 23 rfl rfl rfl rfl rfl rfl rfl rfl rfl rfl) fun _ H28 => ?_
    refine h_end ?_
    repeat (go_not_at_region 26; go_step)
    refine wp_cond_false (H28.ev (x := .tmp 172) rfl) ?_
    repeat (go_not_at_region 26; go_step)
    refine wp_region_lit ?_
    refine h_o H28 rfl (R_mv H28 rfl rfl) (P9 173 2 3 9 11 19 21 22 23 rfl rfl rfl rfl rfl rfl rfl rfl rfl) fun _ H29 => ?_
    refine h_o H29 rfl (R_not H29 rfl rfl) (P9 174 2 3 9 11 19 21 22 23 rfl rfl rfl rfl rfl rfl rfl rfl rfl) fun _ H30 => ?_
    refine h_end ?_
    by_cases h0 : S2.L[k].2 = 0
    ·rw [h0] at H30
     repeat (go_not_at_region 27; go_step)
     refine wp_cond_true (H30.ev (x := .tmp 174) rfl) ?_
     repeat (go_not_at_region 27; go_step)
     refine wp_region_lit ?_
     refine h_o H30 rfl (R_mv H30 rfl rfl) (P9 175 2 3 9 11 19 21 22 23 rfl rfl rfl rfl rfl rfl rfl rfl rfl) fun _ H31 => ?_
     refine h_o H31 rfl (R_bin H31 rfl rfl rfl (B_add Tryz.underlying3 _ _ (by omega) (by omega))) (P9 176 2 3 9 11 19 21 22 23 rfl rfl rfl rfl rfl rfl rfl rfl rfl) fun _ H32 => ?_
     refine h_o H32 rfl (R_as H32 rfl rfl) (P8 22 2 3 9 11 19 21 23 rfl rfl rfl rfl rfl rfl rfl rfl) fun _ H33 => ?_
     refine h_end ?_
     repeat (go_not_at_region 22; go_step)
     refine wp_region_lit ?_
     refine h_o H33 rfl (R_mv H33 rfl rfl) (P9 150 22 2 3 9 11 19 21 23 rfl rfl rfl rfl rfl rfl rfl rfl rfl) fun _ H34 => ?_
     refine h_o H34 rfl (R_bin H34 rfl rfl rfl (B_add Tryz.underlying3 _ _ (by omega) (by omega))) (P9 151 22 2 3 9 11 19 21 23 rfl rfl rfl rfl rfl rfl rfl rfl rfl) fun _ H35 => ?_
     refine h_o H35 rfl (R_as H35 rfl rfl) (P8 23 22 2 3 9 11 19 21 rfl rfl rfl rfl rfl rfl rfl rfl) fun _ H36 => ?_
     refine h_end ?_
     repeat (go_not_at_region 999; go_step)
     refine ⟨S2.L.length - (k + 1), by omega, (HI2.out _ _ _).2 ⟨k + 1, rfl, hkl, ?_, hL⟩⟩
     rw [oc_open hkl h0]
     exact H36.pick _ (P8 2 3 9 11 19 21 22 23 rfl rfl rfl rfl rfl rfl rfl rfl)
    ·rw [decide_eq_true h0] at H30
     repeat (go_not_at_region 22; go_step)
     refine wp_cond_false (H30.ev (x := .tmp 174) rfl) ?_
     repeat (go_not_at_region 22; go_step)
     refine wp_region_lit ?_
     refine h_o H30 rfl (R_mv H30 rfl rfl) (P9 150 2 3 9 11 19 21 22 23 rfl rfl rfl rfl rfl rfl rfl rfl rfl) fun _ H31 => ?_
     refine h_o H31 rfl (R_bin H31 rfl rfl rfl (B_add Tryz.underlying3 _ _ (by omega) (by omega))) (P9 151 2 3 9 11 19 21 22 23 rfl rfl rfl rfl rfl rfl rfl rfl rfl) fun _ H32 => ?_
     refine h_o H32 rfl (R_as H32 rfl rfl) (P8 23 2 3 9 11 19 21 22 rfl rfl rfl rfl rfl rfl rfl rfl) fun _ H33 => ?_
     refine h_end ?_
     repeat (go_not_at_region 999; go_step)
     refine ⟨S2.L.length - (k + 1), by omega, (HI2.out _ _ _).2 ⟨k + 1, rfl, hkl, ?_, hL⟩⟩
     rw [oc_done hkl h0]
     exact H33.pick _ (P8 2 3 9 11 19 21 22 23 rfl rfl rfl rfl rfl rfl rfl rfl)
   ·obtain rfl : k = S2.L.length := by omega
    repeat (go_not_at_region 21; go_step)
    refine wp_region_lit ?_
    refine h_o H0 rfl (R_mv H0 rfl rfl) (P9 145 2 3 9 11 19 21 22 23 rfl rfl rfl rfl rfl rfl rfl rfl rfl) fun _ H1 => ?_
    refine h_o H1 rfl (R_fa H1 rfl rfl fa_rf2) (P10 146 145 2 3 9 11 19 21 22 23 rfl rfl rfl rfl rfl rfl rfl rfl rfl rfl) fun _ H2 => ?_
    refine h_o H2 rfl (R_ld H2 rfl rfl (ld_sn ((hL.cl (g := g11) (A := (rfC S2 vo2 (.slice qL S2.L.length cL))) (t := 55) (by simp) 4).trans rfl))) (P10 147 145 2 3 9 11 19 21 22 23 rfl rfl rfl rfl rfl rfl rfl rfl rfl rfl) fun _ H3 => ?_
    refine h_o H3 rfl (R_lenS H3 rfl rfl Tryz.underlying53) (P10 148 145 2 3 9 11 19 21 22 23 rfl rfl rfl rfl rfl rfl rfl rfl rfl rfl) fun _ H4 => ?_
    refine h_o H4 rfl (R_bin H4 rfl rfl rfl (B_to (y := false) (B_lt Tryz.underlying3 _ _) (decide_eq_false (by omega)))) (P9 149 2 3 9 11 19 21 22 23 rfl rfl rfl rfl rfl rfl rfl rfl rfl) fun _ H5 => ?_
    refine h_end ?_
    repeat (go_not_at_region 28; go_step)
    refine wp_cond_false (H5.ev (x := .tmp 149) rfl) ?_
    have hfew : (ents (opF S2.L) S2.L.length).length ≤ S2.L.length := ents_size
    repeat (go_not_at_region 28; go_step)
    refine wp_region_lit ?_
    refine h_o H5 rfl (R_mv H5 rfl rfl) (P8 178 2 3 9 11 19 21 22 rfl rfl rfl rfl rfl rfl rfl rfl) fun _ H6 => ?_
    refine h_o H6 rfl (R_fa H6 rfl rfl fa_rf2) (P9 179 178 2 3 9 11 19 21 22 rfl rfl rfl rfl rfl rfl rfl rfl rfl) fun _ H7 => ?_
    refine h_o H7 rfl (R_ld H7 rfl rfl (ld_sn ((hL.cl (g := g11) (A := (rfC S2 vo2 (.slice qL S2.L.length cL))) (t := 55) (by simp) 4).trans rfl))) (P9 180 178 2 3 9 11 19 21 22 rfl rfl rfl rfl rfl rfl rfl rfl rfl) fun _ H8 => ?_
    refine h_o H8 rfl (R_lenS H8 rfl rfl Tryz.underlying53) (P9 181 178 2 3 9 11 19 21 22 rfl rfl rfl rfl rfl rfl rfl rfl rfl) fun _ H9 => ?_
    refine h_o H9 rfl (R_bin H9 rfl rfl rfl (B_add Tryz.underlying3 _ _ (by omega) (by omega))) (P9 182 178 2 3 9 11 19 21 22 rfl rfl rfl rfl rfl rfl rfl rfl rfl) fun _ H10 => ?_
    refine h_call H10 rfl (wn rfl) (R_call2 H10 rfl rfl rfl (fun w => by simp [go_sem])) rfl ?_
    have hq := k1_answer (k := (S2.L.length : Int) + 1) hL (by omega) (by omega)
    rw [codeN_out (by omega)] at hq
    refine hq.mono ?_
    rintro e wx ⟨rfl, rfl⟩
    refine ⟨_, rfl, fun a11 HH => ?_⟩
    have H11 := HH _ (P8 183 2 3 9 11 19 21 22 rfl rfl rfl rfl rfl rfl rfl rfl)
    refine h_o H11 rfl (R_mv H11 rfl rfl) (P8 177 2 3 9 11 19 21 22 rfl rfl rfl rfl rfl rfl rfl rfl) fun _ H12 => ?_
    refine h_o H12 rfl (R_ext H12 rfl rfl rfl) (P9 184 177 2 3 9 11 19 21 22 rfl rfl rfl rfl rfl rfl rfl rfl rfl) fun _ H13 => ?_
    refine h_o H13 rfl (R_ext H13 rfl rfl rfl) (P9 185 184 2 3 9 11 19 21 22 rfl rfl rfl rfl rfl rfl rfl rfl rfl) fun _ H14 => ?_
    refine h_o H14 rfl (R_as H14 rfl rfl) (P8 185 2 3 9 11 19 21 22 rfl rfl rfl rfl rfl rfl rfl rfl) fun _ H15 => ?_
    refine h_o H15 rfl (R_as H15 rfl rfl) (P8 27 2 3 9 11 19 21 22 rfl rfl rfl rfl rfl rfl rfl rfl) fun _ H16 => ?_
    refine h_end ?_
    repeat (go_not_at_region 29; go_step)
    refine wp_region_lit ?_
    refine h_o H16 rfl (R_mv H16 rfl rfl) (P9 187 27 2 3 9 11 19 21 22 rfl rfl rfl rfl rfl rfl rfl rfl rfl) fun _ H17 => ?_
    refine h_o H17 rfl (R_mv H17 rfl rfl) (P10 188 187 27 2 3 9 11 19 21 22 rfl rfl rfl rfl rfl rfl rfl rfl rfl rfl) fun _ H18 => ?_
    refine h_call H18 rfl (wn rfl) (R_call2 H18 rfl rfl rfl (fun w => by simp [go_sem])) rfl ?_
    refine (k1_answer (k := seq) hL q0 q1).mono ?_
    rintro e wx ⟨rfl, rfl⟩
    refine ⟨_, rfl, fun a19 HH => ?_⟩
    have H19 := HH _ (P9 189 27 2 3 9 11 19 21 22 rfl rfl rfl rfl rfl rfl rfl rfl rfl)
    refine h_o H19 rfl (R_mv H19 rfl rfl) (P9 186 27 2 3 9 11 19 21 22 rfl rfl rfl rfl rfl rfl rfl rfl rfl) fun _ H20 => ?_
    refine h_o H20 rfl (R_ext H20 rfl rfl rfl) (P10 190 186 27 2 3 9 11 19 21 22 rfl rfl rfl rfl rfl rfl rfl rfl rfl rfl) fun _ H21 => ?_
    refine h_o H21 rfl (R_ext H21 rfl rfl rfl) (P10 191 190 27 2 3 9 11 19 21 22 rfl rfl rfl rfl rfl rfl rfl rfl rfl rfl) fun _ H22 => ?_
    refine h_o H22 rfl (R_as H22 rfl rfl) (P10 28 191 27 2 3 9 11 19 21 22 rfl rfl rfl rfl rfl rfl rfl rfl rfl rfl) fun _ H23 => ?_
    refine h_o H23 rfl (R_as H23 rfl rfl) (P10 29 28 27 2 3 9 11 19 21 22 rfl rfl rfl rfl rfl rfl rfl rfl rfl rfl) fun _ H24 => ?_
    refine h_end ?_
    obtain ⟨q, hq⟩ : ∃ q : Nat, (1 ≤ seq ∧ seq ≤ S2.L.length → seq = ((q + 1 : Nat) : Int) ∧ q < S2.L.length) := ⟨(seq - 1).toNat, fun h => by omega⟩
    have hin : (decide (seq ≥ 1) && decide (seq ≤ (S2.L.length : Int))) = true → seq = ((q + 1 : Nat) : Int) ∧ q < S2.L.length := fun h => hq (by simpa using h)
    obtain ⟨ad, hA⟩ : ∃ ad, q < S2.L.length → qL = some ad := by
     by_cases h : q < S2.L.length
     ·obtain ⟨ad, e⟩ := snc_addr (hL.rdc (S' := S2) hp) h
      exact ⟨ad, fun _ => e⟩
     ·exact ⟨⟨0, 0, none⟩, fun h2 => absurd h2 h⟩
    repeat (go_not_at_region 30; go_step)
    refine wp_region_lit ?_
    refine h_o H24 rfl (R_mv H24 rfl rfl) (P11 192 29 28 27 2 3 9 11 19 21 22 rfl rfl rfl rfl rfl rfl rfl rfl rfl rfl rfl) fun _ H25 => ?_
    refine h_o H25 rfl (R_bin H25 rfl rfl rfl (B_ge Tryz.underlying3 _ _)) (P11 193 29 28 27 2 3 9 11 19 21 22 rfl rfl rfl rfl rfl rfl rfl rfl rfl rfl rfl) fun _ H26 => ?_
    refine h_o H26 rfl (R_mv H26 rfl rfl) (P11 194 29 28 27 2 3 9 11 19 21 22 rfl rfl rfl rfl rfl rfl rfl rfl rfl rfl rfl) fun _ H27 => ?_
    replace H27 := H27.pick [(2, .slice A1 l.length c1), (3, .int .i64 seq), (9, .pointer (some ⟨p, 0, none⟩)), (11, .pointer (some ⟨g11, 0, none⟩)), (19, .int .i64 (j : Nat)), (21, .bool true), (22, .int .i64 ((ents (opF S2.L) S2.L.length).length : Nat)), (27, .bool (decide ((0 : Nat) ≠ 0))), (28, .int .i64 (codeN S2.L seq : Nat)), (29, .bool (decide (codeN S2.L seq ≠ 0))), (194, .bool (decide (seq ≥ 1)))] (P11 2 3 9 11 19 21 22 27 28 29 194 rfl rfl rfl rfl rfl rfl rfl rfl rfl rfl rfl)
    generalize hr0 : (decide (seq ≥ 1)) = r0 at H27
    refine wpList_cut [_, _, _, _, _, _, _] (R := fun a' w' => Fr a' 269 [(2, .slice A1 l.length c1), (3, .int .i64 seq), (9, .pointer (some ⟨p, 0, none⟩)), (11, .pointer (some ⟨g11, 0, none⟩)), (19, .int .i64 (j : Nat)), (21, .bool true), (22, .int .i64 ((ents (opF S2.L) S2.L.length).length : Nat)), (27, .bool (decide ((0 : Nat) ≠ 0))), (28, .int .i64 (codeN S2.L seq : Nat)), (29, .bool (decide (codeN S2.L seq ≠ 0))), (201, .bool (r0 && (decide (seq ≤ (S2.L.length : Int)))))] ∧ OneK W p oa aa S2 ([bk g11 (rfC S2 vo2 (.slice qL S2.L.length cL)) 55] ++ (X2 ++ [bk g5 (tbC t (.slice A4 t.own.length c4)) 28])) w') ?_ ?_
    ·cases r0
     ·refine h_skip H27 rfl (H27.wf rfl rfl rfl) rfl (P12 195 2 3 9 11 19 21 22 27 28 29 194 rfl rfl rfl rfl rfl rfl rfl rfl rfl rfl rfl rfl) fun a28 H28 => ?_
      refine h_skip H28 rfl (H28.wf rfl rfl rfl) rfl (.cons (d := 196) rfl (.cons (d := 195) rfl (.cons (d := 2) rfl (.cons (d := 3) rfl (.cons (d := 9) rfl (.cons (d := 11) rfl (.cons (d := 19) rfl (.cons (d := 21) rfl (.cons (d := 22) rfl (.cons (d := 27) rfl (.cons (d := 28) rfl (.cons (d := 29) rfl (.cons (d := 194) rfl .nil))))))))))))) fun _ H29 => ?_
      refine h_skip H29 rfl (H29.wf rfl rfl rfl) rfl (.cons (d := 197) rfl (.cons (d := 195) rfl (.cons (d := 2) rfl (.cons (d := 3) rfl (.cons (d := 9) rfl (.cons (d := 11) rfl (.cons (d := 19) rfl (.cons (d := 21) rfl (.cons (d := 22) rfl (.cons (d := 27) rfl (.cons (d := 28) rfl (.cons (d := 29) rfl (.cons (d := 194) rfl .nil))))))))))))) fun _ H30 => ?_
      refine h_skip H30 rfl (H30.wf rfl rfl rfl) rfl (.cons (d := 198) rfl (.cons (d := 195) rfl (.cons (d := 2) rfl (.cons (d := 3) rfl (.cons (d := 9) rfl (.cons (d := 11) rfl (.cons (d := 19) rfl (.cons (d := 21) rfl (.cons (d := 22) rfl (.cons (d := 27) rfl (.cons (d := 28) rfl (.cons (d := 29) rfl (.cons (d := 194) rfl .nil))))))))))))) fun _ H31 => ?_
      refine h_skip H31 rfl (H31.wf rfl rfl rfl) rfl (P12 199 2 3 9 11 19 21 22 27 28 29 194 rfl rfl rfl rfl rfl rfl rfl rfl rfl rfl rfl rfl) fun _ H32 => ?_
      refine h_o H32 rfl (R_pick H32 rfl rfl rfl) (P11 200 2 3 9 11 19 21 22 27 28 29 rfl rfl rfl rfl rfl rfl rfl rfl rfl rfl rfl) fun _ H33 => ?_
      refine h_o H33 rfl (R_mv H33 rfl rfl) (P11 201 2 3 9 11 19 21 22 27 28 29 rfl rfl rfl rfl rfl rfl rfl rfl rfl rfl rfl) fun _ H34 => ?_
      exact h_end ⟨H34.pick _ (P11 2 3 9 11 19 21 22 27 28 29 201 rfl rfl rfl rfl rfl rfl rfl rfl rfl rfl rfl), hL⟩
     ·refine h_op H27 rfl (H27.wt rfl rfl rfl) (R_mv H27 rfl rfl) rfl (P12 195 2 3 9 11 19 21 22 27 28 29 194 rfl rfl rfl rfl rfl rfl rfl rfl rfl rfl rfl rfl) fun a28 H28 => ?_
      refine h_op H28 rfl (H28.wt rfl rfl rfl) (R_fa H28 rfl rfl fa_rf2) rfl (.cons (d := 196) rfl (.cons (d := 195) rfl (.cons (d := 2) rfl (.cons (d := 3) rfl (.cons (d := 9) rfl (.cons (d := 11) rfl (.cons (d := 19) rfl (.cons (d := 21) rfl (.cons (d := 22) rfl (.cons (d := 27) rfl (.cons (d := 28) rfl (.cons (d := 29) rfl (.cons (d := 194) rfl .nil))))))))))))) fun _ H29 => ?_
      refine h_op H29 rfl (H29.wt rfl rfl rfl) (R_ld H29 rfl rfl (ld_sn ((hL.cl (g := g11) (A := (rfC S2 vo2 (.slice qL S2.L.length cL))) (t := 55) (by simp) 4).trans rfl))) rfl (.cons (d := 197) rfl (.cons (d := 195) rfl (.cons (d := 2) rfl (.cons (d := 3) rfl (.cons (d := 9) rfl (.cons (d := 11) rfl (.cons (d := 19) rfl (.cons (d := 21) rfl (.cons (d := 22) rfl (.cons (d := 27) rfl (.cons (d := 28) rfl (.cons (d := 29) rfl (.cons (d := 194) rfl .nil))))))))))))) fun _ H30 => ?_
      refine h_op H30 rfl (H30.wt rfl rfl rfl) (R_lenS H30 rfl rfl Tryz.underlying53) rfl (.cons (d := 198) rfl (.cons (d := 195) rfl (.cons (d := 2) rfl (.cons (d := 3) rfl (.cons (d := 9) rfl (.cons (d := 11) rfl (.cons (d := 19) rfl (.cons (d := 21) rfl (.cons (d := 22) rfl (.cons (d := 27) rfl (.cons (d := 28) rfl (.cons (d := 29) rfl (.cons (d := 194) rfl .nil))))))))))))) fun _ H31 => ?_
      refine h_op H31 rfl (H31.wt rfl rfl rfl) (R_bin H31 rfl rfl rfl (B_le Tryz.underlying3 _ _)) rfl (P12 199 2 3 9 11 19 21 22 27 28 29 194 rfl rfl rfl rfl rfl rfl rfl rfl rfl rfl rfl rfl) fun _ H32 => ?_
      refine h_o H32 rfl (R_pick H32 rfl rfl rfl) (P11 200 2 3 9 11 19 21 22 27 28 29 rfl rfl rfl rfl rfl rfl rfl rfl rfl rfl rfl) fun _ H33 => ?_
      refine h_o H33 rfl (R_mv H33 rfl rfl) (P11 201 2 3 9 11 19 21 22 27 28 29 rfl rfl rfl rfl rfl rfl rfl rfl rfl rfl rfl) fun _ H34 => ?_
      exact h_end ⟨H34.pick _ (P11 2 3 9 11 19 21 22 27 28 29 201 rfl rfl rfl rfl rfl rfl rfl rfl rfl rfl rfl), hL⟩
    clear hL H27
    rintro a35 wx ⟨H35, hL⟩
    generalize hr1 : (r0 && (decide (seq ≤ (S2.L.length : Int)))) = r1 at H35
    refine wpList_cut [_, _, _, _, _, _, _, _, _] (R := fun a' w' => Fr a' 269 [(2, .slice A1 l.length c1), (3, .int .i64 seq), (9, .pointer (some ⟨p, 0, none⟩)), (11, .pointer (some ⟨g11, 0, none⟩)), (19, .int .i64 (j : Nat)), (21, .bool true), (22, .int .i64 ((ents (opF S2.L) S2.L.length).length : Nat)), (27, .bool (decide ((0 : Nat) ≠ 0))), (28, .int .i64 (codeN S2.L seq : Nat)), (29, .bool (decide (codeN S2.L seq ≠ 0))), (210, .bool (r1 && (((codeN S2.L ((q + 1 : Nat) : Int) : Nat) : Int) != 0)))] ∧ OneK W p oa aa S2 ([bk g11 (rfC S2 vo2 (.slice qL S2.L.length cL)) 55] ++ (X2 ++ [bk g5 (tbC t (.slice A4 t.own.length c4)) 28])) w') ?_ ?_
    ·cases r1
     ·refine h_skip H35 rfl (H35.wf rfl rfl rfl) rfl (P12 202 2 3 9 11 19 21 22 27 28 29 201 rfl rfl rfl rfl rfl rfl rfl rfl rfl rfl rfl rfl) fun a36 H36 => ?_
      refine h_skip H36 rfl (H36.wf rfl rfl rfl) rfl (P12 203 2 3 9 11 19 21 22 27 28 29 201 rfl rfl rfl rfl rfl rfl rfl rfl rfl rfl rfl rfl) fun _ H37 => ?_
      refine h_skip H37 rfl (H37.wf rfl rfl rfl) rfl (.cons (d := 204) rfl (.cons (d := 203) rfl (.cons (d := 2) rfl (.cons (d := 3) rfl (.cons (d := 9) rfl (.cons (d := 11) rfl (.cons (d := 19) rfl (.cons (d := 21) rfl (.cons (d := 22) rfl (.cons (d := 27) rfl (.cons (d := 28) rfl (.cons (d := 29) rfl (.cons (d := 201) rfl .nil))))))))))))) fun _ H38 => ?_
      refine h_skip H38 rfl (H38.wf rfl rfl rfl) rfl (.cons (d := 205) rfl (.cons (d := 203) rfl (.cons (d := 2) rfl (.cons (d := 3) rfl (.cons (d := 9) rfl (.cons (d := 11) rfl (.cons (d := 19) rfl (.cons (d := 21) rfl (.cons (d := 22) rfl (.cons (d := 27) rfl (.cons (d := 28) rfl (.cons (d := 29) rfl (.cons (d := 201) rfl .nil))))))))))))) fun _ H39 => ?_
      refine h_skip H39 rfl (H39.wf rfl rfl rfl) rfl (P12 206 2 3 9 11 19 21 22 27 28 29 201 rfl rfl rfl rfl rfl rfl rfl rfl rfl rfl rfl rfl) fun _ H40 => ?_
      refine h_skip H40 rfl (H40.wf rfl rfl rfl) rfl (P12 207 2 3 9 11 19 21 22 27 28 29 201 rfl rfl rfl rfl rfl rfl rfl rfl rfl rfl rfl rfl) fun _ H41 => ?_
      refine h_skip H41 rfl (H41.wf rfl rfl rfl) rfl (P12 208 2 3 9 11 19 21 22 27 28 29 201 rfl rfl rfl rfl rfl rfl rfl rfl rfl rfl rfl rfl) fun _ H42 => ?_
      refine h_skip H42 rfl (H42.wf rfl rfl rfl) rfl (P12 209 2 3 9 11 19 21 22 27 28 29 201 rfl rfl rfl rfl rfl rfl rfl rfl rfl rfl rfl rfl) fun _ H43 => ?_
      refine h_o H43 rfl (R_pick H43 rfl rfl rfl) (P11 210 2 3 9 11 19 21 22 27 28 29 rfl rfl rfl rfl rfl rfl rfl rfl rfl rfl rfl) fun _ H44 => ?_
      exact h_end ⟨H44.pick _ (P11 2 3 9 11 19 21 22 27 28 29 210 rfl rfl rfl rfl rfl rfl rfl rfl rfl rfl rfl), hL⟩
     ·refine h_op H35 rfl (H35.wt rfl rfl rfl) (R_fa H35 rfl rfl fa_rf2) rfl (P12 202 2 3 9 11 19 21 22 27 28 29 201 rfl rfl rfl rfl rfl rfl rfl rfl rfl rfl rfl rfl) fun a36 H36 => ?_
      refine h_op H36 rfl (H36.wt rfl rfl rfl) (R_ld H36 rfl rfl (ld_sn ((hL.cl (g := g11) (A := (rfC S2 vo2 (.slice qL S2.L.length cL))) (t := 55) (by simp) 4).trans rfl))) rfl (P12 203 2 3 9 11 19 21 22 27 28 29 201 rfl rfl rfl rfl rfl rfl rfl rfl rfl rfl rfl rfl) fun _ H37 => ?_
      refine h_op H37 rfl (H37.wt rfl rfl rfl) (R_mv H37 rfl rfl) rfl (.cons (d := 204) rfl (.cons (d := 203) rfl (.cons (d := 2) rfl (.cons (d := 3) rfl (.cons (d := 9) rfl (.cons (d := 11) rfl (.cons (d := 19) rfl (.cons (d := 21) rfl (.cons (d := 22) rfl (.cons (d := 27) rfl (.cons (d := 28) rfl (.cons (d := 29) rfl (.cons (d := 201) rfl .nil))))))))))))) fun _ H38 => ?_
      refine h_op H38 rfl (H38.wt rfl rfl rfl) (R_bin H38 rfl rfl rfl (B_toI (y := (q : Nat)) (B_subI _ _ (by have := (hin (by rw [hr0]; exact hr1)); omega) (by omega)) (by have := (hin (by rw [hr0]; exact hr1)); omega))) rfl (.cons (d := 205) rfl (.cons (d := 203) rfl (.cons (d := 2) rfl (.cons (d := 3) rfl (.cons (d := 9) rfl (.cons (d := 11) rfl (.cons (d := 19) rfl (.cons (d := 21) rfl (.cons (d := 22) rfl (.cons (d := 27) rfl (.cons (d := 28) rfl (.cons (d := 29) rfl (.cons (d := 201) rfl .nil))))))))))))) fun _ H39 => ?_
      refine h_op H39 rfl (H39.wt rfl rfl rfl) (R_ixa H39 rfl rfl rfl (ix_sn (hA (hin (by rw [hr0]; exact hr1)).2) (hin (by rw [hr0]; exact hr1)).2)) rfl (P12 206 2 3 9 11 19 21 22 27 28 29 201 rfl rfl rfl rfl rfl rfl rfl rfl rfl rfl rfl rfl) fun _ H40 => ?_
      refine h_op H40 rfl (H40.wt rfl rfl rfl) (R_fa H40 rfl rfl fa_sn1) rfl (P12 207 2 3 9 11 19 21 22 27 28 29 201 rfl rfl rfl rfl rfl rfl rfl rfl rfl rfl rfl rfl) fun _ H41 => ?_
      refine h_op H41 rfl (H41.wt rfl rfl rfl) (R_ld H41 rfl rfl (ld_int (snc_code (hL.rdc (S' := S2) hp) (hA (hin (by rw [hr0]; exact hr1)).2) (hin (by rw [hr0]; exact hr1)).2))) rfl (P12 208 2 3 9 11 19 21 22 27 28 29 201 rfl rfl rfl rfl rfl rfl rfl rfl rfl rfl rfl rfl) fun _ H42 => ?_
      refine h_op H42 rfl (H42.wt rfl rfl rfl) (R_bin H42 rfl rfl rfl (B_ne Tryz.underlying3 _ _)) rfl (P12 209 2 3 9 11 19 21 22 27 28 29 201 rfl rfl rfl rfl rfl rfl rfl rfl rfl rfl rfl rfl) fun _ H43 => ?_
      refine h_o H43 rfl (R_pick H43 rfl rfl rfl) (P11 210 2 3 9 11 19 21 22 27 28 29 rfl rfl rfl rfl rfl rfl rfl rfl rfl rfl rfl) fun _ H44 => ?_
      exact h_end ⟨H44.pick _ (P11 2 3 9 11 19 21 22 27 28 29 210 rfl rfl rfl rfl rfl rfl rfl rfl rfl rfl rfl), hL⟩
    clear hL H35
    rintro a45 wx ⟨H45, hL⟩
    generalize hr2 : (r1 && (((codeN S2.L ((q + 1 : Nat) : Int) : Nat) : Int) != 0)) = r2 at H45
    have hth : r2 = decide (codeN S2.L seq ≠ 0) := by
     rw [← hr2, ← hr1, ← hr0]
     by_cases h : 1 ≤ seq ∧ seq ≤ (S2.L.length : Int)
     ·rw [decide_eq_true h.1, decide_eq_true h.2, ← (hq h).1]
      exact code_ne _
     ·rw [codeN_out h]
      have e : (decide (seq ≥ 1) && decide (seq ≤ (S2.L.length : Int))) = false := by
       rw [Bool.and_eq_false_iff, decide_eq_false_iff_not, decide_eq_false_iff_not]
       omega
      rw [e]
      rfl
    rw [hth] at H45
    clear hth hr0 hr1 hr2
    refine h_o H45 rfl (R_as H45 rfl rfl) (P11 30 2 3 9 11 19 21 22 27 28 29 rfl rfl rfl rfl rfl rfl rfl rfl rfl rfl rfl) fun _ H46 => ?_
    refine h_end ?_
    repeat (go_not_at_region 31; go_step)
    refine wp_region_held_drew (S := fun w' => HasB g11 (rfC S2 vo2 (.slice qL S2.L.length cL)) 55 w' ∧ RdC w' 9 (.slice qL S2.L.length cL) (S2.L.map snC)) (by kernel_rfl) (⟨OneK.mem hL.drew (by simp), OneK.rdcS hL.drew hp (fun q hq => by simp [hq])⟩ : HasB g11 (rfC S2 vo2 (.slice qL S2.L.length cL)) 55 _ ∧ RdC _ 9 (.slice qL S2.L.length cL) (S2.L.map snC)) (fun _ => ?_)
    replace hL := hL.drew
    refine dag_cut (fun a' w' => Fr a' 269 [(234, .bool false), (2, .slice A1 l.length c1), (3, .int .i64 seq), (9, .pointer (some ⟨p, 0, none⟩)), (11, .pointer (some ⟨g11, 0, none⟩)), (19, .int .i64 (j : Nat)), (22, .int .i64 ((ents (opF S2.L) S2.L.length).length : Nat))] ∧ OneK W p oa aa S2 ([bk g11 (rfC S2 vo2 (.slice qL S2.L.length cL)) 55] ++ (X2 ++ [bk g5 (tbC t (.slice A4 t.own.length c4)) 28])) w') 29 #[true, true, true, true, true, true, true, true, true, true, true, true, true, true, true, true, true, true, true, true, true, true, true, true, false, false, false, false, false, false, false, false, false, false, false, false, false, false, false, false, false, false, false, false, false, false, false, false, false, false, false, false, false] ?_ (fun hS => ?_)
    rotate_left
    ·by_cases hz : codeN S2.L seq = 0
     ·rw [show decide (codeN S2.L seq ≠ 0) = false from decide_eq_false (fun h => h hz)] at H46
      refine a_opZ 0 H46 rfl rfl (by kernel_rfl) (wn rfl) (fun w hL => R_mv H46 rfl rfl) ((⟨OneK.mem hL (by simp), OneK.rdcS hL hp (fun q hq => by simp [hq])⟩ : HasB g11 (rfC S2 vo2 (.slice qL S2.L.length cL)) 55 _ ∧ RdC _ 9 (.slice qL S2.L.length cL) (S2.L.map snC))) rfl (P11 211 30 2 3 9 11 19 22 27 28 29 rfl rfl rfl rfl rfl rfl rfl rfl rfl rfl rfl) fun _ H47 => ?_
      refine a_opZ 1 H47 rfl rfl (by kernel_rfl) (wn rfl) (fun w hL => R_not H47 rfl rfl) ((⟨OneK.mem hL (by simp), OneK.rdcS hL hp (fun q hq => by simp [hq])⟩ : HasB g11 (rfC S2 vo2 (.slice qL S2.L.length cL)) 55 _ ∧ RdC _ 9 (.slice qL S2.L.length cL) (S2.L.map snC))) rfl (P11 212 30 2 3 9 11 19 22 27 28 29 rfl rfl rfl rfl rfl rfl rfl rfl rfl rfl rfl) fun _ H48 => ?_
      refine a_opZ 2 H48 rfl rfl (by kernel_rfl) (wn rfl) (fun w hL => R_mv H48 rfl rfl) ((⟨OneK.mem hL (by simp), OneK.rdcS hL hp (fun q hq => by simp [hq])⟩ : HasB g11 (rfC S2 vo2 (.slice qL S2.L.length cL)) 55 _ ∧ RdC _ 9 (.slice qL S2.L.length cL) (S2.L.map snC))) rfl (P11 213 30 2 3 9 11 19 22 27 28 29 rfl rfl rfl rfl rfl rfl rfl rfl rfl rfl rfl) fun _ H49 => ?_
      refine a_opZ 3 H49 rfl rfl (by kernel_rfl) (H49.wt rfl rfl rfl) (fun w hL => R_mv H49 rfl rfl) ((⟨OneK.mem hL (by simp), OneK.rdcS hL hp (fun q hq => by simp [hq])⟩ : HasB g11 (rfC S2 vo2 (.slice qL S2.L.length cL)) 55 _ ∧ RdC _ 9 (.slice qL S2.L.length cL) (S2.L.map snC))) rfl (P11 214 213 30 2 3 9 11 19 22 28 29 rfl rfl rfl rfl rfl rfl rfl rfl rfl rfl rfl) fun _ H50 => ?_
      refine a_opZ 4 H50 rfl rfl (by kernel_rfl) (wn rfl) (fun w hL => R_pick H50 rfl rfl rfl) ((⟨OneK.mem hL (by simp), OneK.rdcS hL hp (fun q hq => by simp [hq])⟩ : HasB g11 (rfC S2 vo2 (.slice qL S2.L.length cL)) 55 _ ∧ RdC _ 9 (.slice qL S2.L.length cL) (S2.L.map snC))) rfl (P10 215 30 2 3 9 11 19 22 28 29 rfl rfl rfl rfl rfl rfl rfl rfl rfl rfl) fun _ H51 => ?_
      refine a_opZ 5 H51 rfl rfl (by kernel_rfl) (wn rfl) (fun w hL => R_mv H51 rfl rfl) ((⟨OneK.mem hL (by simp), OneK.rdcS hL hp (fun q hq => by simp [hq])⟩ : HasB g11 (rfC S2 vo2 (.slice qL S2.L.length cL)) 55 _ ∧ RdC _ 9 (.slice qL S2.L.length cL) (S2.L.map snC))) rfl (P10 216 30 2 3 9 11 19 22 28 29 rfl rfl rfl rfl rfl rfl rfl rfl rfl rfl) fun _ H52 => ?_
      refine a_opZ 6 H52 rfl rfl (by kernel_rfl) (H52.wt rfl rfl rfl) (fun w hL => R_mv H52 rfl rfl) ((⟨OneK.mem hL (by simp), OneK.rdcS hL hp (fun q hq => by simp [hq])⟩ : HasB g11 (rfC S2 vo2 (.slice qL S2.L.length cL)) 55 _ ∧ RdC _ 9 (.slice qL S2.L.length cL) (S2.L.map snC))) rfl (P10 217 216 30 2 3 9 11 19 22 28 rfl rfl rfl rfl rfl rfl rfl rfl rfl rfl) fun _ H53 => ?_
      refine a_opZ 7 H53 rfl rfl (by kernel_rfl) (H53.wt rfl rfl rfl) (fun w hL => R_mv H53 rfl rfl) ((⟨OneK.mem hL (by simp), OneK.rdcS hL hp (fun q hq => by simp [hq])⟩ : HasB g11 (rfC S2 vo2 (.slice qL S2.L.length cL)) 55 _ ∧ RdC _ 9 (.slice qL S2.L.length cL) (S2.L.map snC))) rfl (P11 218 217 216 30 2 3 9 11 19 22 28 rfl rfl rfl rfl rfl rfl rfl rfl rfl rfl rfl) fun _ H54 => ?_
      refine a_opZ 8 H54 rfl rfl (by kernel_rfl) (H54.wt rfl rfl rfl) (fun w hL => R_bin H54 rfl rfl rfl B_bne) ((⟨OneK.mem hL (by simp), OneK.rdcS hL hp (fun q hq => by simp [hq])⟩ : HasB g11 (rfC S2 vo2 (.slice qL S2.L.length cL)) 55 _ ∧ RdC _ 9 (.slice qL S2.L.length cL) (S2.L.map snC))) rfl (P10 219 216 30 2 3 9 11 19 22 28 rfl rfl rfl rfl rfl rfl rfl rfl rfl rfl) fun _ H55 => ?_
      refine a_opZ 9 H55 rfl rfl (by kernel_rfl) (wn rfl) (fun w hL => R_pick H55 rfl rfl rfl) ((⟨OneK.mem hL (by simp), OneK.rdcS hL hp (fun q hq => by simp [hq])⟩ : HasB g11 (rfC S2 vo2 (.slice qL S2.L.length cL)) 55 _ ∧ RdC _ 9 (.slice qL S2.L.length cL) (S2.L.map snC))) rfl (P9 220 30 2 3 9 11 19 22 28 rfl rfl rfl rfl rfl rfl rfl rfl rfl) fun _ H56 => ?_
      refine a_opZ 10 H56 rfl rfl (by kernel_rfl) (wn rfl) (fun w hL => R_mv H56 rfl rfl) ((⟨OneK.mem hL (by simp), OneK.rdcS hL hp (fun q hq => by simp [hq])⟩ : HasB g11 (rfC S2 vo2 (.slice qL S2.L.length cL)) 55 _ ∧ RdC _ 9 (.slice qL S2.L.length cL) (S2.L.map snC))) rfl (P9 221 30 2 3 9 11 19 22 28 rfl rfl rfl rfl rfl rfl rfl rfl rfl) fun _ H57 => ?_
      refine a_opZ 11 H57 rfl rfl (by kernel_rfl) (H57.wt rfl rfl rfl) (fun w hL => R_mv H57 rfl rfl) ((⟨OneK.mem hL (by simp), OneK.rdcS hL hp (fun q hq => by simp [hq])⟩ : HasB g11 (rfC S2 vo2 (.slice qL S2.L.length cL)) 55 _ ∧ RdC _ 9 (.slice qL S2.L.length cL) (S2.L.map snC))) rfl (P9 222 221 2 3 9 11 19 22 28 rfl rfl rfl rfl rfl rfl rfl rfl rfl) fun _ H58 => ?_
      refine a_opZ 12 H58 rfl rfl (by kernel_rfl) (H58.wt rfl rfl rfl) (fun w hL => R_mv H58 rfl rfl) ((⟨OneK.mem hL (by simp), OneK.rdcS hL hp (fun q hq => by simp [hq])⟩ : HasB g11 (rfC S2 vo2 (.slice qL S2.L.length cL)) 55 _ ∧ RdC _ 9 (.slice qL S2.L.length cL) (S2.L.map snC))) rfl (P9 223 221 2 3 9 11 19 22 28 rfl rfl rfl rfl rfl rfl rfl rfl rfl) fun _ H59 => ?_
      refine a_skip 13 H59 rfl rfl (by kernel_rfl) (by kernel_rfl) (by kernel_rfl) (fun _ _ _ h => h) (H59.wf rfl rfl rfl) ((⟨OneK.mem hL (by simp), OneK.rdcS hL hp (fun q hq => by simp [hq])⟩ : HasB g11 (rfC S2 vo2 (.slice qL S2.L.length cL)) 55 _ ∧ RdC _ 9 (.slice qL S2.L.length cL) (S2.L.map snC))) rfl (P9 224 223 221 2 3 9 11 19 22 rfl rfl rfl rfl rfl rfl rfl rfl rfl) fun _ H60 => ?_
      refine a_skip 14 H60 rfl rfl (by kernel_rfl) (by kernel_rfl) (by kernel_rfl) (fun _ _ _ h => h) (H60.wf rfl rfl rfl) ((⟨OneK.mem hL (by simp), OneK.rdcS hL hp (fun q hq => by simp [hq])⟩ : HasB g11 (rfC S2 vo2 (.slice qL S2.L.length cL)) 55 _ ∧ RdC _ 9 (.slice qL S2.L.length cL) (S2.L.map snC))) rfl (P10 225 224 223 221 2 3 9 11 19 22 rfl rfl rfl rfl rfl rfl rfl rfl rfl rfl) fun _ H61 => ?_
      refine a_skip 16 H61 rfl rfl (by kernel_rfl) (by kernel_rfl) (by kernel_rfl) (fun _ _ _ h => h) (H61.wf rfl rfl rfl) ((⟨OneK.mem hL (by simp), OneK.rdcS hL hp (fun q hq => by simp [hq])⟩ : HasB g11 (rfC S2 vo2 (.slice qL S2.L.length cL)) 55 _ ∧ RdC _ 9 (.slice qL S2.L.length cL) (S2.L.map snC))) rfl (P11 227 225 224 223 221 2 3 9 11 19 22 rfl rfl rfl rfl rfl rfl rfl rfl rfl rfl rfl) fun _ H62 => ?_
      refine a_skip 15 H62 rfl rfl (by kernel_rfl) (by kernel_rfl) (by kernel_rfl) (fun _ _ _ h => h) (H62.wf rfl rfl rfl) ((⟨OneK.mem hL (by simp), OneK.rdcS hL hp (fun q hq => by simp [hq])⟩ : HasB g11 (rfC S2 vo2 (.slice qL S2.L.length cL)) 55 _ ∧ RdC _ 9 (.slice qL S2.L.length cL) (S2.L.map snC))) rfl (P11 226 227 224 223 221 2 3 9 11 19 22 rfl rfl rfl rfl rfl rfl rfl rfl rfl rfl rfl) fun _ H63 => ?_
      refine a_skip 17 H63 rfl rfl (by kernel_rfl) (by kernel_rfl) (by kernel_rfl) (fun _ _ _ h => h) (H63.wf rfl rfl rfl) ((⟨OneK.mem hL (by simp), OneK.rdcS hL hp (fun q hq => by simp [hq])⟩ : HasB g11 (rfC S2 vo2 (.slice qL S2.L.length cL)) 55 _ ∧ RdC _ 9 (.slice qL S2.L.length cL) (S2.L.map snC))) rfl (P11 228 226 224 223 221 2 3 9 11 19 22 rfl rfl rfl rfl rfl rfl rfl rfl rfl rfl rfl) fun _ H64 => ?_
      refine a_skip 18 H64 rfl rfl (by kernel_rfl) (by kernel_rfl) (by kernel_rfl) (fun _ _ _ h => h) (H64.wf rfl rfl rfl) ((⟨OneK.mem hL (by simp), OneK.rdcS hL hp (fun q hq => by simp [hq])⟩ : HasB g11 (rfC S2 vo2 (.slice qL S2.L.length cL)) 55 _ ∧ RdC _ 9 (.slice qL S2.L.length cL) (S2.L.map snC))) rfl (P10 229 224 223 221 2 3 9 11 19 22 rfl rfl rfl rfl rfl rfl rfl rfl rfl rfl) fun _ H65 => ?_
      refine a_skip 19 H65 rfl rfl (by kernel_rfl) (by kernel_rfl) (by kernel_rfl) (fun _ _ _ h => h) (H65.wf rfl rfl rfl) ((⟨OneK.mem hL (by simp), OneK.rdcS hL hp (fun q hq => by simp [hq])⟩ : HasB g11 (rfC S2 vo2 (.slice qL S2.L.length cL)) 55 _ ∧ RdC _ 9 (.slice qL S2.L.length cL) (S2.L.map snC))) rfl (P10 230 224 223 221 2 3 9 11 19 22 rfl rfl rfl rfl rfl rfl rfl rfl rfl rfl) fun _ H66 => ?_
      refine a_skip 20 H66 rfl rfl (by kernel_rfl) (by kernel_rfl) (by kernel_rfl) (fun _ _ _ h => h) (H66.wf rfl rfl rfl) ((⟨OneK.mem hL (by simp), OneK.rdcS hL hp (fun q hq => by simp [hq])⟩ : HasB g11 (rfC S2 vo2 (.slice qL S2.L.length cL)) 55 _ ∧ RdC _ 9 (.slice qL S2.L.length cL) (S2.L.map snC))) rfl (P10 231 224 223 221 2 3 9 11 19 22 rfl rfl rfl rfl rfl rfl rfl rfl rfl rfl) fun _ H67 => ?_
      refine a_skip 21 H67 rfl rfl (by kernel_rfl) (by kernel_rfl) (by kernel_rfl) (fun _ _ _ h => h) (H67.wf rfl rfl rfl) ((⟨OneK.mem hL (by simp), OneK.rdcS hL hp (fun q hq => by simp [hq])⟩ : HasB g11 (rfC S2 vo2 (.slice qL S2.L.length cL)) 55 _ ∧ RdC _ 9 (.slice qL S2.L.length cL) (S2.L.map snC))) rfl (P9 232 223 221 2 3 9 11 19 22 rfl rfl rfl rfl rfl rfl rfl rfl rfl) fun _ H68 => ?_
      refine a_opZ 22 H68 rfl rfl (by kernel_rfl) (H68.wt rfl rfl rfl) (fun w hL => R_pick H68 rfl rfl rfl) ((⟨OneK.mem hL (by simp), OneK.rdcS hL hp (fun q hq => by simp [hq])⟩ : HasB g11 (rfC S2 vo2 (.slice qL S2.L.length cL)) 55 _ ∧ RdC _ 9 (.slice qL S2.L.length cL) (S2.L.map snC))) rfl (P8 233 221 2 3 9 11 19 22 rfl rfl rfl rfl rfl rfl rfl rfl) fun _ H69 => ?_
      refine a_opZ 23 H69 rfl rfl (by kernel_rfl) (wn rfl) (fun w hL => R_pick H69 rfl rfl rfl) ((⟨OneK.mem hL (by simp), OneK.rdcS hL hp (fun q hq => by simp [hq])⟩ : HasB g11 (rfC S2 vo2 (.slice qL S2.L.length cL)) 55 _ ∧ RdC _ 9 (.slice qL S2.L.length cL) (S2.L.map snC))) rfl (P7 234 2 3 9 11 19 22 rfl rfl rfl rfl rfl rfl rfl) fun _ H70 => ?_
      exact dag_use hS (by kernel_rfl) (by kernel_rfl) ⟨H70.pick _ (P7 234 2 3 9 11 19 22 rfl rfl rfl rfl rfl rfl rfl), hL⟩
     ·have hs : 1 ≤ seq ∧ seq ≤ S2.L.length := by
       by_cases h : 1 ≤ seq ∧ seq ≤ (S2.L.length : Int)
       ·exact h
       ·exact absurd (codeN_out h) hz
      obtain ⟨hqe, hqn⟩ := hq hs
      rw [show decide (codeN S2.L seq ≠ 0) = true from decide_eq_true hz] at H46
      refine a_opZ 0 H46 rfl rfl (by kernel_rfl) (wn rfl) (fun w hL => R_mv H46 rfl rfl) ((⟨OneK.mem hL (by simp), OneK.rdcS hL hp (fun q hq => by simp [hq])⟩ : HasB g11 (rfC S2 vo2 (.slice qL S2.L.length cL)) 55 _ ∧ RdC _ 9 (.slice qL S2.L.length cL) (S2.L.map snC))) rfl (P11 211 30 2 3 9 11 19 22 27 28 29 rfl rfl rfl rfl rfl rfl rfl rfl rfl rfl rfl) fun _ H47 => ?_
      refine a_opZ 1 H47 rfl rfl (by kernel_rfl) (wn rfl) (fun w hL => R_not H47 rfl rfl) ((⟨OneK.mem hL (by simp), OneK.rdcS hL hp (fun q hq => by simp [hq])⟩ : HasB g11 (rfC S2 vo2 (.slice qL S2.L.length cL)) 55 _ ∧ RdC _ 9 (.slice qL S2.L.length cL) (S2.L.map snC))) rfl (P11 212 30 2 3 9 11 19 22 27 28 29 rfl rfl rfl rfl rfl rfl rfl rfl rfl rfl rfl) fun _ H48 => ?_
      refine a_opZ 2 H48 rfl rfl (by kernel_rfl) (wn rfl) (fun w hL => R_mv H48 rfl rfl) ((⟨OneK.mem hL (by simp), OneK.rdcS hL hp (fun q hq => by simp [hq])⟩ : HasB g11 (rfC S2 vo2 (.slice qL S2.L.length cL)) 55 _ ∧ RdC _ 9 (.slice qL S2.L.length cL) (S2.L.map snC))) rfl (P11 213 30 2 3 9 11 19 22 27 28 29 rfl rfl rfl rfl rfl rfl rfl rfl rfl rfl rfl) fun _ H49 => ?_
      refine a_opZ 3 H49 rfl rfl (by kernel_rfl) (H49.wt rfl rfl rfl) (fun w hL => R_mv H49 rfl rfl) ((⟨OneK.mem hL (by simp), OneK.rdcS hL hp (fun q hq => by simp [hq])⟩ : HasB g11 (rfC S2 vo2 (.slice qL S2.L.length cL)) 55 _ ∧ RdC _ 9 (.slice qL S2.L.length cL) (S2.L.map snC))) rfl (P11 214 213 30 2 3 9 11 19 22 28 29 rfl rfl rfl rfl rfl rfl rfl rfl rfl rfl rfl) fun _ H50 => ?_
      refine a_opZ 4 H50 rfl rfl (by kernel_rfl) (wn rfl) (fun w hL => R_pick H50 rfl rfl rfl) ((⟨OneK.mem hL (by simp), OneK.rdcS hL hp (fun q hq => by simp [hq])⟩ : HasB g11 (rfC S2 vo2 (.slice qL S2.L.length cL)) 55 _ ∧ RdC _ 9 (.slice qL S2.L.length cL) (S2.L.map snC))) rfl (P10 215 30 2 3 9 11 19 22 28 29 rfl rfl rfl rfl rfl rfl rfl rfl rfl rfl) fun _ H51 => ?_
      refine a_opZ 5 H51 rfl rfl (by kernel_rfl) (wn rfl) (fun w hL => R_mv H51 rfl rfl) ((⟨OneK.mem hL (by simp), OneK.rdcS hL hp (fun q hq => by simp [hq])⟩ : HasB g11 (rfC S2 vo2 (.slice qL S2.L.length cL)) 55 _ ∧ RdC _ 9 (.slice qL S2.L.length cL) (S2.L.map snC))) rfl (P10 216 30 2 3 9 11 19 22 28 29 rfl rfl rfl rfl rfl rfl rfl rfl rfl rfl) fun _ H52 => ?_
      refine a_opZ 6 H52 rfl rfl (by kernel_rfl) (H52.wt rfl rfl rfl) (fun w hL => R_mv H52 rfl rfl) ((⟨OneK.mem hL (by simp), OneK.rdcS hL hp (fun q hq => by simp [hq])⟩ : HasB g11 (rfC S2 vo2 (.slice qL S2.L.length cL)) 55 _ ∧ RdC _ 9 (.slice qL S2.L.length cL) (S2.L.map snC))) rfl (P10 217 216 30 2 3 9 11 19 22 28 rfl rfl rfl rfl rfl rfl rfl rfl rfl rfl) fun _ H53 => ?_
      refine a_opZ 7 H53 rfl rfl (by kernel_rfl) (H53.wt rfl rfl rfl) (fun w hL => R_mv H53 rfl rfl) ((⟨OneK.mem hL (by simp), OneK.rdcS hL hp (fun q hq => by simp [hq])⟩ : HasB g11 (rfC S2 vo2 (.slice qL S2.L.length cL)) 55 _ ∧ RdC _ 9 (.slice qL S2.L.length cL) (S2.L.map snC))) rfl (P11 218 217 216 30 2 3 9 11 19 22 28 rfl rfl rfl rfl rfl rfl rfl rfl rfl rfl rfl) fun _ H54 => ?_
      refine a_opZ 8 H54 rfl rfl (by kernel_rfl) (H54.wt rfl rfl rfl) (fun w hL => R_bin H54 rfl rfl rfl B_bne) ((⟨OneK.mem hL (by simp), OneK.rdcS hL hp (fun q hq => by simp [hq])⟩ : HasB g11 (rfC S2 vo2 (.slice qL S2.L.length cL)) 55 _ ∧ RdC _ 9 (.slice qL S2.L.length cL) (S2.L.map snC))) rfl (P10 219 216 30 2 3 9 11 19 22 28 rfl rfl rfl rfl rfl rfl rfl rfl rfl rfl) fun _ H55 => ?_
      refine a_opZ 9 H55 rfl rfl (by kernel_rfl) (wn rfl) (fun w hL => R_pick H55 rfl rfl rfl) ((⟨OneK.mem hL (by simp), OneK.rdcS hL hp (fun q hq => by simp [hq])⟩ : HasB g11 (rfC S2 vo2 (.slice qL S2.L.length cL)) 55 _ ∧ RdC _ 9 (.slice qL S2.L.length cL) (S2.L.map snC))) rfl (P9 220 30 2 3 9 11 19 22 28 rfl rfl rfl rfl rfl rfl rfl rfl rfl) fun _ H56 => ?_
      refine a_opZ 10 H56 rfl rfl (by kernel_rfl) (wn rfl) (fun w hL => R_mv H56 rfl rfl) ((⟨OneK.mem hL (by simp), OneK.rdcS hL hp (fun q hq => by simp [hq])⟩ : HasB g11 (rfC S2 vo2 (.slice qL S2.L.length cL)) 55 _ ∧ RdC _ 9 (.slice qL S2.L.length cL) (S2.L.map snC))) rfl (P9 221 30 2 3 9 11 19 22 28 rfl rfl rfl rfl rfl rfl rfl rfl rfl) fun _ H57 => ?_
      refine a_opZ 11 H57 rfl rfl (by kernel_rfl) (H57.wt rfl rfl rfl) (fun w hL => R_mv H57 rfl rfl) ((⟨OneK.mem hL (by simp), OneK.rdcS hL hp (fun q hq => by simp [hq])⟩ : HasB g11 (rfC S2 vo2 (.slice qL S2.L.length cL)) 55 _ ∧ RdC _ 9 (.slice qL S2.L.length cL) (S2.L.map snC))) rfl (P9 222 221 2 3 9 11 19 22 28 rfl rfl rfl rfl rfl rfl rfl rfl rfl) fun _ H58 => ?_
      refine a_opZ 12 H58 rfl rfl (by kernel_rfl) (H58.wt rfl rfl rfl) (fun w hL => R_mv H58 rfl rfl) ((⟨OneK.mem hL (by simp), OneK.rdcS hL hp (fun q hq => by simp [hq])⟩ : HasB g11 (rfC S2 vo2 (.slice qL S2.L.length cL)) 55 _ ∧ RdC _ 9 (.slice qL S2.L.length cL) (S2.L.map snC))) rfl (P9 223 221 2 3 9 11 19 22 28 rfl rfl rfl rfl rfl rfl rfl rfl rfl) fun _ H59 => ?_
      refine a_opZ 13 H59 rfl rfl (by kernel_rfl) (H59.wt rfl rfl rfl) (fun w hL => R_mv H59 rfl rfl) ((⟨OneK.mem hL (by simp), OneK.rdcS hL hp (fun q hq => by simp [hq])⟩ : HasB g11 (rfC S2 vo2 (.slice qL S2.L.length cL)) 55 _ ∧ RdC _ 9 (.slice qL S2.L.length cL) (S2.L.map snC))) rfl (P9 224 223 221 2 3 9 11 19 22 rfl rfl rfl rfl rfl rfl rfl rfl rfl) fun _ H60 => ?_
      refine a_opZ 14 H60 rfl rfl (by kernel_rfl) (H60.wt rfl rfl rfl) (fun w hL => R_fa H60 rfl rfl fa_rf2) ((⟨OneK.mem hL (by simp), OneK.rdcS hL hp (fun q hq => by simp [hq])⟩ : HasB g11 (rfC S2 vo2 (.slice qL S2.L.length cL)) 55 _ ∧ RdC _ 9 (.slice qL S2.L.length cL) (S2.L.map snC))) rfl (P10 225 224 223 221 2 3 9 11 19 22 rfl rfl rfl rfl rfl rfl rfl rfl rfl rfl) fun _ H61 => ?_
      refine a_opZ 16 H61 rfl rfl (by kernel_rfl) (H61.wt rfl rfl rfl) (fun w hL => R_mv H61 rfl rfl) ((⟨OneK.mem hL (by simp), OneK.rdcS hL hp (fun q hq => by simp [hq])⟩ : HasB g11 (rfC S2 vo2 (.slice qL S2.L.length cL)) 55 _ ∧ RdC _ 9 (.slice qL S2.L.length cL) (S2.L.map snC))) rfl (P11 227 225 224 223 221 2 3 9 11 19 22 rfl rfl rfl rfl rfl rfl rfl rfl rfl rfl rfl) fun _ H62 => ?_
      refine a_opZ 15 H62 rfl rfl (by kernel_rfl) (H62.wt rfl rfl rfl) (fun w hL => R_ld H62 rfl rfl (ld_sn ((HasB.cl hL.1 4).trans rfl))) ((⟨OneK.mem hL (by simp), OneK.rdcS hL hp (fun q hq => by simp [hq])⟩ : HasB g11 (rfC S2 vo2 (.slice qL S2.L.length cL)) 55 _ ∧ RdC _ 9 (.slice qL S2.L.length cL) (S2.L.map snC))) rfl (P11 226 227 224 223 221 2 3 9 11 19 22 rfl rfl rfl rfl rfl rfl rfl rfl rfl rfl rfl) fun _ H63 => ?_
      refine a_opZ 17 H63 rfl rfl (by kernel_rfl) (H63.wt rfl rfl rfl) (fun w hL => R_bin H63 rfl rfl rfl (B_toI (y := (q : Nat)) (B_subI _ _ (by omega) (by omega)) (by omega))) ((⟨OneK.mem hL (by simp), OneK.rdcS hL hp (fun q hq => by simp [hq])⟩ : HasB g11 (rfC S2 vo2 (.slice qL S2.L.length cL)) 55 _ ∧ RdC _ 9 (.slice qL S2.L.length cL) (S2.L.map snC))) rfl (P11 228 226 224 223 221 2 3 9 11 19 22 rfl rfl rfl rfl rfl rfl rfl rfl rfl rfl rfl) fun _ H64 => ?_
      refine a_opZ 18 H64 rfl rfl (by kernel_rfl) (H64.wt rfl rfl rfl) (fun w hL => R_ixa H64 rfl rfl rfl (ix_sn (hA hqn) hqn)) ((⟨OneK.mem hL (by simp), OneK.rdcS hL hp (fun q hq => by simp [hq])⟩ : HasB g11 (rfC S2 vo2 (.slice qL S2.L.length cL)) 55 _ ∧ RdC _ 9 (.slice qL S2.L.length cL) (S2.L.map snC))) rfl (P10 229 224 223 221 2 3 9 11 19 22 rfl rfl rfl rfl rfl rfl rfl rfl rfl rfl) fun _ H65 => ?_
      refine a_opZ 19 H65 rfl rfl (by kernel_rfl) (H65.wt rfl rfl rfl) (fun w hL => R_fa H65 rfl rfl fa_sn1) ((⟨OneK.mem hL (by simp), OneK.rdcS hL hp (fun q hq => by simp [hq])⟩ : HasB g11 (rfC S2 vo2 (.slice qL S2.L.length cL)) 55 _ ∧ RdC _ 9 (.slice qL S2.L.length cL) (S2.L.map snC))) rfl (P10 230 224 223 221 2 3 9 11 19 22 rfl rfl rfl rfl rfl rfl rfl rfl rfl rfl) fun _ H66 => ?_
      refine a_opZ 20 H66 rfl rfl (by kernel_rfl) (H66.wt rfl rfl rfl) (fun w hL => R_ld H66 rfl rfl (ld_int (snc_code hL.2 (hA hqn) hqn))) ((⟨OneK.mem hL (by simp), OneK.rdcS hL hp (fun q hq => by simp [hq])⟩ : HasB g11 (rfC S2 vo2 (.slice qL S2.L.length cL)) 55 _ ∧ RdC _ 9 (.slice qL S2.L.length cL) (S2.L.map snC))) rfl (P10 231 224 223 221 2 3 9 11 19 22 rfl rfl rfl rfl rfl rfl rfl rfl rfl rfl) fun _ H67 => ?_
      refine a_opZ 21 H67 rfl rfl (by kernel_rfl) (H67.wt rfl rfl rfl) (fun w hL => R_bin H67 rfl rfl rfl (B_to (y := false) (B_ne Tryz.underlying3 _ _) (by rw [← hqe]; exact bne_self_eq_false' _))) ((⟨OneK.mem hL (by simp), OneK.rdcS hL hp (fun q hq => by simp [hq])⟩ : HasB g11 (rfC S2 vo2 (.slice qL S2.L.length cL)) 55 _ ∧ RdC _ 9 (.slice qL S2.L.length cL) (S2.L.map snC))) rfl (P9 232 223 221 2 3 9 11 19 22 rfl rfl rfl rfl rfl rfl rfl rfl rfl) fun _ H68 => ?_
      refine a_opZ 22 H68 rfl rfl (by kernel_rfl) (H68.wt rfl rfl rfl) (fun w hL => R_pick H68 rfl rfl rfl) ((⟨OneK.mem hL (by simp), OneK.rdcS hL hp (fun q hq => by simp [hq])⟩ : HasB g11 (rfC S2 vo2 (.slice qL S2.L.length cL)) 55 _ ∧ RdC _ 9 (.slice qL S2.L.length cL) (S2.L.map snC))) rfl (P8 233 221 2 3 9 11 19 22 rfl rfl rfl rfl rfl rfl rfl rfl) fun _ H69 => ?_
      refine a_opZ 23 H69 rfl rfl (by kernel_rfl) (wn rfl) (fun w hL => R_pick H69 rfl rfl rfl) ((⟨OneK.mem hL (by simp), OneK.rdcS hL hp (fun q hq => by simp [hq])⟩ : HasB g11 (rfC S2 vo2 (.slice qL S2.L.length cL)) 55 _ ∧ RdC _ 9 (.slice qL S2.L.length cL) (S2.L.map snC))) rfl (P7 234 2 3 9 11 19 22 rfl rfl rfl rfl rfl rfl rfl) fun _ H70 => ?_
      exact dag_use hS (by kernel_rfl) (by kernel_rfl) ⟨H70.pick _ (P7 234 2 3 9 11 19 22 rfl rfl rfl rfl rfl rfl rfl), hL⟩
    clear hL H46
    rintro a0 w0 ⟨H0, hL⟩
    refine a_opZ 24 H0 rfl rfl (by kernel_rfl) (wn rfl) (fun w hL => R_mv H0 rfl rfl) ((⟨OneK.mem hL (by simp), OneK.rdcS hL hp (fun q hq => by simp [hq])⟩ : HasB g11 (rfC S2 vo2 (.slice qL S2.L.length cL)) 55 _ ∧ RdC _ 9 (.slice qL S2.L.length cL) (S2.L.map snC))) rfl (P7 235 2 3 9 11 19 22 rfl rfl rfl rfl rfl rfl rfl) fun _ H1 => ?_
    refine a_opZ 25 H1 rfl rfl (by kernel_rfl) (H1.wt rfl rfl rfl) (fun w hL => R_mv H1 rfl rfl) ((⟨OneK.mem hL (by simp), OneK.rdcS hL hp (fun q hq => by simp [hq])⟩ : HasB g11 (rfC S2 vo2 (.slice qL S2.L.length cL)) 55 _ ∧ RdC _ 9 (.slice qL S2.L.length cL) (S2.L.map snC))) rfl (P8 236 235 2 3 9 11 19 22 rfl rfl rfl rfl rfl rfl rfl rfl) fun _ H2 => ?_
    refine a_opZ 27 H2 rfl rfl (by kernel_rfl) (H2.wt rfl rfl rfl) (fun w hL => R_ld H2 rfl rfl (ld_rf (S := S2) hL.1)) ((⟨OneK.mem hL (by simp), OneK.rdcS hL hp (fun q hq => by simp [hq])⟩ : HasB g11 (rfC S2 vo2 (.slice qL S2.L.length cL)) 55 _ ∧ RdC _ 9 (.slice qL S2.L.length cL) (S2.L.map snC))) rfl (P9 238 236 235 2 3 9 11 19 22 rfl rfl rfl rfl rfl rfl rfl rfl rfl) fun _ H3 => ?_
    refine a_all1 26 (by kernel_rfl) ?_
    refine o_call 26 H3 rfl rfl (H3.wt rfl rfl rfl) (R_call1 H3 rfl rfl (fun w => by simp [go_sem])) rfl ?_
    refine (k1_low hL).mono ?_
    rintro e wx ⟨rfl, rfl⟩
    refine ⟨_, rfl, fun a4 HH => ?_⟩
    have H4 := HH _ (P9 237 238 235 2 3 9 11 19 22 rfl rfl rfl rfl rfl rfl rfl rfl rfl)
    refine ⟨(⟨OneK.mem hL (by simp), OneK.rdcS hL hp (fun q hq => by simp [hq])⟩ : HasB g11 (rfC S2 vo2 (.slice qL S2.L.length cL)) 55 _ ∧ RdC _ 9 (.slice qL S2.L.length cL) (S2.L.map snC)), ?_⟩
    refine a_all1 28 (by kernel_rfl) ?_
    refine o_call 28 H4 rfl rfl (H4.wt rfl rfl rfl) (R_call1 H4 rfl rfl (fun w => by simp [go_sem])) rfl ?_
    refine (rlow_any (vo := vo2) (hL.rdc (S' := S2) hp) (by omega)).mono ?_
    rintro e w5 ⟨rfl, hb⟩
    replace hL := hL.call hb
    clear hb
    refine ⟨_, rfl, fun a5 HH => ?_⟩
    have H5 := HH _ (P9 239 237 235 2 3 9 11 19 22 rfl rfl rfl rfl rfl rfl rfl rfl rfl)
    refine ⟨(⟨OneK.mem hL (by simp), OneK.rdcS hL hp (fun q hq => by simp [hq])⟩ : HasB g11 (rfC S2 vo2 (.slice qL S2.L.length cL)) 55 _ ∧ RdC _ 9 (.slice qL S2.L.length cL) (S2.L.map snC)), ?_⟩
    refine a_opZ 29 H5 rfl rfl (by kernel_rfl) (H5.wt rfl rfl rfl) (fun w hL => R_bin H5 rfl rfl rfl (B_to (y := false) (B_ne Tryz.underlying3 _ _) (bne_self_eq_false' _))) ((⟨OneK.mem hL (by simp), OneK.rdcS hL hp (fun q hq => by simp [hq])⟩ : HasB g11 (rfC S2 vo2 (.slice qL S2.L.length cL)) 55 _ ∧ RdC _ 9 (.slice qL S2.L.length cL) (S2.L.map snC))) rfl (P8 240 235 2 3 9 11 19 22 rfl rfl rfl rfl rfl rfl rfl rfl) fun _ H6 => ?_
    refine a_opZ 30 H6 rfl rfl (by kernel_rfl) (wn rfl) (fun w hL => R_pick H6 rfl rfl rfl) ((⟨OneK.mem hL (by simp), OneK.rdcS hL hp (fun q hq => by simp [hq])⟩ : HasB g11 (rfC S2 vo2 (.slice qL S2.L.length cL)) 55 _ ∧ RdC _ 9 (.slice qL S2.L.length cL) (S2.L.map snC))) rfl (P7 241 2 3 9 11 19 22 rfl rfl rfl rfl rfl rfl rfl) fun _ H7 => ?_
    refine a_opZ 31 H7 rfl rfl (by kernel_rfl) (wn rfl) (fun w hL => R_mv H7 rfl rfl) ((⟨OneK.mem hL (by simp), OneK.rdcS hL hp (fun q hq => by simp [hq])⟩ : HasB g11 (rfC S2 vo2 (.slice qL S2.L.length cL)) 55 _ ∧ RdC _ 9 (.slice qL S2.L.length cL) (S2.L.map snC))) rfl (P7 242 2 3 9 11 19 22 rfl rfl rfl rfl rfl rfl rfl) fun _ H8 => ?_
    refine a_opZ 32 H8 rfl rfl (by kernel_rfl) (H8.wt rfl rfl rfl) (fun w hL => R_mv H8 rfl rfl) ((⟨OneK.mem hL (by simp), OneK.rdcS hL hp (fun q hq => by simp [hq])⟩ : HasB g11 (rfC S2 vo2 (.slice qL S2.L.length cL)) 55 _ ∧ RdC _ 9 (.slice qL S2.L.length cL) (S2.L.map snC))) rfl (P8 243 242 2 3 9 11 19 22 rfl rfl rfl rfl rfl rfl rfl rfl) fun _ H9 => ?_
    refine a_opZ 34 H9 rfl rfl (by kernel_rfl) (H9.wt rfl rfl rfl) (fun w hL => R_fa H9 rfl rfl fa_rf2) ((⟨OneK.mem hL (by simp), OneK.rdcS hL hp (fun q hq => by simp [hq])⟩ : HasB g11 (rfC S2 vo2 (.slice qL S2.L.length cL)) 55 _ ∧ RdC _ 9 (.slice qL S2.L.length cL) (S2.L.map snC))) rfl (P9 245 243 242 2 3 9 11 19 22 rfl rfl rfl rfl rfl rfl rfl rfl rfl) fun _ H10 => ?_
    refine a_opZ 35 H10 rfl rfl (by kernel_rfl) (H10.wt rfl rfl rfl) (fun w hL => R_ld H10 rfl rfl (ld_sn ((HasB.cl hL.1 4).trans rfl))) ((⟨OneK.mem hL (by simp), OneK.rdcS hL hp (fun q hq => by simp [hq])⟩ : HasB g11 (rfC S2 vo2 (.slice qL S2.L.length cL)) 55 _ ∧ RdC _ 9 (.slice qL S2.L.length cL) (S2.L.map snC))) rfl (P9 246 243 242 2 3 9 11 19 22 rfl rfl rfl rfl rfl rfl rfl rfl rfl) fun _ H11 => ?_
    refine a_opZ 36 H11 rfl rfl (by kernel_rfl) (H11.wt rfl rfl rfl) (fun w hL => (R_lenS H11 rfl rfl Tryz.underlying53)) ((⟨OneK.mem hL (by simp), OneK.rdcS hL hp (fun q hq => by simp [hq])⟩ : HasB g11 (rfC S2 vo2 (.slice qL S2.L.length cL)) 55 _ ∧ RdC _ 9 (.slice qL S2.L.length cL) (S2.L.map snC))) rfl (P9 247 243 242 2 3 9 11 19 22 rfl rfl rfl rfl rfl rfl rfl rfl rfl) fun _ H12 => ?_
    refine a_all1 33 (by kernel_rfl) ?_
    refine o_call 33 H12 rfl rfl (H12.wt rfl rfl rfl) (R_call1 H12 rfl rfl (fun w => by simp [go_sem])) rfl ?_
    refine (k1_last hL).mono ?_
    rintro e wx ⟨rfl, rfl⟩
    refine ⟨_, rfl, fun a13 HH => ?_⟩
    have H13 := HH _ (P9 244 247 242 2 3 9 11 19 22 rfl rfl rfl rfl rfl rfl rfl rfl rfl)
    refine ⟨(⟨OneK.mem hL (by simp), OneK.rdcS hL hp (fun q hq => by simp [hq])⟩ : HasB g11 (rfC S2 vo2 (.slice qL S2.L.length cL)) 55 _ ∧ RdC _ 9 (.slice qL S2.L.length cL) (S2.L.map snC)), ?_⟩
    refine a_opZ 37 H13 rfl rfl (by kernel_rfl) (H13.wt rfl rfl rfl) (fun w hL => R_bin H13 rfl rfl rfl (B_to (y := false) (B_ne Tryz.underlying3 _ _) (bne_self_eq_false' _))) ((⟨OneK.mem hL (by simp), OneK.rdcS hL hp (fun q hq => by simp [hq])⟩ : HasB g11 (rfC S2 vo2 (.slice qL S2.L.length cL)) 55 _ ∧ RdC _ 9 (.slice qL S2.L.length cL) (S2.L.map snC))) rfl (P8 248 242 2 3 9 11 19 22 rfl rfl rfl rfl rfl rfl rfl rfl) fun _ H14 => ?_
    refine a_opZ 38 H14 rfl rfl (by kernel_rfl) (wn rfl) (fun w hL => R_pick H14 rfl rfl rfl) ((⟨OneK.mem hL (by simp), OneK.rdcS hL hp (fun q hq => by simp [hq])⟩ : HasB g11 (rfC S2 vo2 (.slice qL S2.L.length cL)) 55 _ ∧ RdC _ 9 (.slice qL S2.L.length cL) (S2.L.map snC))) rfl (P7 249 2 3 9 11 19 22 rfl rfl rfl rfl rfl rfl rfl) fun _ H15 => ?_
    refine a_opZ 39 H15 rfl rfl (by kernel_rfl) (wn rfl) (fun w hL => R_mv H15 rfl rfl) ((⟨OneK.mem hL (by simp), OneK.rdcS hL hp (fun q hq => by simp [hq])⟩ : HasB g11 (rfC S2 vo2 (.slice qL S2.L.length cL)) 55 _ ∧ RdC _ 9 (.slice qL S2.L.length cL) (S2.L.map snC))) rfl (P7 250 2 3 9 11 19 22 rfl rfl rfl rfl rfl rfl rfl) fun _ H16 => ?_
    refine a_opZ 40 H16 rfl rfl (by kernel_rfl) (H16.wt rfl rfl rfl) (fun w hL => R_mv H16 rfl rfl) ((⟨OneK.mem hL (by simp), OneK.rdcS hL hp (fun q hq => by simp [hq])⟩ : HasB g11 (rfC S2 vo2 (.slice qL S2.L.length cL)) 55 _ ∧ RdC _ 9 (.slice qL S2.L.length cL) (S2.L.map snC))) rfl (P8 251 250 2 3 9 11 19 22 rfl rfl rfl rfl rfl rfl rfl rfl) fun _ H17 => ?_
    refine a_opZ 42 H17 rfl rfl (by kernel_rfl) (H17.wt rfl rfl rfl) (fun w hL => R_mv H17 rfl rfl) ((⟨OneK.mem hL (by simp), OneK.rdcS hL hp (fun q hq => by simp [hq])⟩ : HasB g11 (rfC S2 vo2 (.slice qL S2.L.length cL)) 55 _ ∧ RdC _ 9 (.slice qL S2.L.length cL) (S2.L.map snC))) rfl (P8 253 251 250 2 3 9 11 19 rfl rfl rfl rfl rfl rfl rfl rfl) fun _ H18 => ?_
    refine a_all1 41 (by kernel_rfl) ?_
    refine o_call 41 H18 rfl rfl (H18.wt rfl rfl rfl) (R_call1 H18 rfl rfl (fun w => by simp [go_sem])) rfl ?_
    refine (k1_left hL).mono ?_
    rintro e wx ⟨rfl, rfl⟩
    refine ⟨_, rfl, fun a19 HH => ?_⟩
    have H19 := HH _ (P8 252 253 250 2 3 9 11 19 rfl rfl rfl rfl rfl rfl rfl rfl)
    refine ⟨(⟨OneK.mem hL (by simp), OneK.rdcS hL hp (fun q hq => by simp [hq])⟩ : HasB g11 (rfC S2 vo2 (.slice qL S2.L.length cL)) 55 _ ∧ RdC _ 9 (.slice qL S2.L.length cL) (S2.L.map snC)), ?_⟩
    refine a_opZ 43 H19 rfl rfl (by kernel_rfl) (H19.wt rfl rfl rfl) (fun w hL => R_bin H19 rfl rfl rfl (B_to (y := false) (B_ne Tryz.underlying3 _ _) (bne_self_eq_false' _))) ((⟨OneK.mem hL (by simp), OneK.rdcS hL hp (fun q hq => by simp [hq])⟩ : HasB g11 (rfC S2 vo2 (.slice qL S2.L.length cL)) 55 _ ∧ RdC _ 9 (.slice qL S2.L.length cL) (S2.L.map snC))) rfl (P7 254 250 2 3 9 11 19 rfl rfl rfl rfl rfl rfl rfl) fun _ H20 => ?_
    refine a_opZ 44 H20 rfl rfl (by kernel_rfl) (wn rfl) (fun w hL => R_pick H20 rfl rfl rfl) ((⟨OneK.mem hL (by simp), OneK.rdcS hL hp (fun q hq => by simp [hq])⟩ : HasB g11 (rfC S2 vo2 (.slice qL S2.L.length cL)) 55 _ ∧ RdC _ 9 (.slice qL S2.L.length cL) (S2.L.map snC))) rfl (P6 255 2 3 9 11 19 rfl rfl rfl rfl rfl rfl) fun _ H21 => ?_
    refine a_opZ 45 H21 rfl rfl (by kernel_rfl) (wn rfl) (fun w hL => R_mv H21 rfl rfl) ((⟨OneK.mem hL (by simp), OneK.rdcS hL hp (fun q hq => by simp [hq])⟩ : HasB g11 (rfC S2 vo2 (.slice qL S2.L.length cL)) 55 _ ∧ RdC _ 9 (.slice qL S2.L.length cL) (S2.L.map snC))) rfl (P6 256 2 3 9 11 19 rfl rfl rfl rfl rfl rfl) fun _ H22 => ?_
    refine a_opZ 46 H22 rfl rfl (by kernel_rfl) (H22.wt rfl rfl rfl) (fun w hL => R_mv H22 rfl rfl) ((⟨OneK.mem hL (by simp), OneK.rdcS hL hp (fun q hq => by simp [hq])⟩ : HasB g11 (rfC S2 vo2 (.slice qL S2.L.length cL)) 55 _ ∧ RdC _ 9 (.slice qL S2.L.length cL) (S2.L.map snC))) rfl (P7 257 256 2 3 9 11 19 rfl rfl rfl rfl rfl rfl rfl) fun _ H23 => ?_
    refine a_opZ 48 H23 rfl rfl (by kernel_rfl) (H23.wt rfl rfl rfl) (fun w hL => R_fa H23 rfl rfl fa_rf1) ((⟨OneK.mem hL (by simp), OneK.rdcS hL hp (fun q hq => by simp [hq])⟩ : HasB g11 (rfC S2 vo2 (.slice qL S2.L.length cL)) 55 _ ∧ RdC _ 9 (.slice qL S2.L.length cL) (S2.L.map snC))) rfl (P8 259 257 256 2 3 9 11 19 rfl rfl rfl rfl rfl rfl rfl rfl) fun _ H24 => ?_
    refine a_opZ 49 H24 rfl rfl (by kernel_rfl) (H24.wt rfl rfl rfl) (fun w hL => R_ld H24 rfl rfl (ld_tbrE (S := S2) hL.1 hv6)) ((⟨OneK.mem hL (by simp), OneK.rdcS hL hp (fun q hq => by simp [hq])⟩ : HasB g11 (rfC S2 vo2 (.slice qL S2.L.length cL)) 55 _ ∧ RdC _ 9 (.slice qL S2.L.length cL) (S2.L.map snC))) rfl (P8 260 257 256 2 3 9 11 19 rfl rfl rfl rfl rfl rfl rfl rfl) fun _ H25 => ?_
    refine a_all1 47 (by kernel_rfl) ?_
    refine o_call 47 H25 rfl rfl (H25.wt rfl rfl rfl) (R_call1 H25 rfl rfl (fun w => by simp [go_sem])) rfl ?_
    refine (k1_table hL (by omega)).mono ?_
    rintro e w26 ⟨vt2, Rt, rfl, hrt, hL2⟩
    replace hL := hL2
    clear hL2
    refine ⟨_, rfl, fun a26 HH => ?_⟩
    have H26 := HH _ (P8 258 260 256 2 3 9 11 19 rfl rfl rfl rfl rfl rfl rfl rfl)
    refine ⟨(⟨OneK.mem hL (by simp), OneK.rdcS hL hp (fun q hq => by simp [hq])⟩ : HasB g11 (rfC S2 vo2 (.slice qL S2.L.length cL)) 55 _ ∧ RdC _ 9 (.slice qL S2.L.length cL) (S2.L.map snC)), ?_⟩
    refine a_all1 50 (by kernel_rfl) ?_
    refine o_call 50 H26 rfl rfl (H26.wt rfl rfl rfl) (R_call2 H26 rfl rfl rfl (fun w => by simp [go_sem])) rfl ?_
    obtain ⟨L5, h5⟩ := hL.lvl
    rw [List.append_assoc] at h5
    have hR5 := rd_row hrt _ h5
    clear h5
    refine (rSame_self hR5 (by omega) (hvo _ hL.below)).mono ?_
    rintro e w27 ⟨rfl, hb⟩
    replace hL := hL.call hb
    clear hb
    replace hL := OneK.dropl (X := lift Rt) hL
    refine ⟨_, rfl, fun a27 HH => ?_⟩
    have H27 := HH _ (P7 261 256 2 3 9 11 19 rfl rfl rfl rfl rfl rfl rfl)
    refine ⟨(⟨OneK.mem hL (by simp), OneK.rdcS hL hp (fun q hq => by simp [hq])⟩ : HasB g11 (rfC S2 vo2 (.slice qL S2.L.length cL)) 55 _ ∧ RdC _ 9 (.slice qL S2.L.length cL) (S2.L.map snC)), ?_⟩
    refine a_opZ 51 H27 rfl rfl (by kernel_rfl) (H27.wt rfl rfl rfl) (fun w hL => R_not H27 rfl rfl) ((⟨OneK.mem hL (by simp), OneK.rdcS hL hp (fun q hq => by simp [hq])⟩ : HasB g11 (rfC S2 vo2 (.slice qL S2.L.length cL)) 55 _ ∧ RdC _ 9 (.slice qL S2.L.length cL) (S2.L.map snC))) rfl (P7 262 256 2 3 9 11 19 rfl rfl rfl rfl rfl rfl rfl) fun _ H28 => ?_
    refine a_opZ 52 H28 rfl rfl (by kernel_rfl) (wn rfl) (fun w hL => R_pick H28 rfl rfl rfl) ((⟨OneK.mem hL (by simp), OneK.rdcS hL hp (fun q hq => by simp [hq])⟩ : HasB g11 (rfC S2 vo2 (.slice qL S2.L.length cL)) 55 _ ∧ RdC _ 9 (.slice qL S2.L.length cL) (S2.L.map snC))) rfl (P6 263 2 3 9 11 19 rfl rfl rfl rfl rfl rfl) fun _ H29 => ?_
    refine wpAnyH_done (by kernel_rfl) ?_ _
    repeat (go_not_at_region 16; go_step)
    refine wp_cond_false (H29.ev (x := .tmp 263) rfl) ?_
    repeat (go_not_at_region 16; go_step)
    refine wp_region_lit ?_
    refine h_o H29 rfl (R_mv H29 rfl rfl) (P6 132 2 3 9 11 19 rfl rfl rfl rfl rfl rfl) fun _ H30 => ?_
    refine h_o H30 rfl (R_bin H30 rfl rfl rfl (B_add Tryz.underlying3 _ _ (by omega) (by omega))) (P6 133 2 3 9 11 19 rfl rfl rfl rfl rfl rfl) fun _ H31 => ?_
    refine h_o H31 rfl (R_as H31 rfl rfl) (P5 19 2 3 9 11 rfl rfl rfl rfl rfl) fun _ H32 => ?_
    refine h_end ?_
    repeat (go_not_at_region 999; go_step)
    exact ⟨l.length - (j + 1), by omega, (HI.out _ _ _).2 ⟨j + 1, S2, vo2, _, X2, rfl, hjl, H32.pick _ (P5 2 3 9 11 19 rfl rfl rfl rfl rfl), hI, hp, hvo, hL⟩⟩
  ·repeat (go_not_at_region 15; go_step)
   refine wp_region_lit ?_
   refine h_o H0 rfl (R_mv H0 rfl rfl) (P6 128 2 3 9 11 19 rfl rfl rfl rfl rfl rfl) fun _ H1 => ?_
   refine h_o H1 rfl (R_mv H1 rfl rfl) (P7 129 128 2 3 9 11 19 rfl rfl rfl rfl rfl rfl rfl) fun _ H2 => ?_
   refine h_o H2 rfl (R_lenS H2 rfl rfl Tryz.underlying46) (P7 130 128 2 3 9 11 19 rfl rfl rfl rfl rfl rfl rfl) fun _ H3 => ?_
   refine h_o H3 rfl (R_bin H3 rfl rfl rfl (B_to (y := false) (B_lt Tryz.underlying3 _ _) (decide_eq_false (by omega)))) (P6 131 2 3 9 11 19 rfl rfl rfl rfl rfl rfl) fun _ H4 => ?_
   refine h_end ?_
   repeat (go_not_at_region 33; go_step)
   refine wp_cond_false (H4.ev (x := .tmp 131) rfl) ?_
   have hown := rightT_len hI.rt
   have hlen := hI.len
   repeat (go_not_at_region 33; go_step)
   refine wp_region_held_drew (S := fun w' => HasB g11 (rfC S vo vL) 55 w') (by kernel_rfl) ((OneK.mem hL.drew (by simp) : HasB g11 (rfC S vo vL) 55 _)) (fun _ => ?_)
   replace hL := hL.drew
   refine a_opZ 0 H4 rfl rfl (by kernel_rfl) (wn rfl) (fun w hL => R_mv H4 rfl rfl) ((OneK.mem hL (by simp) : HasB g11 (rfC S vo vL) 55 _)) rfl (P2 264 11 rfl rfl) fun _ H5 => ?_
   refine a_opZ 2 H5 rfl rfl (by kernel_rfl) (wn rfl) (fun w hL => R_ld H5 rfl rfl (ld_rf (S := S) hL)) ((OneK.mem hL (by simp) : HasB g11 (rfC S vo vL) 55 _)) rfl (P2 266 264 rfl rfl) fun _ H6 => ?_
   refine a_all1 1 (by kernel_rfl) ?_
   refine o_call 1 H6 rfl rfl (wn rfl) (R_call1 H6 rfl rfl (fun w => by simp [go_sem])) rfl ?_
   refine (k1_tick hL (by omega) (by omega) hI.ok hI.src0 (by have := hI.src1; omega)).mono ?_
   rintro e w7 ⟨vb, Xa, rfl, hpa, hL2⟩
   replace hL := hL2
   clear hL2
   refine ⟨_, rfl, fun a7 HH => ?_⟩
   have H7 := HH _ (P2 265 266 rfl rfl)
   refine ⟨(OneK.mem hL (by simp) : HasB g11 (rfC S vo vL) 55 _), ?_⟩
   refine a_all1 3 (by kernel_rfl) ?_
   refine o_call 3 H7 rfl rfl (wn rfl) (R_call1 H7 rfl rfl (fun w => by simp [go_sem])) rfl ?_
   have hLr := OneK.dropl (X := Xa) hL
   refine (rtick_any hI (by omega) (hvo _ hL.below) (hLr.rdc (S' := S) hp) (by omega)).mono ?_
   rintro e w8 ⟨vc, Xb, rfl, hpb, hY⟩
   clear hLr
   replace hL : OneK W p oa aa S (Xb ++ _) _ := hL.addl fun R h => h.joinV hY
   clear hY
   refine ⟨_, rfl, fun a8 HH => ?_⟩
   have H8 := HH _ (P2 267 265 rfl rfl)
   refine ⟨(OneK.mem hL (by simp) : HasB g11 (rfC S vo vL) 55 _), ?_⟩
   refine a_all1 4 (by kernel_rfl) ?_
   refine o_call 4 H8 rfl rfl (wn rfl) (R_call2 H8 rfl rfl rfl (fun w => by simp [go_sem])) rfl ?_
   refine (k1_packets hpa hpb hL (pkts_few hI (by omega))).mono ?_
   rintro e w9 ⟨rfl, hL2⟩
   replace hL := hL2
   clear hL2 hpa hpb
   refine ⟨_, rfl, fun a9 HH => ?_⟩
   have H9 := HH _ (P1 268 rfl)
   refine ⟨(OneK.mem hL (by simp) : HasB g11 (rfC S vo vL) 55 _), ?_⟩
   refine a_opZ 5 H9 rfl rfl (by kernel_rfl) (wn rfl) (fun w hL => R_as H9 rfl rfl) ((OneK.mem hL (by simp) : HasB g11 (rfC S vo vL) 55 _)) rfl (P1 8 rfl) fun _ H10 => ?_
   refine wpAnyH_done (by kernel_rfl) ?_ _
   repeat (go_not_at_region 999; go_step)
   exact H10.ret1 rfl rfl ⟨rfl, hL.below⟩
end
end Go.Proofs.YthkeiclhllikjaaGreat
