/-
  store.Take.
-/
import Derived.Test.YtnjfjdfjheiocaaGreatShJ
set_option linter.unusedSimpArgs false
set_option linter.unusedVariables false
namespace Go.Proofs.YtnjfjdfjheiocaaGreat
open Go.RowKit
section
variable {w : World} {a : Addr}
theorem ld_rowA {t : TypeId} {d : TypeDesc} {cs : Array Value} (hc : ∀ (k : Nat) u, cs[k]? = some u → w.cell? (a.add k) = some u) (hu : Tryz.prog.underlying t = some d) (hd : d.isRow = true) (hi : (Tryz.prog.info? t).map (·.size) = some cs.size) : (Instr.loadAt t (.pointer (some a))).run Tryz.prog w = .ok (.agg cs) w := by
  have hl : (loadCells a cs.size).run Tryz.prog w = .ok cs w :=
    run_loadCells_list (P := Tryz.prog) w a cs.toList (fun j v hv => hc j v (by simpa using hv))
  cases hq : Tryz.prog.info? t with
  | none => simp [hq] at hi
  | some i =>
    have hs : i.size = cs.size := by simpa [hq] using hi
    have hagg : (isAgg t).run Tryz.prog w = .ok true w := by
      unfold isAgg
      rw [Sem.run_bind, run_underlying hu w]
      cases d <;> simp_all
    have h2 : (loadVar t a).run Tryz.prog w = .ok (.agg cs) w := by
      simp [loadVar, Sem.run_bind, hagg, sizeOf, typeInfo, hq, hs, hl]
    simp only [Instr.loadAt, Instr.sureAddr, Sem.run_bind, Sem.run_pure, Result.andThen_ok, h2]
end
section
variable {P : Program} {ops : Array Oper} {Q : Exit → Act → World → Prop} {o : Oper} {a : Act} {w w' w0 : World} {n : Nat} {v : Value} {m : List (Nat × Value)}
theorem o_noS {K : Act → World → Prop} (L' : List Thg) (i : Nat) (H : Fr a n m) (hi : ops[i]? = some o) (hd : o.dst = none) (hg : Region.wanted o (yielded ops a.tmps) = true) (hr : (execOp a.eval o).run P w = .ok (.value v) w')
    (hL : LV w0 L' w') (k : ∀ a' w', Fr a' n m → LV w0 L' w' → K a' w') : wpOp P ops Q i K a w := by
  unfold wpOp
  simp only [hi, hg, if_true]
  refine .inl ?_
  unfold Oper.wp
  rw [hr]
  simp only [Oper.upon, hd]
  exact k _ _ H hL
end
section
variable {w0 w : World} {X R : List Thg} {a c d e : Thg}
theorem LV.fr4 (h : LV w0 (a :: c :: d :: e :: (X ++ R)) w) : LV w0 (X ++ (a :: c :: d :: e :: R)) w := h.perm (List.perm_append_comm_assoc [a, c, d, e] X R)
theorem LV.bk4 (h : LV w0 (X ++ (a :: c :: d :: e :: R)) w) : LV w0 (a :: c :: d :: e :: (X ++ R)) w := h.perm (List.perm_append_comm_assoc X [a, c, d, e] R)
end
section
variable {w0 W W' w : World} {L R X : List Thg} {M Z : Wins} {b ps g : Nat} {v : Value} {mark : Int} {p : Win × A8}
/-- The windows that are over, and the others. -/
def overP (mark : Int) (p : Win × A8) : Bool := overI p.1.1 mark
def takeM (M : Wins) (mark : Int) : Wins × Wins := (M.filter (overP mark), M.filter fun p => !overP mark p)
def leftM (M : Wins) (mark : Int) (j : Nat) : Wins := ((M.take j).filter fun p => !overP mark p) ++ M.drop j
theorem leftM_end : leftM M mark M.length = (takeM M mark).2 := by
  unfold leftM takeM
  rw [List.take_length, List.drop_length, List.append_nil]
theorem take_atW {j : Nat} (hj : j < M.length) : M.take (j + 1) = M.take j ++ [M[j]] := List.take_succ_eq_append_getElem hj
theorem leftM_keep {j : Nat} (hj : j < M.length) (h : overP mark M[j] = false) : leftM M mark (j + 1) = leftM M mark j := by
  unfold leftM
  rw [take_atW hj, List.filter_append, List.drop_eq_getElem_cons hj]
  simp [h]
theorem leftM_del {j : Nat} (hM : Rise M) (hj : j < M.length) (h : overP mark M[j] = true) : delW (leftM M mark j) (M[j]).1 = leftM M mark (j + 1) := by
  have e : M = M.take j ++ M[j] :: M.drop (j + 1) := by rw [← List.drop_eq_getElem_cons hj, List.take_append_drop]
  have h1 : Rise (M.take j ++ M[j] :: M.drop (j + 1)) := e ▸ hM
  obtain ⟨h2, h3, h4⟩ := List.pairwise_append.1 h1
  obtain ⟨h5, h6⟩ := List.pairwise_cons.1 h3
  unfold leftM delW
  rw [take_atW hj, List.filter_append, List.drop_eq_getElem_cons hj, List.filter_append, List.filter_cons, if_neg (by simp)]
  congr 1
  · have h7 : ([M[j]].filter fun p => !overP mark p) = [] := by simp [h]
    rw [h7, List.append_nil]
    refine List.filter_eq_self.2 fun q hq => decide_eq_true fun e2 => ?_
    have h8 := h4 q (List.mem_filter.1 hq).1 M[j] List.mem_cons_self
    rw [e2, winLt_irrefl] at h8
    cases h8
  · refine List.filter_eq_self.2 fun q hq => decide_eq_true fun e2 => ?_
    have h8 := h5 q hq
    rw [e2, winLt_irrefl] at h8
    cases h8
theorem outs_over {j : Nat} (hj : j < M.length) (h : overP mark M[j] = true) : (M.take (j + 1)).filter (overP mark) = (M.take j).filter (overP mark) ++ [M[j]] := by
  rw [take_atW hj, List.filter_append]
  simp [h]
theorem outs_not {j : Nat} (hj : j < M.length) (h : overP mark M[j] = false) : (M.take (j + 1)).filter (overP mark) = (M.take j).filter (overP mark) := by
  rw [take_atW hj, List.filter_append]
  simp [h]
theorem outF_cell {j k : Nat} (hj : j < M.length) (hk : k < 10) : (outF M)[j * 10 + k]? = (outE M[j])[k]? := by
  rw [outF_get]
  have e1 : (j * 10 + k) / 10 = j := by omega
  have e2 : (j * 10 + k) % 10 = k := by omega
  rw [e1, e2, List.getElem?_eq_getElem hj]
  rfl
/-- Such a row is read. -/
theorem prow_out (h : PRow 57 10 v M.length (outF M) X) : ∃ q c, v = .slice q M.length c ∧ ∀ (w0 : World) (L : List Thg) (w : World), LV w0 (X ++ L) w → ∀ j (hj : j < M.length), ∃ ad, q = some ad ∧ ∀ (k : Nat) u, (outA M[j])[k]? = some u → w.cell? ((ad.add (j * 10)).add k) = some u := by
  rcases h.2 with ⟨rfl, h0, rfl⟩ | ⟨g, cap, cur, rfl, rfl, h1, h2, h3, h4⟩
  · exact ⟨none, 0, by rw [h0], fun w0 L w _ j hj => by omega⟩
  · refine ⟨_, _, rfl, fun w0 L w hL j hj => ⟨_, rfl, fun k u hu => ?_⟩⟩
    have hL' : LV w0 (bk g cur 57 :: L) w := hL
    have hk : k < 10 := (Array.getElem?_eq_some_iff.1 hu).1
    have h5 := outF_cell hj hk
    rw [← h4, List.getElem?_take, if_pos (by omega), Array.getElem?_toList] at h5
    have e : ((⟨g, 0, none⟩ : Addr).add (j * 10)).add k = ⟨g, j * 10 + k, none⟩ := by
      unfold Addr.add
      by_cases hi0 : j * 10 = 0 <;> by_cases hk0 : k = 0 <;> simp [hi0, hk0]
    rw [e, hL'.cell, h5]
    simpa using hu
theorem ix_out {q : Option Addr} {a : Addr} {n c j : Nat} (e : q = some a) (h : j < n) : (Instr.indexAt 27 (.slice q n c) (.int .i64 (j : Nat))).run Tryz.prog w = .ok (.pointer (some (a.add (j * 10)))) w := by
  subst e
  simp [go_sem, h]
theorem infoOut1 : (Tryz.prog.info? 57).map (·.size) = some 10 := by kernel_rfl
theorem ld_outA {a : Addr} (h : ∀ (k : Nat) u, (outA p)[k]? = some u → w.cell? (a.add k) = some u) : (Instr.loadAt 57 (.pointer (some a))).run Tryz.prog w = .ok (.agg (outA p)) w :=
  ld_rowA h Tryz.underlying57 rfl infoOut1
theorem ld_outB (h : w.heap[g]? = some (.cells (outA p) 57 (0, 0))) : (Instr.loadAt 57 (.pointer (some ⟨g, 0, none⟩))).run Tryz.prog w = .ok (.agg (outA p)) w := by
  simp only [Instr.loadAt, Instr.sureAddr, Sem.run_bind, Sem.run_pure, Result.andThen_ok, run_loadVar_row w g 57 57 _ (0, 0) _ h Tryz.underlying57 rfl infoOut1]
abbrev outZ : Win × A8 := ((0, .empty), A8.zero)
theorem al_out : (Instr.alloc 57 true (.tuple #[])).run Tryz.prog w = .ok (.pointer (some ⟨w.heap.size, 0, none⟩)) (w.alloc (.cells (outA outZ) 57)) := by
  simp [go_sem]
  rfl
theorem out_one (p : Win × A8) : (outA p).all (·.oneCell') = true := by
  unfold outA outE
  simp only [List.all_toArray, List.all_cons, List.all_nil, Bool.and_true]
  rfl
theorem st_out {p' : Win × A8} (h : w.heap[g]? = some (.cells (outA p') 57 (0, 0))) : (Instr.storeAt 57 (.pointer (some ⟨g, 0, none⟩)) (.agg (outA p))).run Tryz.prog w = .ok () (w.setRow g (outA p)) := by
  simp only [Instr.storeAt, Instr.sureAddr, Sem.run_bind, Sem.run_pure, Result.andThen_ok, run_storeVar_row w g 57 57 _ (outA p) h infoOut1 rfl (out_one p)]
set_option maxRecDepth 100000 in
theorem take_any (hL : LV w0 (bk ps (stC b) 151 :: mw b M :: L) W) (hn : M.length < 100000) : Calls Tryz.prog 92 #[.pointer (some ⟨ps, 0, none⟩), .int .i64 mark] W fun e W' => ∃ v X, e = .returned v ∧ PRow 57 10 v (takeM M mark).1.length (outF (takeM M mark).1) X ∧ LV w0 (X ++ (bk ps (stC b) 151 :: mw b (takeM M mark).2 :: L)) W' := by
  obtain ⟨i0, hi, hz0, hz1, hz2⟩ := info_parts infoOut
  have hM : Rise M := (hL.tail.mem_win (M := M) List.mem_cons_self).rise
  have hK : ∀ p ∈ M, KOk p.1 := (hL.tail.mem_win (M := M) List.mem_cons_self).kok
  go_enter Tryz.func92, Tryz.ntmps92
  refine wp_fr (n := 34) (m := [(0, _), (1, _)]) ⟨rfl, rfl, by intro p hp; simp only [List.mem_cons, List.not_mem_nil, or_false] at hp; rcases hp with rfl | rfl <;> rfl⟩ fun a0 H0 => ?_
  repeat (go_not_at_region 0; go_step)
  refine wp_region_lit ?_
  refine h_op H0 rfl (wn rfl) (R_as H0 rfl rfl) rfl (P2 0 1 rfl rfl) fun a1 H1 => ?_
  clear H0
  refine h_end ?_
  repeat (go_not_at_region 1; go_step)
  refine wp_region_lit ?_
  refine h_op H1 rfl (wn rfl) (R_as H1 rfl rfl) rfl (P3 5 0 1 rfl rfl rfl) fun a2 H2 => ?_
  clear H1
  refine h_end ?_
  repeat (go_not_at_region 2; go_step)
  refine wp_region_lit ?_
  refine h_op H2 rfl (wn rfl) (R_mv H2 rfl rfl) rfl (P4 8 5 0 1 rfl rfl rfl rfl) fun a3 H3 => ?_
  clear H2
  refine h_call H3 rfl (wn rfl) (R_call1 H3 rfl rfl (fun w => by simp [go_sem])) rfl ?_
  refine (all_any hL hn).mono ?_
  rintro e w4 ⟨va, XA, rfl, hrA, hL2⟩
  clear hL
  have hL := hL2.bk2
  clear hL2
  obtain ⟨qa, ca, rfl, hcell⟩ := prow_out hrA
  refine ⟨_, rfl, fun a4 HH => ?_⟩
  have H4 := HH _ (P4 9 5 0 1 rfl rfl rfl rfl)
  clear HH H3
  refine h_op H4 rfl (wn rfl) (R_lenS H4 rfl rfl Tryz.underlying27) rfl (P5 10 9 5 0 1 rfl rfl rfl rfl rfl) fun a5 H5 => ?_
  clear H4
  refine h_op H5 rfl (wn rfl) (R_mv H5 rfl rfl) rfl (P6 11 10 9 5 0 1 rfl rfl rfl rfl rfl rfl) fun a6 H6 => ?_
  clear H5
  refine h_end ?_
  obtain ⟨LK, hLK⟩ : ∃ LK, LK = XA ++ L := ⟨_, rfl⟩
  have hcel : ∀ w, LV w0 LK w → ∀ j (hj : j < M.length), ∃ ad, qa = some ad ∧ ∀ (k : Nat) u, (outA M[j])[k]? = some u → w.cell? ((ad.add (j * 10)).add k) = some u := fun w h => hcell w0 L w (hLK ▸ h)
  have hLd : ∀ w X, LV w0 (X ++ LK) w → LV w0 (X ++ L) w := fun w X h => by
    rw [hLK] at h
    exact (h.perm (List.perm_append_comm_assoc X XA L)).dropl
  rw [← hLK] at hL
  clear hcell hrA hLK
  repeat (go_not_at_region 3; go_step)
  obtain ⟨I, hI⟩ : ∃ I : Nat → Act → World → Prop, ∀ n a' w', I n a' w' ↔ ∃ (j : Nat) (vl : Value) (X : List Thg), n = M.length - j ∧ j ≤ M.length ∧ Fr a' 34 [(0, .pointer (some ⟨ps, 0, none⟩)), (1, .int .i64 mark), (5, vl), (9, .slice qa M.length ca), (10, .int .i64 (M.length : Nat)), (11, .int .i64 (j : Nat))] ∧ PRow 57 10 vl ((M.take j).filter (overP mark)).length (outF ((M.take j).filter (overP mark))) X ∧ LV w0 (bk ps (stC b) 151 :: mw b (leftM M mark j) :: (X ++ LK)) w' := ⟨_, fun _ _ _ => Iff.rfl⟩
  have HI := Lib.hid hI
  clear hI
  refine wp_loop_ghost I M.length ((HI.out _ _ _).2 ⟨0, _, [], rfl, Nat.zero_le _, H6.pick _ (P6 0 1 5 9 10 11 rfl rfl rfl rfl rfl rfl), PRow.nil, hL⟩) ?_
  clear hL H6
  intro n a1 wl hi'
  obtain ⟨j, vl, X, rfl, hj, H0, hr, hL⟩ := (HI.out _ _ _).1 hi'
  clear hi'
  by_cases hjl : j < M.length
  · repeat (go_not_at_region 3; go_step)
    refine wp_region_lit ?_
    refine h_op H0 rfl (wn rfl) (R_bin H0 rfl rfl rfl (B_to (y := true) (B_lt Tryz.underlying3 _ _) (decide_eq_true (by omega)))) rfl (P7 12 0 1 5 9 10 11 rfl rfl rfl rfl rfl rfl rfl) fun a1 H1 => ?_
    clear H0
    refine h_end ?_
    repeat (go_not_at_region 4; go_step)
    refine wp_cond_true (H1.ev (x := .tmp 12) rfl) ?_
    obtain ⟨ad, hqa, hcj⟩ := hcel wl hL.tail.tail.dropl j hjl
    obtain ⟨p, hp⟩ : ∃ p, p = M[j] := ⟨_, rfl⟩
    rw [← hp] at hcj
    have hpl : ((M.take j).filter (overP mark)).length ≤ j := by
      refine Nat.le_trans (List.length_filter_le _ _) ?_
      rw [List.length_take]
      omega
    repeat (go_not_at_region 4; go_step)
    refine wp_region_lit ?_
    refine h_op H1 rfl (wn rfl) (R_ixa H1 rfl rfl rfl (ix_out hqa hjl)) rfl (P7 13 0 1 5 9 10 11 rfl rfl rfl rfl rfl rfl rfl) fun a2 H2 => ?_
    clear H1
    refine h_op H2 rfl (wn rfl) (R_ld H2 rfl rfl (ld_outA hcj)) rfl (P7 14 0 1 5 9 10 11 rfl rfl rfl rfl rfl rfl rfl) fun a3 H3 => ?_
    clear H2
    refine h_opS (bk wl.heap.size (outA outZ) 57 :: (bk ps (stC b) 151 :: mw b (leftM M mark j) :: (X ++ LK))) H3 rfl (wn rfl) (R_alloc rfl al_out) (hL.alloc _ _) rfl (P8 7 14 0 1 5 9 10 11 rfl rfl rfl rfl rfl rfl rfl rfl) fun a4 w4 H4 hL' => ?_
    replace hL := hL'
    clear H3 hL'
    refine h_stS (bk wl.heap.size (outA p) 57 :: (bk ps (stC b) 151 :: mw b (leftM M mark j) :: (X ++ LK))) H4 rfl (wn rfl) (R_st H4 rfl rfl rfl (st_out (p' := outZ) (p := p) hL.at_)) (hL.row _) fun a5 w5 H5 hL' => ?_
    replace hL := hL'
    clear H4 hL'
    refine h_end ?_
    obtain ⟨g7, hg7⟩ : ∃ g, g = wl.heap.size := ⟨_, rfl⟩
    rw [← hg7] at H5 hL
    clear hg7
    repeat (go_not_at_region 5; go_step)
    refine wp_region_lit ?_
    refine h_op H5 rfl (wn rfl) (R_fa H5 rfl rfl fa_o1) rfl (P8 15 7 0 1 5 9 10 11 rfl rfl rfl rfl rfl rfl rfl rfl) fun a6 H6 => ?_
    clear H5
    refine h_op H6 rfl (wn rfl) (R_ld H6 rfl rfl (ld_lon (hL.cell 1))) rfl (P8 16 7 0 1 5 9 10 11 rfl rfl rfl rfl rfl rfl rfl rfl) fun a7 H7 => ?_
    clear H6
    refine h_op H7 rfl (wn rfl) (R_mv H7 rfl rfl) rfl (P9 17 16 7 0 1 5 9 10 11 rfl rfl rfl rfl rfl rfl rfl rfl rfl) fun a8 H8 => ?_
    clear H7
    refine h_call H8 rfl (wn rfl) (R_call2 H8 rfl rfl rfl (fun w => by simp [go_sem])) rfl ?_
    refine (overI_any p.1.1 mark _).mono ?_
    rintro e w9 ⟨rfl, hw⟩
    replace hL := hL.eqw hw
    clear hw
    refine ⟨_, rfl, fun a9 HH => ?_⟩
    have H9 := HH _ (P8 18 7 0 1 5 9 10 11 rfl rfl rfl rfl rfl rfl rfl rfl)
    clear HH H8
    refine h_end ?_
    obtain ⟨ov, hov⟩ : ∃ o, o = overI p.1.1 mark := ⟨_, rfl⟩
    rw [← hov] at H9
    have hov2 : overP mark M[j] = ov := by rw [hov, ← hp]; rfl
    clear hov
    cases ov
    · repeat (go_not_at_region 8; go_step)
      refine wp_cond_false (H9.ev (x := .tmp 18) rfl) ?_
      have e1 := outs_not hjl hov2
      have e2 := leftM_keep hjl hov2
      repeat (go_not_at_region 8; go_step)
      refine wp_region_lit ?_
      refine h_op H9 rfl (wn rfl) (R_bin H9 rfl rfl rfl (B_add Tryz.underlying3 _ _ (by omega) (by omega))) rfl (P7 32 0 1 5 9 10 11 rfl rfl rfl rfl rfl rfl rfl) fun a10 H10 => ?_
      clear H9
      refine h_op H10 rfl (wn rfl) (R_mv H10 rfl rfl) rfl (P6 11 0 1 5 9 10 rfl rfl rfl rfl rfl rfl) fun a11 H11 => ?_
      clear H10
      refine h_end ?_
      exact ⟨M.length - (j + 1), by omega, (HI.out _ _ _).2 ⟨j + 1, _, _, rfl, by omega, H11.pick _ (P6 0 1 5 9 10 11 rfl rfl rfl rfl rfl rfl), by rw [e1]; exact hr, by rw [e2]; exact hL.tail⟩⟩
    · repeat (go_not_at_region 6; go_step)
      refine wp_cond_true (H9.ev (x := .tmp 18) rfl) ?_
      repeat (go_not_at_region 6; go_step)
      refine wp_region_lit ?_
      refine h_op H9 rfl (wn rfl) (R_mv H9 rfl rfl) rfl (P8 19 7 0 1 5 9 10 11 rfl rfl rfl rfl rfl rfl rfl rfl) fun a10 H10 => ?_
      clear H9
      refine h_op H10 rfl (wn rfl) (R_ld H10 rfl rfl (ld_outB hL.at_)) rfl (P9 20 19 7 0 1 5 9 10 11 rfl rfl rfl rfl rfl rfl rfl rfl rfl) fun a11 H11 => ?_
      clear H10
      refine h_opS (bk w9.heap.size (outA p) 57 :: bk g7 (outA p) 57 :: (bk ps (stC b) 151 :: mw b (leftM M mark j) :: (X ++ LK))) H11 rfl (wn rfl) (R_bs1 H11 rfl rfl bs_out) (hL.alloc _ _) rfl (P9 21 19 7 0 1 5 9 10 11 rfl rfl rfl rfl rfl rfl rfl rfl rfl) fun a12 w12 H12 hL' => ?_
      replace hL := hL'
      clear H11 hL'
      obtain ⟨v2, W2, X2, hrun2, hr2, hL2⟩ := app_run (cn := 1) (m := 1) hr hL.fr4 List.mem_cons_self rfl Tryz.underlying27 hi hz0 hz1 hz2 rfl (by decide) rfl (outE_one p) (by omega) (by decide) 27
      refine h_opS (X2 ++ (bk w9.heap.size (outA p) 57 :: bk g7 (outA p) 57 :: bk ps (stC b) 151 :: mw b (leftM M mark j) :: LK)) H12 rfl (wn rfl) (R_app H12 rfl rfl rfl hrun2) (hL2) rfl (P8 22 7 0 1 5 9 10 11 rfl rfl rfl rfl rfl rfl rfl rfl) fun a13 w13 H13 hL' => ?_
      replace hL := hL'
      clear H12 hL'
      refine h_op H13 rfl (wn rfl) (R_as H13 rfl rfl) rfl (P7 5 7 0 1 9 10 11 rfl rfl rfl rfl rfl rfl rfl) fun a14 H14 => ?_
      clear H13
      refine h_end ?_
      replace hL := hL.bk4.tail
      repeat (go_not_at_region 7; go_step)
      refine wp_region_held_drew (S := fun w' => Thg.ok w' (bk g7 (outA p) 57) ∧ Thg.ok w' (bk ps (stC b) 151)) (by kernel_rfl) ((⟨LV.has hL.drew (by simp), LV.has hL.drew (by simp)⟩ : Thg.ok _ (bk g7 (outA p) 57) ∧ Thg.ok _ (bk ps (stC b) 151))) (fun _ => ?_)
      replace hL := hL.drew
      refine a_op 0 H14 rfl rfl (by kernel_rfl) (by kernel_rfl) (by kernel_rfl) (fun _ _ _ h => h) (wn rfl) (fun w hL => R_mv H14 rfl rfl) ((⟨LV.has hL (by simp), LV.has hL (by simp)⟩ : Thg.ok _ (bk g7 (outA p) 57) ∧ Thg.ok _ (bk ps (stC b) 151))) rfl (P8 23 5 7 0 1 9 10 11 rfl rfl rfl rfl rfl rfl rfl rfl) fun a15 H15 => ?_
      clear H14
      refine a_op 4 H15 rfl rfl (by kernel_rfl) (by kernel_rfl) (by kernel_rfl) (fun _ _ _ h => h) (wn rfl) (fun w hL => R_fa H15 rfl rfl fa_o1) ((⟨LV.has hL (by simp), LV.has hL (by simp)⟩ : Thg.ok _ (bk g7 (outA p) 57) ∧ Thg.ok _ (bk ps (stC b) 151))) rfl (P9 27 23 5 7 0 1 9 10 11 rfl rfl rfl rfl rfl rfl rfl rfl rfl) fun a16 H16 => ?_
      clear H15
      refine a_op 6 H16 rfl rfl (by kernel_rfl) (by kernel_rfl) (by kernel_rfl) (fun _ _ _ h => h) (wn rfl) (fun w hL => R_fa H16 rfl rfl fa_o0) ((⟨LV.has hL (by simp), LV.has hL (by simp)⟩ : Thg.ok _ (bk g7 (outA p) 57) ∧ Thg.ok _ (bk ps (stC b) 151))) rfl (P9 29 27 23 5 0 1 9 10 11 rfl rfl rfl rfl rfl rfl rfl rfl rfl) fun a17 H17 => ?_
      clear H16
      refine a_op 1 H17 rfl rfl (by kernel_rfl) (by kernel_rfl) (by kernel_rfl) (fun _ _ _ h => h) (wn rfl) (fun w hL => R_nc H17 rfl rfl) ((⟨LV.has hL (by simp), LV.has hL (by simp)⟩ : Thg.ok _ (bk g7 (outA p) 57) ∧ Thg.ok _ (bk ps (stC b) 151))) rfl (P9 24 29 27 5 0 1 9 10 11 rfl rfl rfl rfl rfl rfl rfl rfl rfl) fun a18 H18 => ?_
      clear H17
      refine a_op 5 H18 rfl rfl (by kernel_rfl) (by kernel_rfl) (by kernel_rfl) (fun _ _ _ h => h) (wn rfl) (fun w hL => R_ld H18 rfl rfl (ld_lon (okc hL.1 1))) ((⟨LV.has hL (by simp), LV.has hL (by simp)⟩ : Thg.ok _ (bk g7 (outA p) 57) ∧ Thg.ok _ (bk ps (stC b) 151))) rfl (P9 28 24 29 5 0 1 9 10 11 rfl rfl rfl rfl rfl rfl rfl rfl rfl) fun a19 H19 => ?_
      clear H18
      refine a_op 7 H19 rfl rfl (by kernel_rfl) (by kernel_rfl) (by kernel_rfl) (fun _ _ _ h => h) (wn rfl) (fun w hL => R_ld H19 rfl rfl (ld_txt (okc hL.1 0))) ((⟨LV.has hL (by simp), LV.has hL (by simp)⟩ : Thg.ok _ (bk g7 (outA p) 57) ∧ Thg.ok _ (bk ps (stC b) 151))) rfl (P9 30 28 24 5 0 1 9 10 11 rfl rfl rfl rfl rfl rfl rfl rfl rfl) fun a20 H20 => ?_
      clear H19
      refine a_op 2 H20 rfl rfl (by kernel_rfl) (by kernel_rfl) (by kernel_rfl) (fun _ _ _ h => h) (wn rfl) (fun w hL => R_fa H20 rfl rfl fa_st0) ((⟨LV.has hL (by simp), LV.has hL (by simp)⟩ : Thg.ok _ (bk g7 (outA p) 57) ∧ Thg.ok _ (bk ps (stC b) 151))) rfl (P9 25 30 28 5 0 1 9 10 11 rfl rfl rfl rfl rfl rfl rfl rfl rfl) fun a21 H21 => ?_
      clear H20
      refine a_op 8 H21 rfl rfl (by kernel_rfl) (by kernel_rfl) (by kernel_rfl) (fun _ _ _ h => h) (wn rfl) (fun w hL => R_bd2 H21 rfl rfl rfl bd_win) ((⟨LV.has hL (by simp), LV.has hL (by simp)⟩ : Thg.ok _ (bk g7 (outA p) 57) ∧ Thg.ok _ (bk ps (stC b) 151))) rfl (P8 31 25 5 0 1 9 10 11 rfl rfl rfl rfl rfl rfl rfl rfl) fun a22 H22 => ?_
      clear H21
      refine a_op 3 H22 rfl rfl (by kernel_rfl) (by kernel_rfl) (by kernel_rfl) (fun _ _ _ h => h) (wn rfl) (fun w hL => R_ld H22 rfl rfl (ld_mpw (okc hL.2 0))) ((⟨LV.has hL (by simp), LV.has hL (by simp)⟩ : Thg.ok _ (bk g7 (outA p) 57) ∧ Thg.ok _ (bk ps (stC b) 151))) rfl (P8 26 31 5 0 1 9 10 11 rfl rfl rfl rfl rfl rfl rfl rfl) fun a23 H23 => ?_
      clear H22
      refine a_all1 9 (by kernel_rfl) ?_
      obtain ⟨Wn, hrun, hLn⟩ := dropW_run (hK p (hp ▸ List.getElem_mem hjl)) 0 hL.third
      rw [hp, leftM_del hM hjl hov2, ← hp] at hLn
      replace hLn := hLn.back3
      refine o_noS (bk g7 (outA p) 57 :: bk ps (stC b) 151 :: mw b (leftM M mark (j + 1)) :: (X2 ++ LK)) 9 H23 rfl rfl (wn rfl) (R_dl H23 rfl rfl rfl hrun) (hLn) fun a24 w24 H24 hL' => ⟨(⟨LV.has hL' (by simp), LV.has hL' (by simp)⟩ : Thg.ok _ (bk g7 (outA p) 57) ∧ Thg.ok _ (bk ps (stC b) 151)), ?_⟩
      replace hL := hL'
      clear H23 hL'
      refine wpAnyH_done (by kernel_rfl) ?_ _
      have hr3 := hr2
      rw [← outF_app] at hr3
      have e1 := outs_over hjl hov2
      rw [← hp] at e1
      repeat (go_not_at_region 8; go_step)
      refine wp_region_lit ?_
      refine h_op H24 rfl (wn rfl) (R_bin H24 rfl rfl rfl (B_add Tryz.underlying3 _ _ (by omega) (by omega))) rfl (P7 32 0 1 5 9 10 11 rfl rfl rfl rfl rfl rfl rfl) fun a25 H25 => ?_
      clear H24
      refine h_op H25 rfl (wn rfl) (R_mv H25 rfl rfl) rfl (P6 11 0 1 5 9 10 rfl rfl rfl rfl rfl rfl) fun a26 H26 => ?_
      clear H25
      refine h_end ?_
      exact ⟨M.length - (j + 1), by omega, (HI.out _ _ _).2 ⟨j + 1, _, _, rfl, by omega, H26.pick _ (P6 0 1 5 9 10 11 rfl rfl rfl rfl rfl rfl), by rw [e1, List.length_append]; exact hr3, hL.tail⟩⟩
  · repeat (go_not_at_region 3; go_step)
    refine wp_region_lit ?_
    refine h_op H0 rfl (wn rfl) (R_bin H0 rfl rfl rfl (B_to (y := false) (B_lt Tryz.underlying3 _ _) (decide_eq_false (by omega)))) rfl (P7 12 0 1 5 9 10 11 rfl rfl rfl rfl rfl rfl rfl) fun a1 H1 => ?_
    clear H0
    refine h_end ?_
    repeat (go_not_at_region 9; go_step)
    refine wp_cond_false (H1.ev (x := .tmp 12) rfl) ?_
    have ej : j = M.length := by omega
    subst ej
    rw [leftM_end] at hL
    rw [List.take_length] at hr
    repeat (go_not_at_region 9; go_step)
    refine wp_region_lit ?_
    refine h_op H1 rfl (wn rfl) (R_mv H1 rfl rfl) rfl (P1 33 rfl) fun a2 H2 => ?_
    clear H1
    refine h_op H2 rfl (wn rfl) (R_as H2 rfl rfl) rfl (P1 4 rfl) fun a3 H3 => ?_
    clear H2
    refine h_end ?_
    repeat (go_not_at_region 999; go_step)
    exact H3.ret1 rfl rfl ⟨_, X, rfl, hr, (hLd _ (_ :: _ :: X) hL).fr2⟩
end
end Go.Proofs.YtnjfjdfjheiocaaGreat
