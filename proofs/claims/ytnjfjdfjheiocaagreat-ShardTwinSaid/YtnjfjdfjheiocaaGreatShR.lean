/-
  slices.Clone of the lows; seen.Lows.
-/
import Derived.Test.YtnjfjdfjheiocaaGreatShQ
import Derived.Lib.SliceRun
set_option linter.unusedSimpArgs false
set_option linter.unusedVariables false
namespace Go.Proofs.YtnjfjdfjheiocaaGreat
open Go.RowKit
section
variable {P : Program} {o : Oper} {a : Act} {w w' : World} {n : Nat} {m : List (Nat × Value)} {v : Value}
theorem R_bs0 {t : TypeId} {k : Nat} (ho : o.op = .buildSlice t k #[]) (hl : (Instr.buildSlice t k #[]).run P w = .ok v w') : (execOp a.eval o).run P w = .ok (.value v) w' := by
  unfold execOp
  rw [ho]
  generalize a.eval = ρ at *
  exact fr_v (by simpa using hl)
theorem R_sl0 {t : TypeId} {x : Operand} {vx : Value} (H : Fr a n m) (ho : o.op = .slice t x none none none) (hx : ev1 m x = some vx) (hl : (Instr.sliceAt t vx none none none).run P w = .ok v w) : (execOp a.eval o).run P w = .ok (.value v) w := by
  have e1 := H.ev hx
  unfold execOp
  rw [ho]
  generalize a.eval = ρ at *
  simp only [Option.map_none, e1]
  exact fr_v hl
end
section
variable {w0 W W' w : World} {L X : List Thg} {e t : TypeId} {size n m bytes : Nat} {v : Value} {xs news : List Value}
/-- append to such a slice. -/
theorem app_cells {gn cn : Nat} {i : TypeInfo} {z : Value} (hr : PRow e size v n xs X) (hL : LV w0 (X ++ L) W) (hcell : ∀ j u, news[j]? = some u → W.cell? ((⟨gn, 0, none⟩ : Addr).add j) = some u) (ht : Tryz.prog.underlying t = some (.slice e)) (hi : Tryz.prog.info? e = some i) (hz : i.zero = some z) (hsize : i.size = size) (hby : i.bytes = bytes) (hzs : z.cells.size = size) (hsz : 0 < size)
    (hl : news.length = m * size) (h1 : ∀ u ∈ news, u.oneCell' = true) (h63 : n + m ≤ 1000000) (hb2 : bytes ≤ 1000) (ty : TypeId) : ∃ v' W' X', (Builtin.append_ #[t, t] ty #[v, .slice (some ⟨gn, 0, none⟩) m cn]).run Tryz.prog W = .ok v' W' ∧ PRow e size v' (n + m) (xs ++ news) X' ∧ LV w0 (X' ++ L) W' := by
  have ho := hr.owns hL
  have hbytes : (n + m) * bytes ≤ 140737488355328 := by
    have := Nat.mul_le_mul h63 hb2
    omega
  obtain ⟨v', W', hrun, ho2, hg, _, hloc⟩ := run_append_own_at (P := Tryz.prog) W w0.heap.size t ty e i z size bytes ht hi hz hsize hby hzs hsz v n xs ho ⟨gn, 0, none⟩ m cn news hl hcell h1 (by unfold maxLen; omega) hbytes hL.1.size
  rcases hr.2 with ⟨rfl, rfl, rfl⟩ | ⟨g, cap, c0, rfl, rfl, _, _, _, _⟩
  · -- nothing was owned
    have hg2 : W.grownBy W' none := ⟨hg.os, hg.tape, hg.output, hg.size, fun k hk _ => hg.block k hk (by simp [Value.ownBlock])⟩
    have ho3 : W'.ownsRow W.heap.size e size v' (0 + m) (xs ++ news) := by
      refine ⟨ho2.1, ?_⟩
      rcases ho2.2 with h | ⟨g2, cap2, cur2, rfl, hbg, h2⟩
      · exact .inl h
      · refine .inr ⟨g2, cap2, cur2, rfl, ?_, h2⟩
        rcases hloc with h | h
        · simp [Value.ownBlock] at h
        · simp [Value.ownBlock] at h
          omega
    obtain ⟨X', h4, h5⟩ := owned_thing (L := L) hL hg2 ho3
    exact ⟨v', W', X', hrun, h4, h5⟩
  · rcases ho2.2 with ⟨rfl, h0⟩ | ⟨g2, cap2, cur2, rfl, hbg, hgb, h3, h4, h5, h6⟩
    · -- nothing came of it: nothing was there
      have hn0 : n = 0 ∧ m = 0 := by omega
      refine ⟨_, W', [], hrun, ⟨ho2.1, .inl ⟨rfl, h0, rfl⟩⟩, ?_⟩
      have h7 : LV w0 (bk g c0 e :: L) W := hL
      refine ⟨?_, h7.tail.2.1, fun q hq => ⟨(h7.tail.2.2 q hq).1, okSame (h7.tail.2.2 q hq).2 (hg.block q.1 (Thg.lt (h7.tail.2.2 q hq).2) ?_)⟩⟩
      · refine ⟨hg.os.trans h7.1.os, hg.tape.trans h7.1.tape, hg.output.trans h7.1.output, Nat.le_trans h7.1.size hg.size, fun k hk => ?_⟩
        have hge : w0.heap.size ≤ g := h7.ge
        exact (hg.block k (Nat.lt_of_lt_of_le hk h7.1.size) (by intro e2; have e3 : k = g := Option.some.inj e2; omega)).trans (h7.1.block k hk)
      · intro e2
        exact h7.ne q hq (Option.some.inj e2)
    · have h7 : LV w0 (bk g c0 e :: L) W := hL
      by_cases hgg : g2 = g
      · subst hgg
        exact ⟨_, W', [bk g2 cur2 e], hrun, ⟨ho2.1, .inr ⟨g2, cap2, cur2, rfl, rfl, h3, h4, h5, h6⟩⟩, h7.turned hg rfl hgb⟩
      · have hnew : g2 = W.heap.size := by
          rcases hloc with h | h
          · simp [Value.ownBlock] at h
            exact absurd h hgg
          · simpa [Value.ownBlock] using h
        have hold : LV w0 L W' := by
          refine ⟨?_, h7.tail.2.1, fun q hq => ⟨(h7.tail.2.2 q hq).1, okSame (h7.tail.2.2 q hq).2 (hg.block q.1 (Thg.lt (h7.tail.2.2 q hq).2) ?_)⟩⟩
          · refine ⟨hg.os.trans h7.1.os, hg.tape.trans h7.1.tape, hg.output.trans h7.1.output, Nat.le_trans h7.1.size hg.size, fun k hk => ?_⟩
            have hge : w0.heap.size ≤ g := h7.ge
            exact (hg.block k (Nat.lt_of_lt_of_le hk h7.1.size) (by intro e2; have e3 : k = g := Option.some.inj e2; omega)).trans (h7.1.block k hk)
          · intro e2
            exact h7.ne q hq (Option.some.inj e2)
        refine ⟨_, W', [bk g2 cur2 e], hrun, ⟨ho2.1, .inr ⟨g2, cap2, cur2, rfl, rfl, h3, h4, h5, h6⟩⟩, hold.cons (Nat.le_trans h7.1.size (by simp only; omega)) (fun q hq => ?_) hgb⟩
        have := Thg.lt (h7.tail.2.2 q hq).2
        simp only
        omega
end
section
variable {w0 W W' w : World} {L X : List Thg} {lo : Nat → Int} {bs : Nat → Nat} {m : Nat → Option Nat} {pn g : Nat} {v : Value}
theorem infoInt : (Tryz.prog.info? 3).map (fun i => (i.zero, i.size, i.bytes)) = some (some (.int .i64 0), 1, 8) := by kernel_rfl
theorem B_sln {A B : Operand} {a : Addr} {n c : Nat} : ((do eqGuard .eql 52 A B (.slice (some a) n c) (.slice none 0 0); binOp .eql 52 (.slice (some a) n c) (.slice none 0 0)) : Sem Value).run Tryz.prog w = .ok (.bool false) w := by
  have e : (binOp .eql 52 (.slice (some a) n c) (.slice none 0 0)).run Tryz.prog w = .ok (.bool false) w := Lib.run_eql_slice_nil w 52 _ (some a) n c 0 0 Tryz.underlying52
  simp [eqGuard, e]
theorem bs_nil : (Instr.buildSlice 52 0 #[]).run Tryz.prog w = .ok (.slice (some ⟨w.heap.size, 0, none⟩) 0 0) (w.alloc (.cells #[] 3)) := by simp [go_sem]
theorem sl_four : (Instr.sliceAt 32 (.pointer (some ⟨g, 0, none⟩)) none none none).run Tryz.prog w = .ok (.slice (some ⟨g, 0, none⟩) 4 4) w := by simp [go_sem]
def loF (lo : Nat → Int) : List Value := [.int .i64 (lo 0), .int .i64 (lo 1), .int .i64 (lo 2), .int .i64 (lo 3)]
set_option maxRecDepth 100000 in
theorem cloneL_any (hL : LV w0 L W) (hm : bk pn (snP lo m) 115 ∈ L) : Calls Tryz.prog 86 #[.slice (some ⟨pn, 0, none⟩) 4 4] W fun e W' => ∃ v X, e = .returned v ∧ PRow 3 1 v 4 (loF lo) X ∧ LV w0 (X ++ L) W' := by
  obtain ⟨i0, hi, hz0, hz1, hz2⟩ := info_parts infoInt
  go_enter Tryz.func86, Tryz.ntmps86
  refine wp_fr (n := 8) (m := [(0, _)]) ⟨rfl, rfl, by intro p hp; simp only [List.mem_cons, List.not_mem_nil, or_false] at hp; rcases hp with rfl <;> rfl⟩ fun a0 H0 => ?_
  repeat (go_not_at_region 0; go_step)
  refine wp_region_lit ?_
  refine h_op H0 rfl (wn rfl) (R_as H0 rfl rfl) rfl (P1 0 rfl) fun a1 H1 => ?_
  clear H0
  refine h_end ?_
  repeat (go_not_at_region 1; go_step)
  refine wp_region_lit ?_
  refine h_op H1 rfl (wn rfl) (R_mv H1 rfl rfl) rfl (P2 3 0 rfl rfl) fun a2 H2 => ?_
  clear H1
  refine h_op H2 rfl (wn rfl) (R_bin H2 rfl rfl rfl B_sln) rfl (P2 4 0 rfl rfl) fun a3 H3 => ?_
  clear H2
  refine h_end ?_
  repeat (go_not_at_region 3; go_step)
  refine wp_cond_false (H3.ev (x := .tmp 4) rfl) ?_
  repeat (go_not_at_region 3; go_step)
  refine wp_region_lit ?_
  refine h_opS (bk W.heap.size #[] 3 :: L) H3 rfl (wn rfl) (R_bs0 rfl bs_nil) (hL.alloc _ _) rfl (P2 5 0 rfl rfl) fun a4 w4 H4 hL' => ?_
  replace hL := hL'
  clear H3 hL'
  have hcel : ∀ j u, (loF lo)[j]? = some u → w4.cell? ((⟨pn, 0, none⟩ : Addr).add j) = some u := by
    intro j u hj
    have h1 := LV.cl hL (List.mem_cons_of_mem _ hm) j
    have e1 : (⟨pn, 0, none⟩ : Addr).add j = ⟨pn, j, none⟩ := by cases j <;> simp [Addr.add]
    rw [e1, h1]
    match j, hj with
    | 0, hj | 1, hj | 2, hj | 3, hj => exact hj
  refine h_op H4 rfl (wn rfl) (R_mv H4 rfl rfl) rfl (P2 6 5 rfl rfl) fun a5 H5 => ?_
  clear H4
  obtain ⟨v2, W2, X2, hrun, hr2, hL2⟩ := app_cells (cn := 4) (m := 4) (news := loF lo) (show PRow 3 1 _ 0 [] [_] from ⟨rfl, .inr ⟨_, 0, #[], rfl, rfl, Nat.le_refl _, by unfold maxLen; omega, rfl, rfl⟩⟩) hL hcel Tryz.underlying52 hi hz0 hz1 hz2 rfl (by decide) rfl (by intro u hu; simp only [loF, List.mem_cons, List.not_mem_nil, or_false] at hu; rcases hu with rfl | rfl | rfl | rfl <;> rfl) (by omega) (by decide) 52
  refine h_opS (X2 ++ L) H5 rfl (wn rfl) (R_app H5 rfl rfl rfl hrun) (hL2) rfl (P1 7 rfl) fun a6 w6 H6 hL' => ?_
  replace hL := hL'
  clear H5 hL'
  refine h_op H6 rfl (wn rfl) (R_as H6 rfl rfl) rfl (P1 2 rfl) fun a7 H7 => ?_
  clear H6
  refine h_end ?_
  repeat (go_not_at_region 999; go_step)
  exact H7.ret1 rfl rfl ⟨v2, X2, rfl, hr2, hL⟩
set_option maxRecDepth 100000 in
theorem slows_any (hL : LV w0 L W) (hm : bk pn (snP lo m) 115 ∈ L) : Calls Tryz.prog 57 #[.pointer (some ⟨pn, 0, none⟩)] W fun e W' => ∃ v X, e = .returned v ∧ PRow 3 1 v 4 (loF lo) X ∧ LV w0 (X ++ L) W' := by
  go_enter Tryz.func57, Tryz.ntmps57
  refine wp_fr (n := 10) (m := [(0, _)]) ⟨rfl, rfl, by intro p hp; simp only [List.mem_cons, List.not_mem_nil, or_false] at hp; rcases hp with rfl <;> rfl⟩ fun a0 H0 => ?_
  repeat (go_not_at_region 0; go_step)
  refine wp_region_lit ?_
  refine h_op H0 rfl (wn rfl) (R_as H0 rfl rfl) rfl (P1 0 rfl) fun a1 H1 => ?_
  clear H0
  refine h_end ?_
  repeat (go_not_at_region 1; go_step)
  refine wp_region_lit ?_
  refine h_op H1 rfl (wn rfl) (R_mv H1 rfl rfl) rfl (P2 3 0 rfl rfl) fun a2 H2 => ?_
  clear H1
  refine h_op H2 rfl (wn rfl) (R_bin H2 rfl rfl rfl B_pn) rfl (P2 4 0 rfl rfl) fun a3 H3 => ?_
  clear H2
  refine h_end ?_
  repeat (go_not_at_region 3; go_step)
  refine wp_cond_false (H3.ev (x := .tmp 4) rfl) ?_
  repeat (go_not_at_region 3; go_step)
  refine wp_region_lit ?_
  refine h_op H3 rfl (wn rfl) (R_mv H3 rfl rfl) rfl (P1 5 rfl) fun a4 H4 => ?_
  clear H3
  refine h_op H4 rfl (wn rfl) (R_nc H4 rfl rfl) rfl (P1 6 rfl) fun a5 H5 => ?_
  clear H4
  refine h_op H5 rfl (wn rfl) (R_fa H5 rfl rfl fs_s0) rfl (P1 7 rfl) fun a6 H6 => ?_
  clear H5
  refine h_op H6 rfl (wn rfl) (R_sl0 H6 rfl rfl sl_four) rfl (P1 8 rfl) fun a7 H7 => ?_
  clear H6
  refine h_call H7 rfl (wn rfl) (R_call1 H7 rfl rfl (fun w => by simp [go_sem])) rfl ?_
  refine (cloneL_any hL hm).mono ?_
  rintro e w8 ⟨v2, X2, rfl, hr2, hL2⟩
  refine ⟨_, rfl, fun a8 HH => ?_⟩
  have H8 := HH _ (P1 9 rfl)
  clear HH H7
  refine h_op H8 rfl (wn rfl) (R_as H8 rfl rfl) rfl (P1 2 rfl) fun a9 H9 => ?_
  clear H8
  refine h_end ?_
  repeat (go_not_at_region 999; go_step)
  exact H9.ret1 rfl rfl ⟨v2, X2, rfl, hr2, hL2⟩
set_option maxRecDepth 100000 in
theorem shlows_any {A : Adr} {S : PSt} (hL : LV w0 (stT A S L) W) : Calls Tryz.prog 29 #[.pointer (some ⟨A.g, 0, none⟩)] W fun e W' => ∃ v X, e = .returned v ∧ PRow 3 1 v 4 (loF S.lo) X ∧ LV w0 (X ++ stT A S L) W' := by
  go_enter Tryz.func29, Tryz.ntmps29
  refine wp_fr (n := 10) (m := [(0, _)]) ⟨rfl, rfl, by intro p hp; simp only [List.mem_cons, List.not_mem_nil, or_false] at hp; rcases hp with rfl <;> rfl⟩ fun a0 H0 => ?_
  repeat (go_not_at_region 0; go_step)
  refine wp_region_lit ?_
  refine h_op H0 rfl (wn rfl) (R_as H0 rfl rfl) rfl (P1 0 rfl) fun a1 H1 => ?_
  clear H0
  refine h_end ?_
  repeat (go_not_at_region 1; go_step)
  refine wp_region_lit ?_
  refine h_op H1 rfl (wn rfl) (R_mv H1 rfl rfl) rfl (P2 3 0 rfl rfl) fun a2 H2 => ?_
  clear H1
  refine h_call H2 rfl (wn rfl) (R_call1 H2 rfl rfl (fun w => by simp [go_sem])) rfl ?_
  refine (shnone_any hL.at_).mono ?_
  rintro e w3 ⟨rfl, hw⟩
  replace hL := hL.eqw hw
  clear hw
  refine ⟨_, rfl, fun a3 HH => ?_⟩
  have H3 := HH _ (P2 4 0 rfl rfl)
  clear HH H2
  refine h_end ?_
  repeat (go_not_at_region 3; go_step)
  refine wp_cond_false (H3.ev (x := .tmp 4) rfl) ?_
  repeat (go_not_at_region 3; go_step)
  refine wp_region_lit ?_
  refine h_op H3 rfl (wn rfl) (R_mv H3 rfl rfl) rfl (P1 5 rfl) fun a4 H4 => ?_
  clear H3
  refine h_op H4 rfl (wn rfl) (R_nc H4 rfl rfl) rfl (P1 6 rfl) fun a5 H5 => ?_
  clear H4
  refine h_op H5 rfl (wn rfl) (R_fa H5 rfl rfl fa_sh1) rfl (P1 7 rfl) fun a6 H6 => ?_
  clear H5
  refine h_op H6 rfl (wn rfl) (R_ld H6 rfl rfl (ld_psn (hL.cell 1))) rfl (P1 8 rfl) fun a7 H7 => ?_
  clear H6
  refine h_call H7 rfl (wn rfl) (R_call1 H7 rfl rfl (fun w => by simp [go_sem])) rfl ?_
  refine (slows_any hL (lo := S.lo) (m := fun i => some (A.bs i)) (pn := A.pn) (by simp)).mono ?_
  rintro e w8 ⟨v2, X2, rfl, hr2, hL2⟩
  refine ⟨_, rfl, fun a8 HH => ?_⟩
  have H8 := HH _ (P1 9 rfl)
  clear HH H7
  refine h_op H8 rfl (wn rfl) (R_as H8 rfl rfl) rfl (P1 2 rfl) fun a9 H9 => ?_
  clear H8
  refine h_end ?_
  repeat (go_not_at_region 999; go_step)
  exact H9.ret1 rfl rfl ⟨v2, X2, rfl, hr2, hL2⟩
end
end Go.Proofs.YtnjfjdfjheiocaaGreat
