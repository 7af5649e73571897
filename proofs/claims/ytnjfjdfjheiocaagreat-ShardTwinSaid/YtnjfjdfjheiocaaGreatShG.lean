/-
  seen.Note.
-/
import Derived.Test.YtnjfjdfjheiocaaGreatShF
set_option linter.unusedSimpArgs false
set_option linter.unusedVariables false
namespace Go.Proofs.YtnjfjdfjheiocaaGreat
open Go.RowKit
theorem R_mf2 {P : Program} {a : Act} {w : World} {n : Nat} {m : List (Nat × Value)} {o : Oper} {f : FuncId} {x y : Operand} {vx vy : Value} (H : Fr a n m) (ho : o.op = .makeFunc (.func f) #[] #[x, y]) (hx : ev1 m x = some vx) (hy : ev1 m y = some vy) : (execOp a.eval o).run P w = .ok (.value (.func (.func f) #[] #[vx, vy])) w := by
  have e1 := H.ev hx
  have e2 := H.ev hy
  unfold execOp
  rw [ho]
  generalize a.eval = ρ at *
  simp only [List.map_toArray, List.map_cons, List.map_nil, e1, e2]
  exact fr_v rfl
theorem R_max {P : Program} {a : Act} {w : World} {n : Nat} {m : List (Nat × Value)} {o : Oper} {x y : Operand} {t u : TypeId} {vx vy : Int} (H : Fr a n m) (ho : o.op = .call { callee := .builtin .max, args := #[x, y], argTypes := #[t, u] }) (hx : ev1 m x = some (.int .i64 vx)) (hy : ev1 m y = some (.int .i64 vy)) : (execOp a.eval o).run P w = .ok (.value (.int .i64 (max vx vy))) w := by
  have e1 := H.ev hx
  have e2 := H.ev hy
  have e3 : (if vy > vx then vy else vx) = max vx vy := by split <;> omega
  unfold execOp
  rw [ho]
  generalize a.eval = ρ at *
  simp [resolve, invoke, builtin, go_sem, e1, e2, e3]
theorem grown_of {w w' : World} (hb : Below w.heap.size w w') : w.grownBy w' none := ⟨hb.os, hb.tape, hb.output, hb.size, fun k hk _ => hb.block k hk⟩
theorem key_inv {v : Value} {l : Lit} (h : keyOf Tryz.prog 3 v = some l) : ∃ z : Int, v = .int .i64 z ∧ l = .int .i64 z := by
  have h2 : mapKey Tryz.prog 3 v = some l := by
    rw [← h]
    simp [keyOf, Tryz.underlying3]
  cases v <;> simp [mapKey, Tryz.underlying3] at h2
  obtain ⟨⟨rfl, _⟩, rfl⟩ := h2
  exact ⟨_, rfl, rfl⟩
section
variable {lo : Nat → Int} {m : Nat → Option Nat} {bs : Nat → Nat} {cd : Nat → Cods} {i : Nat} {W w w0 : World} {L X : List Thg} {g pn g5 g6 : Nat} {seq n low : Int}
theorem ld_psn {a : Addr} {p : Option Addr} (h : w.cell? a = some (.pointer p)) : (Instr.loadAt 75 (.pointer (some a))).run Tryz.prog w = .ok (.pointer p) w := by simp [go_sem, h]
theorem bx_ps {a : Addr} : (Instr.box 75 (.pointer (some a))).run Tryz.prog w = .ok (.pointer (some ⟨w.heap.size, 0, none⟩)) (w.alloc (.cells #[.pointer (some a)] 75)) := by simp [go_sem]
theorem bx_in {z : Int} : (Instr.box 3 (.int .i64 z)).run Tryz.prog w = .ok (.pointer (some ⟨w.heap.size, 0, none⟩)) (w.alloc (.cells #[.int .i64 z] 3)) := by simp [go_sem]
set_option maxRecDepth 100000 in
theorem note1 {k : Int} {val : Value} (hi : i < 4) (h5 : W.heap[g5]? = some (.cells #[.pointer (some ⟨pn, 0, none⟩)] 75 (0, 0))) (h6 : W.heap[g6]? = some (.cells #[.int .i64 (i : Nat)] 3 (0, 0))) (hp : W.heap[pn]? = some (.cells (snP lo m) 115 (0, 0))) :
    Calls Tryz.prog 64 #[.int .i64 k, val, .pointer (some ⟨g5, 0, none⟩), .pointer (some ⟨g6, 0, none⟩)] W fun e W' => e = .returned (.bool (decide (k < lo i))) ∧ W.grownBy W' none := by
  have hL := LV.init W
  have hq : ∀ w', LV W [] w' → w'.cell? ⟨g5, 0, none⟩ = some (.pointer (some ⟨pn, 0, none⟩)) ∧ w'.cell? ⟨g6, 0, none⟩ = some (.int .i64 (i : Nat)) ∧ w'.cell? ⟨pn, i, none⟩ = some (.int .i64 (lo i)) := fun w' h =>
    ⟨(cells_at ((h.1.block g5 (blk_lt h5)).trans h5) 0), (cells_at ((h.1.block g6 (blk_lt h6)).trans h6) 0), (cells_at ((h.1.block pn (blk_lt hp)).trans hp) i).trans (snP_lo hi)⟩
  clear h5 h6 hp
  go_enter Tryz.func64, Tryz.ntmps64
  refine wp_fr (n := 15) (m := [(0, _), (2, _), (3, _)]) ⟨rfl, rfl, by intro p hp; simp only [List.mem_cons, List.not_mem_nil, or_false] at hp; rcases hp with rfl | rfl | rfl <;> rfl⟩ fun a0 H0 => ?_
  repeat (go_not_at_region 0; go_step)
  refine wp_region_lit ?_
  refine h_op H0 rfl (wn rfl) (R_as H0 rfl rfl) rfl (P3 0 2 3 rfl rfl rfl) fun a1 H1 => ?_
  clear H0
  refine h_end ?_
  repeat (go_not_at_region 1; go_step)
  refine wp_region_held_drew (S := fun w' => LV W [] w') (by kernel_rfl) hL.drew (fun hL' => ?_)
  replace hL := hL'
  clear hL'
  refine a_op  0 H1 rfl rfl (by kernel_rfl) (by kernel_rfl) (by kernel_rfl) (fun _ _ _ h => h) (wn rfl) (fun w hL => R_mv H1 rfl rfl) hL rfl (P3 7 2 3 rfl rfl rfl) fun a2 H2 => ?_
  clear H1
  refine a_op  1 H2 rfl rfl (by kernel_rfl) (by kernel_rfl) (by kernel_rfl) (fun _ _ _ h => h) (wn rfl) (fun w hL => R_ld H2 rfl rfl (ld_psn (hq _ hL).1)) hL rfl (P3 8 7 3 rfl rfl rfl) fun a3 H3 => ?_
  clear H2
  refine a_op  2 H3 rfl rfl (by kernel_rfl) (by kernel_rfl) (by kernel_rfl) (fun _ _ _ h => h) (wn rfl) (fun w hL => R_ld H3 rfl rfl (ld_inn (hq _ hL).2.1)) hL rfl (P3 9 8 7 rfl rfl rfl) fun a4 H4 => ?_
  clear H3
  refine a_op  3 H4 rfl rfl (by kernel_rfl) (by kernel_rfl) (by kernel_rfl) (fun _ _ _ h => h) (wn rfl) (fun w hL => R_nc H4 rfl rfl) hL rfl (P3 10 9 7 rfl rfl rfl) fun a5 H5 => ?_
  clear H4
  refine a_op  4 H5 rfl rfl (by kernel_rfl) (by kernel_rfl) (by kernel_rfl) (fun _ _ _ h => h) (wn rfl) (fun w hL => R_fa H5 rfl rfl fs_s0) hL rfl (P3 11 9 7 rfl rfl rfl) fun a6 H6 => ?_
  clear H5
  refine a_op  5 H6 rfl rfl (by kernel_rfl) (by kernel_rfl) (by kernel_rfl) (fun _ _ _ h => h) (wn rfl) (fun w hL => R_ixa H6 rfl rfl rfl (ixl hi)) hL rfl (P2 12 7 rfl rfl) fun a7 H7 => ?_
  clear H6
  refine a_op  6 H7 rfl rfl (by kernel_rfl) (by kernel_rfl) (by kernel_rfl) (fun _ _ _ h => h) (wn rfl) (fun w hL => R_ld H7 rfl rfl (ld_inn (hq _ hL).2.2)) hL rfl (P2 13 7 rfl rfl) fun a8 H8 => ?_
  clear H7
  refine a_op  7 H8 rfl rfl (by kernel_rfl) (by kernel_rfl) (by kernel_rfl) (fun _ _ _ h => h) (wn rfl) (fun w hL => R_bin H8 rfl rfl rfl (B_lt Tryz.underlying3 _ _)) hL rfl (P1 14 rfl) fun a9 H9 => ?_
  clear H8
  refine a_op  8 H9 rfl rfl (by kernel_rfl) (by kernel_rfl) (by kernel_rfl) (fun _ _ _ h => h) (wn rfl) (fun w hL => R_as H9 rfl rfl) hL rfl (P1 6 rfl) fun a10 H10 => ?_
  clear H9
  refine wpAnyH_done (by kernel_rfl) ?_ _
  repeat (go_not_at_region 999; go_step)
  exact H10.ret1 rfl rfl ⟨rfl, grown_of hL.1⟩
/-- One of the maps is taken out, and laid back. -/
theorem LV.outM (hi : i < 4) : ∃ R : List Thg, ∀ (W : World), (LV w0 (X ++ (snT bs cd ++ L)) W → LV w0 (mp (bs i) (entC (cd i)) :: (X ++ (R ++ L))) W) ∧ ∀ l, LV w0 (mp (bs i) (entC l) :: (X ++ (R ++ L))) W → LV w0 (X ++ (snT bs (upd cd i l) ++ L)) W := by
  obtain ⟨R, hR⟩ := snT_out (bs := bs) (cd := cd) hi
  refine ⟨R, fun W => ⟨fun h => ?_, fun l h => ?_⟩⟩
  · have e := hR (cd i) L
    rw [upd_self] at e
    exact (h.perm (e.append_left X)).perm List.perm_middle
  · exact h.perm (List.perm_middle.symm.trans ((hR l L).symm.append_left X))
theorem noteP (hi : i < 4) (h : LV w0 (X ++ (snT bs cd ++ L)) W) (h0 : -9223372036854775808 ≤ seq) (h1 : seq < 9223372036854775808) (hn : (cd i).length < 1000000) : ∃ W', (Instr.mapUpdate 112 (.map (some (bs i))) (.int .i64 seq) (.int .i64 n)).run Tryz.prog W = .ok () W' ∧ LV w0 (X ++ (snT bs (upd cd i (putC (cd i) seq n)) ++ L)) W' := by
  obtain ⟨R, hR⟩ := LV.outM (w0 := w0) (X := X) (bs := bs) (cd := cd) (L := L) hi
  obtain ⟨W', hrun, h2⟩ := store_run h0 h1 (.int .i64 n) Tryz.underlying112 (by rw [entC_len]; exact hn) ((hR W).1 h)
  rw [put_entC] at h2
  exact ⟨W', hrun, (hR W').2 _ h2⟩
theorem del_mapC (l : Cods) (z : Int) : Lib.deleteFuncD (fun kl (_ : DataW Value) => match kl with | .int _ k => decide (k < z) | _ => false) (mapD (entC l)) = mapD (entC (l.filter fun p => !decide (p.1 < z))) := by
  unfold mapD Lib.deleteFuncD entC
  simp only [List.map_map, List.filter_map]
  rfl
theorem noteD (hi : i < 4) (h5 : bk g5 #[.pointer (some ⟨pn, 0, none⟩)] 75 ∈ X) (h6 : bk g6 #[.int .i64 (i : Nat)] 3 ∈ X) (hp : bk pn (snP lo m) 115 ∈ X) (h : LV w0 (X ++ (snT bs cd ++ L)) W) :
    Calls Tryz.prog 63 #[.map (some (bs i)), .func (.func 64) #[] #[.pointer (some ⟨g5, 0, none⟩), .pointer (some ⟨g6, 0, none⟩)]] W fun e W' => e = .returned (.tuple #[]) ∧ LV w0 (X ++ (snT bs (upd cd i ((cd i).filter fun p => !decide (p.1 < lo i))) ++ L)) W' := by
  obtain ⟨R, hR⟩ := LV.outM (w0 := w0) (X := X) (bs := bs) (cd := cd) (L := L) hi
  have h1 := (hR W).1 h
  have hkeep : ∀ (W1 : World) (p : Thg), p ∈ X ++ (R ++ L) → W.grownBy W1 (some (bs i)) → p.ok W1 := fun W1 p hp hg =>
    okSame (h1.2.2 p (List.mem_cons_of_mem _ hp)).2 (hg.block p.1 (Thg.lt (h1.2.2 p (List.mem_cons_of_mem _ hp)).2) fun e => h1.ne p hp (Option.some.inj e))
  have hD := AnyDf.maps_DeleteFunc Tryz.delA intKeyed heldE (fun kl (_ : DataW Value) => match kl with | .int _ k => decide (k < lo i) | _ => false) 64 #[.pointer (some ⟨g5, 0, none⟩), .pointer (some ⟨g6, 0, none⟩)] (bs i) _ _ W
    (enters_of Tryz.func64 (by kernel_rfl) rfl) (h1.mem_map (List.mem_cons_self)) (fun W1 key val kl yd yp hg hk hv => by
      obtain ⟨z, rfl, rfl⟩ := key_inv hk
      exact note1 hi (hkeep W1 _ (List.mem_append_left _ h5) hg) (hkeep W1 _ (List.mem_append_left _ h6) hg) (hkeep W1 _ (List.mem_append_left _ hp) hg))
  refine Calls.mono hD ?_
  rintro e W' ⟨rfl, hown, hg⟩
  refine ⟨rfl, (hR W').2 _ (h1.turned hg rfl ?_)⟩
  rw [del_mapC] at hown
  have h2 := tight hown
  rw [size_mapD] at h2
  exact h2
theorem LV.setL3 {p q : Thg} {t : TypeId} (h : LV w0 (p :: q :: bk g (snP lo m) t :: L) W) (hi : i < 4) (v : Int) : LV w0 (p :: q :: bk g (snP (upd lo i v) m) t :: L) (W.setCell ⟨g, i, none⟩ (.int .i64 v)) := (h.third.setL hi v).back3
/-- What noting comes to. -/
def noteS (lo : Nat → Int) (cd : Nat → Cods) (i : Nat) (seq low n : Int) : (Nat → Int) × (Nat → Cods) :=
  (upd lo i (max (lo i) low), upd (upd cd i (putC (cd i) seq n)) i ((putC (cd i) seq n).filter fun p => !decide (p.1 < max (lo i) low)))
def noteM (lo : Nat → Int) (cd : Nat → Cods) (src seq low n : Int) : Int × (Nat → Int) × (Nat → Cods) :=
  if (askM lo cd src seq low).1 == 0 || !codeB n then (1, lo, cd) else if (askM lo cd src seq low).1 == 1 then (12, lo, cd) else if (askM lo cd src seq low).1 == 2 then (5, lo, cd) else (0, noteS lo cd src.toNat seq low n)
theorem askM_no {src seq low : Int} (h : (askM lo cd src seq low).1 ≠ 0) : badB src seq low = false := by
  cases hb : badB src seq low with
  | false => rfl
  | true =>
    unfold askM at h
    rw [hb, if_pos rfl] at h
    exact absurd rfl h
set_option maxRecDepth 100000 in
theorem note_any {src : Int} (h : LV w0 (bk pn (snC lo bs) 115 :: (snT bs cd ++ L)) W) (hn : ∀ i, (cd i).length < 1000000) : Calls Tryz.prog 37 #[.pointer (some ⟨pn, 0, none⟩), .int .i64 src, .int .i64 seq, .int .i64 low, .int .i64 n] W fun e W' => e = .returned (.int .i64 (noteM lo cd src seq low n).1) ∧ LV w0 (bk pn (snC (noteM lo cd src seq low n).2.1 bs) 115 :: (snT bs (noteM lo cd src seq low n).2.2 ++ L)) W' := by
  have hL := h
  clear h
  obtain ⟨y, hy⟩ : ∃ y, y = noteM lo cd src seq low n := ⟨_, rfl⟩
  rw [← hy]
  unfold noteM at hy
  go_enter Tryz.func37, Tryz.ntmps37
  refine wp_fr (n := 66) (m := [(0, _), (1, _), (2, _), (3, _), (4, _)]) ⟨rfl, rfl, by intro p hp; simp only [List.mem_cons, List.not_mem_nil, or_false] at hp; rcases hp with rfl | rfl | rfl | rfl | rfl <;> rfl⟩ fun a0 H0 => ?_
  repeat (go_not_at_region 0; go_step)
  refine wp_region_lit ?_
  refine h_opS (bk W.heap.size #[.pointer (some ⟨pn, 0, none⟩)] 75 :: bk pn (snC lo bs) 115 :: (snT bs cd ++ L)) H0 rfl (wn rfl) (R_box H0 rfl rfl bx_ps) (hL.alloc _ _) rfl (P5 5 1 2 3 4 rfl rfl rfl rfl rfl) fun a1 w1 H1 hL' => ?_
  replace hL := hL'
  clear H0 hL'
  refine h_opS (bk w1.heap.size #[.int .i64 src] 3 :: bk W.heap.size #[.pointer (some ⟨pn, 0, none⟩)] 75 :: bk pn (snC lo bs) 115 :: (snT bs cd ++ L)) H1 rfl (wn rfl) (R_box H1 rfl rfl bx_in) (hL.alloc _ _) rfl (P5 6 5 2 3 4 rfl rfl rfl rfl rfl) fun a2 w2 H2 hL' => ?_
  replace hL := hL'
  clear H1 hL'
  refine h_op H2 rfl (wn rfl) (R_as H2 rfl rfl) rfl (P5 6 5 2 3 4 rfl rfl rfl rfl rfl) fun a3 H3 => ?_
  clear H2
  refine h_end ?_
  obtain ⟨g5, hg5⟩ : ∃ g, g = W.heap.size := ⟨_, rfl⟩
  obtain ⟨g6, hg6⟩ : ∃ g, g = w1.heap.size := ⟨_, rfl⟩
  rw [← hg5, ← hg6] at H3 hL
  clear hg5 hg6
  repeat (go_not_at_region 1; go_step)
  refine wp_region_lit ?_
  refine h_op H3 rfl (wn rfl) (R_ld H3 rfl rfl (ld_psn (hL.tail.cell 0))) rfl (P6 13 6 5 2 3 4 rfl rfl rfl rfl rfl rfl) fun a4 H4 => ?_
  clear H3
  refine h_op H4 rfl (wn rfl) (R_bin H4 rfl rfl rfl B_pn) rfl (P6 14 6 5 2 3 4 rfl rfl rfl rfl rfl rfl) fun a5 H5 => ?_
  clear H4
  refine h_end ?_
  repeat (go_not_at_region 3; go_step)
  refine wp_cond_false (H5.ev (x := .tmp 14) rfl) ?_
  repeat (go_not_at_region 3; go_step)
  refine wp_region_lit ?_
  refine h_op H5 rfl (wn rfl) (R_ld H5 rfl rfl (ld_psn (hL.tail.cell 0))) rfl (P6 16 6 5 2 3 4 rfl rfl rfl rfl rfl rfl) fun a6 H6 => ?_
  clear H5
  refine h_op H6 rfl (wn rfl) (R_ld H6 rfl rfl (ld_inn (hL.cell 0))) rfl (P7 17 16 6 5 2 3 4 rfl rfl rfl rfl rfl rfl rfl) fun a7 H7 => ?_
  clear H6
  refine h_op H7 rfl (wn rfl) (R_mv H7 rfl rfl) rfl (P8 18 17 16 6 5 2 3 4 rfl rfl rfl rfl rfl rfl rfl rfl) fun a8 H8 => ?_
  clear H7
  refine h_op H8 rfl (wn rfl) (R_mv H8 rfl rfl) rfl (P9 19 18 17 16 6 5 2 3 4 rfl rfl rfl rfl rfl rfl rfl rfl rfl) fun a9 H9 => ?_
  clear H8
  refine h_call H9 rfl (wn rfl) (R_call4 H9 rfl rfl rfl rfl rfl (fun w => by simp [go_sem])) rfl ?_
  refine (ask_any hL.tail.tail).mono ?_
  rintro e w10 ⟨rfl, hw⟩
  replace hL := hL.eqw hw
  clear hw
  refine ⟨_, rfl, fun a10 HH => ?_⟩
  have H10 := HH _ (P6 20 6 5 2 3 4 rfl rfl rfl rfl rfl rfl)
  clear HH H9
  refine h_op H10 rfl (wn rfl) (R_mv H10 rfl rfl) rfl (P6 15 6 5 2 3 4 rfl rfl rfl rfl rfl rfl) fun a11 H11 => ?_
  clear H10
  refine h_op H11 rfl (wn rfl) (R_ext H11 rfl rfl rfl) rfl (P7 21 15 6 5 2 3 4 rfl rfl rfl rfl rfl rfl rfl) fun a12 H12 => ?_
  clear H11
  refine h_op H12 rfl (wn rfl) (R_ext H12 rfl rfl rfl) rfl (P7 22 21 6 5 2 3 4 rfl rfl rfl rfl rfl rfl rfl) fun a13 H13 => ?_
  clear H12
  refine h_op H13 rfl (wn rfl) (R_as H13 rfl rfl) rfl (P7 11 22 6 5 2 3 4 rfl rfl rfl rfl rfl rfl rfl) fun a14 H14 => ?_
  clear H13
  refine h_op H14 rfl (wn rfl) (R_as H14 rfl rfl) rfl (P6 11 6 5 2 3 4 rfl rfl rfl rfl rfl rfl) fun a15 H15 => ?_
  clear H14
  refine h_end ?_
  obtain ⟨st, hst⟩ : ∃ s, s = (askM lo cd src seq low).1 := ⟨_, rfl⟩
  rw [← hst] at H15 hy
  repeat (go_not_at_region 4; go_step)
  refine wp_region_lit ?_
  refine h_op H15 rfl (wn rfl) (R_mv H15 rfl rfl) rfl (P7 24 11 6 5 2 3 4 rfl rfl rfl rfl rfl rfl rfl) fun a16 H16 => ?_
  clear H15
  refine h_op H16 rfl (wn rfl) (R_bin H16 rfl rfl rfl (B_eq Tryz.underlying3 _ _)) rfl (P7 25 11 6 5 2 3 4 rfl rfl rfl rfl rfl rfl rfl) fun a17 H17 => ?_
  clear H16
  refine h_op H17 rfl (wn rfl) (R_mv H17 rfl rfl) rfl (P7 26 11 6 5 2 3 4 rfl rfl rfl rfl rfl rfl rfl) fun a18 H18 => ?_
  clear H17
  replace H18 := H18.pick [(2, .int .i64 seq), (3, .int .i64 low), (4, .int .i64 n), (5, .pointer (some ⟨g5, 0, none⟩)), (6, .pointer (some ⟨g6, 0, none⟩)), (11, .int .i64 st), (26, .bool (st == 0))] (P7 2 3 4 5 6 11 26 rfl rfl rfl rfl rfl rfl rfl)
  generalize ht0 : (st == 0) = t0 at H18
  refine wpList_cut [_, _, _, _] (R := fun a' w' => Fr a' 66 [(2, .int .i64 seq), (3, .int .i64 low), (4, .int .i64 n), (5, .pointer (some ⟨g5, 0, none⟩)), (6, .pointer (some ⟨g6, 0, none⟩)), (11, .int .i64 st), (30, .bool (t0 || (!(codeB n))))] ∧ LV w0 (bk g6 #[.int .i64 src] 3 :: bk g5 #[.pointer (some ⟨pn, 0, none⟩)] 75 :: bk pn (snC lo bs) 115 :: (snT bs cd ++ L)) w') ?_ ?_
  · cases t0
    · refine h_op H18 rfl (H18.wt rfl rfl rfl) (R_mv H18 rfl rfl) rfl (P8 27 2 3 4 5 6 11 26 rfl rfl rfl rfl rfl rfl rfl rfl) fun a19 H19 => ?_
      clear H18
      refine h_call H19 rfl (H19.wt rfl rfl rfl) (R_call1 H19 rfl rfl (fun w => by simp [go_sem])) rfl ?_
      refine (codeB_any n _).mono ?_
      rintro e w20 ⟨rfl, hw⟩
      replace hL := hL.eqw hw
      clear hw
      refine ⟨_, rfl, fun a20 HH => ?_⟩
      have H20 := HH _ (P8 28 2 3 4 5 6 11 26 rfl rfl rfl rfl rfl rfl rfl rfl)
      clear HH H19
      refine h_op H20 rfl (H20.wt rfl rfl rfl) (R_not H20 rfl rfl) rfl (P8 29 2 3 4 5 6 11 26 rfl rfl rfl rfl rfl rfl rfl rfl) fun a21 H21 => ?_
      clear H20
      refine h_op H21 rfl (wn rfl) (R_pick H21 rfl rfl rfl) rfl (P7 30 2 3 4 5 6 11 rfl rfl rfl rfl rfl rfl rfl) fun a22 H22 => ?_
      clear H21
      exact h_end ⟨H22.pick _ (P7 2 3 4 5 6 11 30 rfl rfl rfl rfl rfl rfl rfl), hL⟩
    · refine h_skip H18 rfl (H18.wf rfl rfl rfl) rfl (P8 27 2 3 4 5 6 11 26 rfl rfl rfl rfl rfl rfl rfl rfl) fun a19 H19 => ?_
      clear H18
      refine h_skip H19 rfl (H19.wf rfl rfl rfl) rfl (P8 28 2 3 4 5 6 11 26 rfl rfl rfl rfl rfl rfl rfl rfl) fun a20 H20 => ?_
      clear H19
      refine h_skip H20 rfl (H20.wf rfl rfl rfl) rfl (P8 29 2 3 4 5 6 11 26 rfl rfl rfl rfl rfl rfl rfl rfl) fun a21 H21 => ?_
      clear H20
      refine h_op H21 rfl (wn rfl) (R_pick H21 rfl rfl rfl) rfl (P7 30 2 3 4 5 6 11 rfl rfl rfl rfl rfl rfl rfl) fun a22 H22 => ?_
      clear H21
      exact h_end ⟨H22.pick _ (P7 2 3 4 5 6 11 30 rfl rfl rfl rfl rfl rfl rfl), hL⟩
  clear hL H18
  rintro a23 wx ⟨H23, hL⟩
  generalize ht1 : (t0 || (!(codeB n))) = t1 at H23
  rw [ht0, ht1] at hy
  refine h_op H23 rfl (wn rfl) (R_as H23 rfl rfl) rfl (P7 23 2 3 4 5 6 11 rfl rfl rfl rfl rfl rfl rfl) fun a24 H24 => ?_
  clear H23
  refine h_end ?_
  cases t1
  rotate_left
  · rw [if_pos rfl] at hy
    repeat (go_not_at_region 5; go_step)
    refine wp_cond_true (H24.ev (x := .tmp 23) rfl) ?_
    repeat (go_not_at_region 5; go_step)
    refine wp_region_lit ?_
    refine h_op H24 rfl (wn rfl) (R_as H24 rfl rfl) rfl (P1 10 rfl) fun a25 H25 => ?_
    clear H24
    refine h_end ?_
    repeat (go_not_at_region 999; go_step)
    subst hy
    exact H25.ret1 rfl rfl ⟨rfl, hL.tail.tail⟩
  rw [if_neg (by decide)] at hy
  repeat (go_not_at_region 6; go_step)
  refine wp_cond_false (H24.ev (x := .tmp 23) rfl) ?_
  repeat (go_not_at_region 6; go_step)
  refine wp_region_lit ?_
  refine h_op H24 rfl (wn rfl) (R_mv H24 rfl rfl) rfl (P7 32 2 3 4 5 6 11 rfl rfl rfl rfl rfl rfl rfl) fun a25 H25 => ?_
  clear H24
  refine h_op H25 rfl (wn rfl) (R_bin H25 rfl rfl rfl (B_eq Tryz.underlying3 _ _)) rfl (P7 33 2 3 4 5 6 11 rfl rfl rfl rfl rfl rfl rfl) fun a26 H26 => ?_
  clear H25
  refine h_op H26 rfl (wn rfl) (R_as H26 rfl rfl) rfl (P7 31 2 3 4 5 6 11 rfl rfl rfl rfl rfl rfl rfl) fun a27 H27 => ?_
  clear H26
  refine h_end ?_
  cases h1 : st == 1
  rotate_left
  · rw [h1] at hy H27
    rw [if_pos rfl] at hy
    repeat (go_not_at_region 7; go_step)
    refine wp_cond_true (H27.ev (x := .tmp 31) rfl) ?_
    repeat (go_not_at_region 7; go_step)
    refine wp_region_lit ?_
    refine h_op H27 rfl (wn rfl) (R_as H27 rfl rfl) rfl (P1 10 rfl) fun a28 H28 => ?_
    clear H27
    refine h_end ?_
    repeat (go_not_at_region 999; go_step)
    subst hy
    exact H28.ret1 rfl rfl ⟨rfl, hL.tail.tail⟩
  rw [h1] at hy H27
  rw [if_neg (by decide)] at hy
  repeat (go_not_at_region 8; go_step)
  refine wp_cond_false (H27.ev (x := .tmp 31) rfl) ?_
  repeat (go_not_at_region 8; go_step)
  refine wp_region_lit ?_
  refine h_op H27 rfl (wn rfl) (R_mv H27 rfl rfl) rfl (P6 35 2 3 4 5 6 rfl rfl rfl rfl rfl rfl) fun a28 H28 => ?_
  clear H27
  refine h_op H28 rfl (wn rfl) (R_bin H28 rfl rfl rfl (B_eq Tryz.underlying3 _ _)) rfl (P6 36 2 3 4 5 6 rfl rfl rfl rfl rfl rfl) fun a29 H29 => ?_
  clear H28
  refine h_op H29 rfl (wn rfl) (R_as H29 rfl rfl) rfl (P6 34 2 3 4 5 6 rfl rfl rfl rfl rfl rfl) fun a30 H30 => ?_
  clear H29
  refine h_end ?_
  cases h2 : st == 2
  rotate_left
  · rw [h2] at hy H30
    rw [if_pos rfl] at hy
    repeat (go_not_at_region 9; go_step)
    refine wp_cond_true (H30.ev (x := .tmp 34) rfl) ?_
    repeat (go_not_at_region 9; go_step)
    refine wp_region_lit ?_
    refine h_op H30 rfl (wn rfl) (R_as H30 rfl rfl) rfl (P1 10 rfl) fun a31 H31 => ?_
    clear H30
    refine h_end ?_
    repeat (go_not_at_region 999; go_step)
    subst hy
    exact H31.ret1 rfl rfl ⟨rfl, hL.tail.tail⟩
  rw [h2] at hy H30
  rw [if_neg (by decide)] at hy
  repeat (go_not_at_region 10; go_step)
  refine wp_cond_false (H30.ev (x := .tmp 34) rfl) ?_
  have hst0 : st ≠ 0 := by
    rintro rfl
    cases t0
    · cases ht0
    · cases ht1
  rw [hst] at hst0
  obtain ⟨b0, b1, b2, b3, b4, b5⟩ := badB_no (askM_no hst0)
  clear hst0 h1 h2 ht1 ht0 hst
  obtain ⟨i, rfl⟩ := Int.eq_ofNat_of_zero_le b0
  have hi : i < 4 := by omega
  rw [show (Int.toNat (i : Int)) = i from rfl] at hy
  repeat (go_not_at_region 10; go_step)
  refine wp_region_held_drew (S := fun w' => Thg.ok w' (bk g6 #[.int .i64 (i : Nat)] 3) ∧ Thg.ok w' (bk g5 #[.pointer (some ⟨pn, 0, none⟩)] 75)) (by kernel_rfl) ((⟨LV.has hL.drew (by simp), LV.has hL.drew (by simp)⟩ : Thg.ok _ (bk g6 #[.int .i64 (i : Nat)] 3) ∧ Thg.ok _ (bk g5 #[.pointer (some ⟨pn, 0, none⟩)] 75))) (fun _ => ?_)
  replace hL := hL.drew
  refine a_op 0 H30 rfl rfl (by kernel_rfl) (by kernel_rfl) (by kernel_rfl) (fun _ _ _ h => h) (wn rfl) (fun w hL => R_ld H30 rfl rfl (ld_psn (okc hL.2 0))) ((⟨LV.has hL (by simp), LV.has hL (by simp)⟩ : Thg.ok _ (bk g6 #[.int .i64 (i : Nat)] 3) ∧ Thg.ok _ (bk g5 #[.pointer (some ⟨pn, 0, none⟩)] 75))) rfl (P6 37 2 3 4 5 6 rfl rfl rfl rfl rfl rfl) fun a31 H31 => ?_
  clear H30
  refine a_op 1 H31 rfl rfl (by kernel_rfl) (by kernel_rfl) (by kernel_rfl) (fun _ _ _ h => h) (wn rfl) (fun w hL => R_ld H31 rfl rfl (ld_inn (okc hL.1 0))) ((⟨LV.has hL (by simp), LV.has hL (by simp)⟩ : Thg.ok _ (bk g6 #[.int .i64 (i : Nat)] 3) ∧ Thg.ok _ (bk g5 #[.pointer (some ⟨pn, 0, none⟩)] 75))) rfl (P7 38 37 2 3 4 5 6 rfl rfl rfl rfl rfl rfl rfl) fun a32 H32 => ?_
  clear H31
  refine a_op 2 H32 rfl rfl (by kernel_rfl) (by kernel_rfl) (by kernel_rfl) (fun _ _ _ h => h) (wn rfl) (fun w hL => R_ld H32 rfl rfl (ld_psn (okc hL.2 0))) ((⟨LV.has hL (by simp), LV.has hL (by simp)⟩ : Thg.ok _ (bk g6 #[.int .i64 (i : Nat)] 3) ∧ Thg.ok _ (bk g5 #[.pointer (some ⟨pn, 0, none⟩)] 75))) rfl (P8 39 38 37 2 3 4 5 6 rfl rfl rfl rfl rfl rfl rfl rfl) fun a33 H33 => ?_
  clear H32
  refine a_op 3 H33 rfl rfl (by kernel_rfl) (by kernel_rfl) (by kernel_rfl) (fun _ _ _ h => h) (wn rfl) (fun w hL => R_ld H33 rfl rfl (ld_inn (okc hL.1 0))) ((⟨LV.has hL (by simp), LV.has hL (by simp)⟩ : Thg.ok _ (bk g6 #[.int .i64 (i : Nat)] 3) ∧ Thg.ok _ (bk g5 #[.pointer (some ⟨pn, 0, none⟩)] 75))) rfl (P9 40 39 38 37 2 3 4 5 6 rfl rfl rfl rfl rfl rfl rfl rfl rfl) fun a34 H34 => ?_
  clear H33
  refine a_op 8 H34 rfl rfl (by kernel_rfl) (by kernel_rfl) (by kernel_rfl) (fun _ _ _ h => h) (wn rfl) (fun w hL => R_mv H34 rfl rfl) ((⟨LV.has hL (by simp), LV.has hL (by simp)⟩ : Thg.ok _ (bk g6 #[.int .i64 (i : Nat)] 3) ∧ Thg.ok _ (bk g5 #[.pointer (some ⟨pn, 0, none⟩)] 75))) rfl (P10 45 40 39 38 37 2 3 4 5 6 rfl rfl rfl rfl rfl rfl rfl rfl rfl rfl) fun a35 H35 => ?_
  clear H34
  refine a_op 4 H35 rfl rfl (by kernel_rfl) (by kernel_rfl) (by kernel_rfl) (fun _ _ _ h => h) (wn rfl) (fun w hL => R_nc H35 rfl rfl) ((⟨LV.has hL (by simp), LV.has hL (by simp)⟩ : Thg.ok _ (bk g6 #[.int .i64 (i : Nat)] 3) ∧ Thg.ok _ (bk g5 #[.pointer (some ⟨pn, 0, none⟩)] 75))) rfl (P10 41 45 40 38 37 2 3 4 5 6 rfl rfl rfl rfl rfl rfl rfl rfl rfl rfl) fun a36 H36 => ?_
  clear H35
  refine a_op 10 H36 rfl rfl (by kernel_rfl) (by kernel_rfl) (by kernel_rfl) (fun _ _ _ h => h) (wn rfl) (fun w hL => R_nc H36 rfl rfl) ((⟨LV.has hL (by simp), LV.has hL (by simp)⟩ : Thg.ok _ (bk g6 #[.int .i64 (i : Nat)] 3) ∧ Thg.ok _ (bk g5 #[.pointer (some ⟨pn, 0, none⟩)] 75))) rfl (P10 47 41 45 40 38 2 3 4 5 6 rfl rfl rfl rfl rfl rfl rfl rfl rfl rfl) fun a37 H37 => ?_
  clear H36
  refine a_op 5 H37 rfl rfl (by kernel_rfl) (by kernel_rfl) (by kernel_rfl) (fun _ _ _ h => h) (wn rfl) (fun w hL => R_fa H37 rfl rfl fs_s0) ((⟨LV.has hL (by simp), LV.has hL (by simp)⟩ : Thg.ok _ (bk g6 #[.int .i64 (i : Nat)] 3) ∧ Thg.ok _ (bk g5 #[.pointer (some ⟨pn, 0, none⟩)] 75))) rfl (P10 42 47 45 40 38 2 3 4 5 6 rfl rfl rfl rfl rfl rfl rfl rfl rfl rfl) fun a38 H38 => ?_
  clear H37
  refine a_op 11 H38 rfl rfl (by kernel_rfl) (by kernel_rfl) (by kernel_rfl) (fun _ _ _ h => h) (wn rfl) (fun w hL => R_fa H38 rfl rfl fs_s0) ((⟨LV.has hL (by simp), LV.has hL (by simp)⟩ : Thg.ok _ (bk g6 #[.int .i64 (i : Nat)] 3) ∧ Thg.ok _ (bk g5 #[.pointer (some ⟨pn, 0, none⟩)] 75))) rfl (P10 48 42 45 40 38 2 3 4 5 6 rfl rfl rfl rfl rfl rfl rfl rfl rfl rfl) fun a39 H39 => ?_
  clear H38
  refine a_op 6 H39 rfl rfl (by kernel_rfl) (by kernel_rfl) (by kernel_rfl) (fun _ _ _ h => h) (wn rfl) (fun w hL => R_ixa H39 rfl rfl rfl (ixl hi)) ((⟨LV.has hL (by simp), LV.has hL (by simp)⟩ : Thg.ok _ (bk g6 #[.int .i64 (i : Nat)] 3) ∧ Thg.ok _ (bk g5 #[.pointer (some ⟨pn, 0, none⟩)] 75))) rfl (P9 43 48 45 38 2 3 4 5 6 rfl rfl rfl rfl rfl rfl rfl rfl rfl) fun a40 H40 => ?_
  clear H39
  refine a_all1 7 (by kernel_rfl) ?_
  refine o_op 7 H40 rfl rfl (wn rfl) (R_ld H40 rfl rfl (ld_inn ((hL.tail.tail.cell i).trans (snP_lo hi)))) rfl (P9 44 48 45 38 2 3 4 5 6 rfl rfl rfl rfl rfl rfl rfl rfl rfl) fun a41 H41 => ?_
  clear H40
  refine ⟨(⟨LV.has hL (by simp), LV.has hL (by simp)⟩ : Thg.ok _ (bk g6 #[.int .i64 (i : Nat)] 3) ∧ Thg.ok _ (bk g5 #[.pointer (some ⟨pn, 0, none⟩)] 75)), ?_⟩
  refine a_op 9 H41 rfl rfl (by kernel_rfl) (by kernel_rfl) (by kernel_rfl) (fun _ _ _ h => h) (wn rfl) (fun w hL => R_max H41 rfl rfl rfl) ((⟨LV.has hL (by simp), LV.has hL (by simp)⟩ : Thg.ok _ (bk g6 #[.int .i64 (i : Nat)] 3) ∧ Thg.ok _ (bk g5 #[.pointer (some ⟨pn, 0, none⟩)] 75))) rfl (P8 46 48 38 2 3 4 5 6 rfl rfl rfl rfl rfl rfl rfl rfl) fun a42 H42 => ?_
  clear H41
  refine a_op 12 H42 rfl rfl (by kernel_rfl) (by kernel_rfl) (by kernel_rfl) (fun _ _ _ h => h) (wn rfl) (fun w hL => R_ixa H42 rfl rfl rfl (ixl hi)) ((⟨LV.has hL (by simp), LV.has hL (by simp)⟩ : Thg.ok _ (bk g6 #[.int .i64 (i : Nat)] 3) ∧ Thg.ok _ (bk g5 #[.pointer (some ⟨pn, 0, none⟩)] 75))) rfl (P7 49 46 2 3 4 5 6 rfl rfl rfl rfl rfl rfl rfl) fun a43 H43 => ?_
  clear H42
  refine a_all1 13 (by kernel_rfl) ?_
  refine o_stS (bk g6 #[.int .i64 (i : Nat)] 3 :: bk g5 #[.pointer (some ⟨pn, 0, none⟩)] 75 :: bk pn (snP (upd lo i (max (lo i) low)) fun i => some (bs i)) 115 :: (snT bs cd ++ L)) 13 H43 rfl rfl (wn rfl) (R_st H43 rfl rfl rfl (st_inn hL.third (snP_lo hi))) (hL.setL3 hi _) fun a44 w44 H44 hL' => ⟨(⟨LV.has hL' (by simp), LV.has hL' (by simp)⟩ : Thg.ok _ (bk g6 #[.int .i64 (i : Nat)] 3) ∧ Thg.ok _ (bk g5 #[.pointer (some ⟨pn, 0, none⟩)] 75)), ?_⟩
  replace hL := hL'
  clear H43 hL'
  refine wpAnyH_done (by kernel_rfl) ?_ _
  repeat (go_not_at_region 11; go_step)
  refine wp_region_held_drew (S := fun w' => Thg.ok w' (bk g6 #[.int .i64 (i : Nat)] 3) ∧ Thg.ok w' (bk g5 #[.pointer (some ⟨pn, 0, none⟩)] 75) ∧ Thg.ok w' (bk pn (snP (upd lo i (max (lo i) low)) fun i => some (bs i)) 115)) (by kernel_rfl) ((⟨LV.has hL.drew (by simp), LV.has hL.drew (by simp), LV.has hL.drew (by simp)⟩ : Thg.ok _ (bk g6 #[.int .i64 (i : Nat)] 3) ∧ Thg.ok _ (bk g5 #[.pointer (some ⟨pn, 0, none⟩)] 75) ∧ Thg.ok _ (bk pn (snP (upd lo i (max (lo i) low)) fun i => some (bs i)) 115))) (fun _ => ?_)
  replace hL := hL.drew
  refine a_op 0 H44 rfl rfl (by kernel_rfl) (by kernel_rfl) (by kernel_rfl) (fun _ _ _ h => h) (wn rfl) (fun w hL => R_ld H44 rfl rfl (ld_psn (okc hL.2.1 0))) ((⟨LV.has hL (by simp), LV.has hL (by simp), LV.has hL (by simp)⟩ : Thg.ok _ (bk g6 #[.int .i64 (i : Nat)] 3) ∧ Thg.ok _ (bk g5 #[.pointer (some ⟨pn, 0, none⟩)] 75) ∧ Thg.ok _ (bk pn (snP (upd lo i (max (lo i) low)) fun i => some (bs i)) 115))) rfl (P5 50 2 4 5 6 rfl rfl rfl rfl rfl) fun a45 H45 => ?_
  clear H44
  refine a_op 1 H45 rfl rfl (by kernel_rfl) (by kernel_rfl) (by kernel_rfl) (fun _ _ _ h => h) (wn rfl) (fun w hL => R_ld H45 rfl rfl (ld_inn (okc hL.1 0))) ((⟨LV.has hL (by simp), LV.has hL (by simp), LV.has hL (by simp)⟩ : Thg.ok _ (bk g6 #[.int .i64 (i : Nat)] 3) ∧ Thg.ok _ (bk g5 #[.pointer (some ⟨pn, 0, none⟩)] 75) ∧ Thg.ok _ (bk pn (snP (upd lo i (max (lo i) low)) fun i => some (bs i)) 115))) rfl (P6 51 50 2 4 5 6 rfl rfl rfl rfl rfl rfl) fun a46 H46 => ?_
  clear H45
  refine a_op 6 H46 rfl rfl (by kernel_rfl) (by kernel_rfl) (by kernel_rfl) (fun _ _ _ h => h) (wn rfl) (fun w hL => R_mv H46 rfl rfl) ((⟨LV.has hL (by simp), LV.has hL (by simp), LV.has hL (by simp)⟩ : Thg.ok _ (bk g6 #[.int .i64 (i : Nat)] 3) ∧ Thg.ok _ (bk g5 #[.pointer (some ⟨pn, 0, none⟩)] 75) ∧ Thg.ok _ (bk pn (snP (upd lo i (max (lo i) low)) fun i => some (bs i)) 115))) rfl (P6 56 51 50 4 5 6 rfl rfl rfl rfl rfl rfl) fun a47 H47 => ?_
  clear H46
  refine a_op 7 H47 rfl rfl (by kernel_rfl) (by kernel_rfl) (by kernel_rfl) (fun _ _ _ h => h) (wn rfl) (fun w hL => R_mv H47 rfl rfl) ((⟨LV.has hL (by simp), LV.has hL (by simp), LV.has hL (by simp)⟩ : Thg.ok _ (bk g6 #[.int .i64 (i : Nat)] 3) ∧ Thg.ok _ (bk g5 #[.pointer (some ⟨pn, 0, none⟩)] 75) ∧ Thg.ok _ (bk pn (snP (upd lo i (max (lo i) low)) fun i => some (bs i)) 115))) rfl (P6 57 56 51 50 5 6 rfl rfl rfl rfl rfl rfl) fun a48 H48 => ?_
  clear H47
  refine a_op 2 H48 rfl rfl (by kernel_rfl) (by kernel_rfl) (by kernel_rfl) (fun _ _ _ h => h) (wn rfl) (fun w hL => R_nc H48 rfl rfl) ((⟨LV.has hL (by simp), LV.has hL (by simp), LV.has hL (by simp)⟩ : Thg.ok _ (bk g6 #[.int .i64 (i : Nat)] 3) ∧ Thg.ok _ (bk g5 #[.pointer (some ⟨pn, 0, none⟩)] 75) ∧ Thg.ok _ (bk pn (snP (upd lo i (max (lo i) low)) fun i => some (bs i)) 115))) rfl (P6 52 57 56 51 5 6 rfl rfl rfl rfl rfl rfl) fun a49 H49 => ?_
  clear H48
  refine a_op 3 H49 rfl rfl (by kernel_rfl) (by kernel_rfl) (by kernel_rfl) (fun _ _ _ h => h) (wn rfl) (fun w hL => R_fa H49 rfl rfl fs_s1) ((⟨LV.has hL (by simp), LV.has hL (by simp), LV.has hL (by simp)⟩ : Thg.ok _ (bk g6 #[.int .i64 (i : Nat)] 3) ∧ Thg.ok _ (bk g5 #[.pointer (some ⟨pn, 0, none⟩)] 75) ∧ Thg.ok _ (bk pn (snP (upd lo i (max (lo i) low)) fun i => some (bs i)) 115))) rfl (P6 53 57 56 51 5 6 rfl rfl rfl rfl rfl rfl) fun a50 H50 => ?_
  clear H49
  refine a_op 4 H50 rfl rfl (by kernel_rfl) (by kernel_rfl) (by kernel_rfl) (fun _ _ _ h => h) (wn rfl) (fun w hL => R_ixa H50 rfl rfl rfl (ixm hi)) ((⟨LV.has hL (by simp), LV.has hL (by simp), LV.has hL (by simp)⟩ : Thg.ok _ (bk g6 #[.int .i64 (i : Nat)] 3) ∧ Thg.ok _ (bk g5 #[.pointer (some ⟨pn, 0, none⟩)] 75) ∧ Thg.ok _ (bk pn (snP (upd lo i (max (lo i) low)) fun i => some (bs i)) 115))) rfl (P5 54 57 56 5 6 rfl rfl rfl rfl rfl) fun a51 H51 => ?_
  clear H50
  refine a_op 5 H51 rfl rfl (by kernel_rfl) (by kernel_rfl) (by kernel_rfl) (fun _ _ _ h => h) (wn rfl) (fun w hL => R_ld H51 rfl rfl (ld_mpi ((okc hL.2.2 (4 + i)).trans (snP_mp hi)))) ((⟨LV.has hL (by simp), LV.has hL (by simp), LV.has hL (by simp)⟩ : Thg.ok _ (bk g6 #[.int .i64 (i : Nat)] 3) ∧ Thg.ok _ (bk g5 #[.pointer (some ⟨pn, 0, none⟩)] 75) ∧ Thg.ok _ (bk pn (snP (upd lo i (max (lo i) low)) fun i => some (bs i)) 115))) rfl (P5 55 57 56 5 6 rfl rfl rfl rfl rfl) fun a52 H52 => ?_
  clear H51
  refine a_all1 8 (by kernel_rfl) ?_
  obtain ⟨Wn, hrun, hLn⟩ := noteP (X := [bk g6 #[.int .i64 (i : Nat)] 3, bk g5 #[.pointer (some ⟨pn, 0, none⟩)] 75, bk pn (snP (upd lo i (max (lo i) low)) fun i => some (bs i)) 115]) (seq := seq) (n := n) hi hL (by omega) (by omega) (hn i)
  refine o_stS (bk g6 #[.int .i64 (i : Nat)] 3 :: bk g5 #[.pointer (some ⟨pn, 0, none⟩)] 75 :: bk pn (snP (upd lo i (max (lo i) low)) fun i => some (bs i)) 115 :: (snT bs (upd cd i (putC (cd i) seq n)) ++ L)) 8 H52 rfl rfl (wn rfl) (R_mu H52 rfl rfl rfl rfl hrun) (hLn) fun a53 w53 H53 hL' => ⟨(⟨LV.has hL' (by simp), LV.has hL' (by simp), LV.has hL' (by simp)⟩ : Thg.ok _ (bk g6 #[.int .i64 (i : Nat)] 3) ∧ Thg.ok _ (bk g5 #[.pointer (some ⟨pn, 0, none⟩)] 75) ∧ Thg.ok _ (bk pn (snP (upd lo i (max (lo i) low)) fun i => some (bs i)) 115)), ?_⟩
  replace hL := hL'
  clear H52 hL'
  refine wpAnyH_done (by kernel_rfl) ?_ _
  repeat (go_not_at_region 12; go_step)
  refine wp_region_held_drew (S := fun w' => Thg.ok w' (bk g6 #[.int .i64 (i : Nat)] 3) ∧ Thg.ok w' (bk g5 #[.pointer (some ⟨pn, 0, none⟩)] 75) ∧ Thg.ok w' (bk pn (snP (upd lo i (max (lo i) low)) fun i => some (bs i)) 115)) (by kernel_rfl) ((⟨LV.has hL.drew (by simp), LV.has hL.drew (by simp), LV.has hL.drew (by simp)⟩ : Thg.ok _ (bk g6 #[.int .i64 (i : Nat)] 3) ∧ Thg.ok _ (bk g5 #[.pointer (some ⟨pn, 0, none⟩)] 75) ∧ Thg.ok _ (bk pn (snP (upd lo i (max (lo i) low)) fun i => some (bs i)) 115))) (fun _ => ?_)
  replace hL := hL.drew
  refine a_op 0 H53 rfl rfl (by kernel_rfl) (by kernel_rfl) (by kernel_rfl) (fun _ _ _ h => h) (wn rfl) (fun w hL => R_ld H53 rfl rfl (ld_psn (okc hL.2.1 0))) ((⟨LV.has hL (by simp), LV.has hL (by simp), LV.has hL (by simp)⟩ : Thg.ok _ (bk g6 #[.int .i64 (i : Nat)] 3) ∧ Thg.ok _ (bk g5 #[.pointer (some ⟨pn, 0, none⟩)] 75) ∧ Thg.ok _ (bk pn (snP (upd lo i (max (lo i) low)) fun i => some (bs i)) 115))) rfl (P3 58 5 6 rfl rfl rfl) fun a54 H54 => ?_
  clear H53
  refine a_op 1 H54 rfl rfl (by kernel_rfl) (by kernel_rfl) (by kernel_rfl) (fun _ _ _ h => h) (wn rfl) (fun w hL => R_ld H54 rfl rfl (ld_inn (okc hL.1 0))) ((⟨LV.has hL (by simp), LV.has hL (by simp), LV.has hL (by simp)⟩ : Thg.ok _ (bk g6 #[.int .i64 (i : Nat)] 3) ∧ Thg.ok _ (bk g5 #[.pointer (some ⟨pn, 0, none⟩)] 75) ∧ Thg.ok _ (bk pn (snP (upd lo i (max (lo i) low)) fun i => some (bs i)) 115))) rfl (P4 59 58 5 6 rfl rfl rfl rfl) fun a55 H55 => ?_
  clear H54
  refine a_op 6 H55 rfl rfl (by kernel_rfl) (by kernel_rfl) (by kernel_rfl) (fun _ _ _ h => h) (wn rfl) (fun w hL => R_mf2 H55 rfl rfl rfl) ((⟨LV.has hL (by simp), LV.has hL (by simp), LV.has hL (by simp)⟩ : Thg.ok _ (bk g6 #[.int .i64 (i : Nat)] 3) ∧ Thg.ok _ (bk g5 #[.pointer (some ⟨pn, 0, none⟩)] 75) ∧ Thg.ok _ (bk pn (snP (upd lo i (max (lo i) low)) fun i => some (bs i)) 115))) rfl (P3 64 59 58 rfl rfl rfl) fun a56 H56 => ?_
  clear H55
  refine a_op 2 H56 rfl rfl (by kernel_rfl) (by kernel_rfl) (by kernel_rfl) (fun _ _ _ h => h) (wn rfl) (fun w hL => R_nc H56 rfl rfl) ((⟨LV.has hL (by simp), LV.has hL (by simp), LV.has hL (by simp)⟩ : Thg.ok _ (bk g6 #[.int .i64 (i : Nat)] 3) ∧ Thg.ok _ (bk g5 #[.pointer (some ⟨pn, 0, none⟩)] 75) ∧ Thg.ok _ (bk pn (snP (upd lo i (max (lo i) low)) fun i => some (bs i)) 115))) rfl (P3 60 64 59 rfl rfl rfl) fun a57 H57 => ?_
  clear H56
  refine a_op 3 H57 rfl rfl (by kernel_rfl) (by kernel_rfl) (by kernel_rfl) (fun _ _ _ h => h) (wn rfl) (fun w hL => R_fa H57 rfl rfl fs_s1) ((⟨LV.has hL (by simp), LV.has hL (by simp), LV.has hL (by simp)⟩ : Thg.ok _ (bk g6 #[.int .i64 (i : Nat)] 3) ∧ Thg.ok _ (bk g5 #[.pointer (some ⟨pn, 0, none⟩)] 75) ∧ Thg.ok _ (bk pn (snP (upd lo i (max (lo i) low)) fun i => some (bs i)) 115))) rfl (P3 61 64 59 rfl rfl rfl) fun a58 H58 => ?_
  clear H57
  refine a_op 4 H58 rfl rfl (by kernel_rfl) (by kernel_rfl) (by kernel_rfl) (fun _ _ _ h => h) (wn rfl) (fun w hL => R_ixa H58 rfl rfl rfl (ixm hi)) ((⟨LV.has hL (by simp), LV.has hL (by simp), LV.has hL (by simp)⟩ : Thg.ok _ (bk g6 #[.int .i64 (i : Nat)] 3) ∧ Thg.ok _ (bk g5 #[.pointer (some ⟨pn, 0, none⟩)] 75) ∧ Thg.ok _ (bk pn (snP (upd lo i (max (lo i) low)) fun i => some (bs i)) 115))) rfl (P2 62 64 rfl rfl) fun a59 H59 => ?_
  clear H58
  refine a_op 5 H59 rfl rfl (by kernel_rfl) (by kernel_rfl) (by kernel_rfl) (fun _ _ _ h => h) (wn rfl) (fun w hL => R_ld H59 rfl rfl (ld_mpi ((okc hL.2.2 (4 + i)).trans (snP_mp hi)))) ((⟨LV.has hL (by simp), LV.has hL (by simp), LV.has hL (by simp)⟩ : Thg.ok _ (bk g6 #[.int .i64 (i : Nat)] 3) ∧ Thg.ok _ (bk g5 #[.pointer (some ⟨pn, 0, none⟩)] 75) ∧ Thg.ok _ (bk pn (snP (upd lo i (max (lo i) low)) fun i => some (bs i)) 115))) rfl (P2 63 64 rfl rfl) fun a60 H60 => ?_
  clear H59
  refine a_all1 7 (by kernel_rfl) ?_
  refine o_call 7 H60 rfl rfl (wn rfl) (R_call2 H60 rfl rfl rfl (fun w => by simp [go_sem])) rfl ?_
  refine (noteD (X := [bk g6 #[.int .i64 (i : Nat)] 3, bk g5 #[.pointer (some ⟨pn, 0, none⟩)] 75, bk pn (snP (upd lo i (max (lo i) low)) fun i => some (bs i)) 115]) (pn := pn) (g5 := g5) (g6 := g6) (lo := (upd lo i (max (lo i) low))) (m := fun i => some (bs i)) hi (by simp) (by simp) (by simp) hL).mono ?_
  rintro e w61 ⟨rfl, hL2⟩
  clear hL
  have hL := hL2
  clear hL2
  rw [upd_at, upd_at] at hL
  refine ⟨_, rfl, fun a61 HH => ?_⟩
  have H61 := HH _ .nil
  clear HH H60
  refine ⟨(⟨LV.has hL (by simp), LV.has hL (by simp), LV.has hL (by simp)⟩ : Thg.ok _ (bk g6 #[.int .i64 (i : Nat)] 3) ∧ Thg.ok _ (bk g5 #[.pointer (some ⟨pn, 0, none⟩)] 75) ∧ Thg.ok _ (bk pn (snP (upd lo i (max (lo i) low)) fun i => some (bs i)) 115)), ?_⟩
  refine wpAnyH_done (by kernel_rfl) ?_ _
  repeat (go_not_at_region 13; go_step)
  refine wp_region_lit ?_
  refine h_op H61 rfl (wn rfl) (R_as H61 rfl rfl) rfl (P1 10 rfl) fun a62 H62 => ?_
  clear H61
  refine h_end ?_
  repeat (go_not_at_region 999; go_step)
  subst hy
  exact H62.ret1 rfl rfl ⟨rfl, hL.tail.tail⟩
end
end Go.Proofs.YtnjfjdfjheiocaaGreat
