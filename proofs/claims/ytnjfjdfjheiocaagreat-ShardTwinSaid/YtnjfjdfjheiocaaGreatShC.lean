/-
  Maps of windows are read and written; store.room, set, Put; tell.Put.
-/
import Derived.Test.YtnjfjdfjheiocaaGreatShB
set_option linter.unusedSimpArgs false
set_option linter.unusedVariables false
namespace Go.Proofs.YtnjfjdfjheiocaaGreat
open Go.RowKit
section
variable {w0 W w W' : World} {L R : List Thg} {b g ps pl : Nat} {M : Wins} {k : Win} {a : A8} {p q r : Thg}
theorem LV.other {p p' : Thg} (h : LV w0 (p :: L) W) (hb : W.heap.size ≤ W'.heap.size) (ho : W'.os = W.os) (ht : W'.tape = W.tape) (hu : W'.output = W.output) (hk : ∀ i, i < W.heap.size → i ≠ p.1 → W'.heap[i]? = W.heap[i]?) (he : p'.1 = p.1) (hp : p'.ok W') : LV w0 (p' :: L) W' :=
  h.turned ⟨ho, ht, hu, hb, fun i hi hne => hk i hi fun e => hne (by rw [e])⟩ he hp
theorem zero_agg (w : World) : (zeroValue 55).run Tryz.prog w = .ok (.agg A8.zero.arr) w := by
  rw [Tryz.zeroValue55]
  rfl
/-- What a look comes to. -/
def getW (M : Wins) (k : Win) : A8 := (lookW M k).getD A8.zero
theorem lookW_run (hk : KOk k) (h : WinAt W b M) : (Instr.lookup 149 (.map (some b)) (winV k) false).run Tryz.prog W = .ok (.agg (getW M k).arr) W := by
  obtain ⟨D, hD, h⟩ := h
  obtain ⟨v, ps, hrun, hv⟩ := World.ownsMap.lookup h winKeyed Tryz.underlying149 (zero_agg W) (zd := .held (.agg A8.zero.arr)) (zp := []) rfl (winKey hk)
  rw [hD.at_ hk] at hv
  cases hv
  rw [hrun]
  unfold getW
  cases lookW M k <;> rfl
theorem lookWok_run (hk : KOk k) (h : WinAt W b M) : (Instr.lookup 149 (.map (some b)) (winV k) true).run Tryz.prog W = .ok (.tuple #[.agg (getW M k).arr, .bool (lookW M k).isSome]) W := by
  obtain ⟨D, hD, h⟩ := h
  obtain ⟨v, ps, hrun, hv⟩ := World.ownsMap.look_ok h winKeyed Tryz.underlying149 (zero_agg W) (zd := .held (.agg A8.zero.arr)) (zp := []) rfl (winKey hk)
  rw [hD.at_ hk] at hv
  rw [hD.has hk] at hrun
  cases hv
  rw [hrun]
  unfold getW
  cases lookW M k <;> rfl
theorem WinAt.of {D : DataW Value} (hD : WD D M) {n : Nat} (h : W.ownsMap Tryz.prog 162 heldE b n D) : WinAt W b M := by
  refine ⟨D, hD, ?_⟩
  have h2 := tight h
  rw [hD.size] at h2
  exact h2
theorem storeW_run (hk : KOk k) (hn : M.length < 1000000) (h : LV w0 (mw b M :: L) W) : ∃ W', (Instr.mapUpdate 149 (.map (some b)) (winV k) (.agg a.arr)).run Tryz.prog W = .ok () W' ∧ LV w0 (mw b (putW M k a) :: L) W' := by
  obtain ⟨D, hD, hm⟩ := h.mem_win (M := M) List.mem_cons_self
  obtain ⟨W', hrun, hown, hg⟩ := World.ownsMap.update hm winKeyed Tryz.underlying149 (by unfold maxLen; omega) (winKey hk) (d := .held (.agg a.arr)) (ps := []) rfl
  exact ⟨W', hrun, h.turned hg rfl (WinAt.of (hD.put hk) hown)⟩
theorem dropW_run (hk : KOk k) (ty : TypeId) (h : LV w0 (mw b M :: L) W) : ∃ W', (Builtin.delete_ #[149, 162] ty #[.map (some b), winV k]).run Tryz.prog W = .ok (.tuple #[]) W' ∧ LV w0 (mw b (delW M k) :: L) W' := by
  obtain ⟨D, hD, hm⟩ := h.mem_win (M := M) List.mem_cons_self
  obtain ⟨W', hrun, hown, hg⟩ := World.ownsMap.drop hm winKeyed Tryz.underlying149 (winKey hk) ty
  exact ⟨W', hrun, h.turned hg.grown rfl (WinAt.of (hD.del hk) hown)⟩
theorem lenW_run (ty : TypeId) (h : WinAt W b M) : (Builtin.len_ #[149] ty #[.map (some b)]).run Tryz.prog W = .ok (.int .i64 (M.length : Nat)) W := by
  obtain ⟨D, hD, h⟩ := h
  have h2 := World.ownsMap.len h Tryz.underlying149 ty
  rw [hD.size] at h2
  exact h2
end
section
variable {w0 W w : World} {L R : List Thg} {b g ps pl : Nat} {M : Wins} {k : Win} {a a' : A8} {p q r : Thg} {t : TypeId} {A : Array Value} {P : Program} {ops : Array Oper} {Q : Exit → Act → World → Prop} {o : Oper} {ac : Act} {w' : World} {n d : Nat} {v : Value} {m m' : List (Nat × Value)}
theorem o_stS {K : Act → World → Prop} (L' : List Thg) (i : Nat) (H : Fr ac n m) (hi : ops[i]? = some o) (hd : o.dst = none) (hg : Region.wanted o (yielded ops ac.tmps) = true) (hr : (execOp ac.eval o).run P w = .ok .skip w')
    (hL : LV w0 L' w') (k : ∀ a' w', Fr a' n m → LV w0 L' w' → K a' w') : wpOp P ops Q i K ac w := by
  unfold wpOp
  simp only [hi, hg, if_true]
  refine .inl ?_
  unfold Oper.wp
  rw [hr]
  simp only [Oper.upon, hd]
  exact k _ _ H hL
theorem o_opS {K : Act → World → Prop} (L' : List Thg) (i : Nat) (H : Fr ac n m) (hi : ops[i]? = some o) (hd : o.dst = some d) (hg : Region.wanted o (yielded ops ac.tmps) = true) (hr : (execOp ac.eval o).run P w = .ok (.value v) w') (hL : LV w0 L' w') (hn : Nat.blt d n = true) (hp : Picks ((d, v) :: m) m')
    (k : ∀ a' w', Fr a' n m' → LV w0 L' w' → K a' w') : wpOp P ops Q i K ac w :=
  o_op i H hi hd hg hr hn hp fun a' H' => k a' w' H' hL
theorem bx_win : (Instr.box 162 (winV k)).run Tryz.prog w = .ok (.pointer (some ⟨w.heap.size, 0, none⟩)) (w.alloc (.cells #[.int .i64 k.1, .string k.2] 162)) := by
  unfold winV
  simp [go_sem]
theorem bx_agg : (Instr.box 55 (.agg a.arr)).run Tryz.prog w = .ok (.pointer (some ⟨w.heap.size, 0, none⟩)) (w.alloc (.cells a.arr 55)) := by
  unfold A8.arr
  simp [go_sem]
theorem al_win : (Instr.alloc 162 true (.tuple #[])).run Tryz.prog w = .ok (.pointer (some ⟨w.heap.size, 0, none⟩)) (w.alloc (.cells #[.int .i64 0, .string .empty] 162)) := by
  simp [go_sem]
  rfl
theorem al_agg : (Instr.alloc 55 true (.tuple #[])).run Tryz.prog w = .ok (.pointer (some ⟨w.heap.size, 0, none⟩)) (w.alloc (.cells A8.zero.arr 55)) := by
  simp [go_sem]
  rfl
theorem infoWin : (Tryz.prog.info? 162).map (·.size) = some 2 := by kernel_rfl
theorem infoAgg : (Tryz.prog.info? 55).map (·.size) = some 8 := by kernel_rfl
theorem ld_win (h : w.heap[g]? = some (.cells #[.int .i64 k.1, .string k.2] 162 (0, 0))) : (Instr.loadAt 162 (.pointer (some ⟨g, 0, none⟩))).run Tryz.prog w = .ok (winV k) w := by
  simp only [Instr.loadAt, Instr.sureAddr, Sem.run_bind, Sem.run_pure, Result.andThen_ok, run_loadVar_row w g 162 162 _ (0, 0) _ h Tryz.underlying162 rfl infoWin]
  rfl
theorem ld_agg (h : w.heap[g]? = some (.cells a.arr 55 (0, 0))) : (Instr.loadAt 55 (.pointer (some ⟨g, 0, none⟩))).run Tryz.prog w = .ok (.agg a.arr) w := by
  simp only [Instr.loadAt, Instr.sureAddr, Sem.run_bind, Sem.run_pure, Result.andThen_ok, run_loadVar_row w g 55 55 _ (0, 0) _ h Tryz.underlying55 rfl infoAgg]
theorem arr_one : a.arr.all (·.oneCell') = true := by
  unfold A8.arr
  simp only [List.all_toArray, List.all_cons, List.all_nil, Bool.and_true]
  rfl
theorem st_agg (h : w.heap[g]? = some (.cells a'.arr 55 (0, 0))) : (Instr.storeAt 55 (.pointer (some ⟨g, 0, none⟩)) (.agg a.arr)).run Tryz.prog w = .ok () (w.setRow g a.arr) := by
  simp only [Instr.storeAt, Instr.sureAddr, Sem.run_bind, Sem.run_pure, Result.andThen_ok, run_storeVar_row w g 55 55 _ a.arr h infoAgg rfl arr_one]
theorem st_win {k' : Win} (h : w.heap[g]? = some (.cells #[.int .i64 k'.1, .string k'.2] 162 (0, 0))) : (Instr.storeAt 162 (.pointer (some ⟨g, 0, none⟩)) (winV k)).run Tryz.prog w = .ok () (w.setRow g #[.int .i64 k.1, .string k.2]) := by
  unfold winV
  simp only [Instr.storeAt, Instr.sureAddr, Sem.run_bind, Sem.run_pure, Result.andThen_ok, run_storeVar_row w g 162 162 _ #[.int .i64 k.1, .string k.2] h infoWin rfl (by simp only [List.all_toArray, List.all_cons, List.all_nil, Bool.and_true]; rfl)]
theorem bd_win {s : Int} {b : ByteArray} : (Instr.build 162 #[(0, .int .i64 s), (1, .string b)]).run Tryz.prog w = .ok (winV (s, b)) w := by
  simp [go_sem, winV]
theorem ld_mpw (h : w.cell? ⟨g, 0, none⟩ = some (.map (some b))) : (Instr.loadAt 149 (.pointer (some ⟨g, 0, none⟩))).run Tryz.prog w = .ok (.map (some b)) w := by simp [go_sem, h]
theorem ld_lon {a : Addr} {z : Int} (h : w.cell? a = some (.int .i64 z)) : (Instr.loadAt 2 (.pointer (some a))).run Tryz.prog w = .ok (.int .i64 z) w := by simp [go_sem, h]
theorem ld_txt {a : Addr} {s : ByteArray} (h : w.cell? a = some (.string s)) : (Instr.loadAt 9 (.pointer (some a))).run Tryz.prog w = .ok (.string s) w := by simp [go_sem, h]
theorem ld_pst {a : Addr} {p : Option Addr} (h : w.cell? a = some (.pointer p)) : (Instr.loadAt 108 (.pointer (some a))).run Tryz.prog w = .ok (.pointer p) w := by simp [go_sem, h]
theorem fa_st0 : (Instr.fieldAt 151 (.pointer (some ⟨g, 0, none⟩)) 0).run Tryz.prog w = .ok (.pointer (some ⟨g, 0, none⟩)) w := by simp [go_sem]
theorem fa_ln0 : (Instr.fieldAt 111 (.pointer (some ⟨g, 0, none⟩)) 0).run Tryz.prog w = .ok (.pointer (some ⟨g, 0, none⟩)) w := by simp [go_sem]
theorem fa_ln1 : (Instr.fieldAt 111 (.pointer (some ⟨g, 0, none⟩)) 1).run Tryz.prog w = .ok (.pointer (some ⟨g, 1, none⟩)) w := by simp [go_sem]
theorem fa_win0 : (Instr.fieldAt 162 (.pointer (some ⟨g, 0, none⟩)) 0).run Tryz.prog w = .ok (.pointer (some ⟨g, 0, none⟩)) w := by simp [go_sem]
theorem fa_win1 : (Instr.fieldAt 162 (.pointer (some ⟨g, 0, none⟩)) 1).run Tryz.prog w = .ok (.pointer (some ⟨g, 1, none⟩)) w := by simp [go_sem]
theorem B_ps {A B : Operand} {a : Addr} : ((do eqGuard .eql 108 A B (.pointer (some a)) (.pointer none); binOp .eql 108 (.pointer (some a)) (.pointer none)) : Sem Value).run Tryz.prog w = .ok (.bool false) w := by simp [go_sem]
theorem B_pl {A B : Operand} {a : Addr} : ((do eqGuard .eql 73 A B (.pointer (some a)) (.pointer none); binOp .eql 73 (.pointer (some a)) (.pointer none)) : Sem Value).run Tryz.prog w = .ok (.bool false) w := by simp [go_sem]
theorem B_mpw {A B : Operand} : ((do eqGuard .eql 149 A B (.map (some b)) (.map none); binOp .eql 149 (.map (some b)) (.map none)) : Sem Value).run Tryz.prog w = .ok (.bool false) w := by
  have e := run_eql_map_nil w 149 _ _ (some b) Tryz.underlying149
  simp [eqGuard, e]
theorem B_pnn {t : TypeId} {e : TypeId} (ht : Tryz.prog.underlying t = some (.pointer e)) {A B : Operand} : ((do eqGuard .eql t A B (.pointer none) (.pointer none); binOp .eql t (.pointer none) (.pointer none)) : Sem Value).run Tryz.prog w = .ok (.bool true) w := by simp [go_sem, ht]
theorem LV.has (h : LV w0 R w) (hp : p ∈ R) : p.ok w := (h.2.2 p hp).2
theorem okc (h : Thg.ok w (bk g A t)) (i : Nat) : w.cell? ⟨g, i, none⟩ = A[i]? := cells_at h i
theorem LV.eqw {w' : World} (h : LV w0 R w) (e : w' = w) : LV w0 R w' := e ▸ h
theorem LV.dropT {s p q r : Thg} (h : LV w0 (r :: s :: p :: q :: L) w) : LV w0 (r :: s :: L) w := (h.perm ((List.perm_append_comm (l₁ := [r, s]) (l₂ := [p, q])).append_right L)).tail.tail
theorem Fr.ret0n {P : Program} {fn : Func} {Q : Ending → World → Prop} {a : Act} {n : Nat} {m : List (Nat × Value)} (H : Fr a n m) (h : fn.results = #[]) (hR : Q (.returned (.tuple #[])) w) : bodyPost P fn Q .normal a w := ⟨H.1, _, by rw [results_none h], hR⟩
theorem LV.dropS {s p q r : Thg} (h : LV w0 (r :: s :: p :: q :: L) w) : LV w0 (r :: s :: L) w := (h.perm ((List.perm_append_comm (l₁ := [r, s]) (l₂ := [p, q])).append_right L)).tail.tail
theorem LV.dropS2 {s p q r : Thg} (h : LV w0 (s :: p :: q :: r :: L) w) : LV w0 (r :: s :: L) w := (h.perm ((List.perm_append_comm (l₁ := [s, p, q]) (l₂ := [r])).append_right L)).dropT
theorem LV.s12 (h : LV w0 (p :: q :: r :: L) w) : LV w0 (q :: r :: p :: L) w := h.perm ((List.perm_append_comm (l₁ := [p]) (l₂ := [q, r])).append_right L)
theorem LV.s21 (h : LV w0 (q :: r :: p :: L) w) : LV w0 (p :: q :: r :: L) w := h.perm ((List.perm_append_comm (l₁ := [q, r]) (l₂ := [p])).append_right L)
abbrev stC (b : Nat) : Array Value := #[.map (some b)]
abbrev lnC (ps : Nat) (mark : Int) : Array Value := #[.pointer (some ⟨ps, 0, none⟩), .int .i64 mark]
/-- Is there room? -/
def roomW (M : Wins) (k : Win) : Bool := (lookW M k).isSome || decide ((M.length : Int) < 32)
set_option maxRecDepth 100000 in
theorem room_any (hk : KOk k) (h : LV w0 (bk ps (stC b) 151 :: mw b M :: L) W) : Calls Tryz.prog 100 #[.pointer (some ⟨ps, 0, none⟩), winV k] W fun e W' => e = .returned (.bool (roomW M k)) ∧ LV w0 (bk ps (stC b) 151 :: mw b M :: L) W' := by
  have hL := h
  clear h
  go_enter Tryz.func100, Tryz.ntmps100
  refine wp_fr (n := 25) (m := [(0, _), (1, _)]) ⟨rfl, rfl, by intro p hp; simp only [List.mem_cons, List.not_mem_nil, or_false] at hp; rcases hp with rfl | rfl <;> rfl⟩ fun a0 H0 => ?_
  repeat (go_not_at_region 0; go_step)
  refine wp_region_lit ?_
  refine h_opS (bk W.heap.size #[.int .i64 k.1, .string k.2] 162 :: bk ps (stC b) 151 :: mw b M :: L) H0 rfl (wn rfl) (R_box H0 rfl rfl bx_win) (hL.alloc _ _) rfl (P2 3 0 rfl rfl) fun a1 w1 H1 hL' => ?_
  replace hL := hL'
  clear H0 hL'
  refine h_op H1 rfl (wn rfl) (R_as H1 rfl rfl) rfl (P2 3 0 rfl rfl) fun a2 H2 => ?_
  clear H1
  refine h_end ?_
  obtain ⟨g3, hg⟩ : ∃ g, g = W.heap.size := ⟨_, rfl⟩
  rw [← hg] at H2 hL
  clear hg
  repeat (go_not_at_region 1; go_step)
  refine wp_region_held_drew (S := fun w' => Thg.ok w' (bk g3 #[.int .i64 k.1, .string k.2] 162) ∧ Thg.ok w' (bk ps (stC b) 151) ∧ Thg.ok w' (mw b M)) (by kernel_rfl) (⟨LV.has hL.drew (by simp), LV.has hL.drew (by simp), LV.has hL.drew (by simp)⟩ : Thg.ok _ (bk g3 #[.int .i64 k.1, .string k.2] 162) ∧ Thg.ok _ (bk ps (stC b) 151) ∧ Thg.ok _ (mw b M)) (fun _ => ?_)
  replace hL := hL.drew
  refine dag_cut (fun a' w' => Fr a' 25 [(0, .pointer (some ⟨ps, 0, none⟩)), (6, .bool (lookW M k).isSome)] ∧ LV w0 (bk ps (stC b) 151 :: mw b M :: L) w') 0 #[true, true, true, true, true, true, true, true, true, true, true, true] ?_ (fun hS => ?_)
  rotate_left
  · refine a_op 0 H2 rfl rfl (by kernel_rfl) (by kernel_rfl) (by kernel_rfl) (fun _ _ _ h => h) (wn rfl) (fun w hL => R_mv H2 rfl rfl) ((⟨LV.has hL (by simp), LV.has hL (by simp), LV.has hL (by simp)⟩ : Thg.ok _ (bk g3 #[.int .i64 k.1, .string k.2] 162) ∧ Thg.ok _ (bk ps (stC b) 151) ∧ Thg.ok _ (mw b M))) rfl (P3 8 3 0 rfl rfl rfl) fun a3 H3 => ?_
    clear H2
    refine a_op 1 H3 rfl rfl (by kernel_rfl) (by kernel_rfl) (by kernel_rfl) (fun _ _ _ h => h) (wn rfl) (fun w hL => R_nc H3 rfl rfl) ((⟨LV.has hL (by simp), LV.has hL (by simp), LV.has hL (by simp)⟩ : Thg.ok _ (bk g3 #[.int .i64 k.1, .string k.2] 162) ∧ Thg.ok _ (bk ps (stC b) 151) ∧ Thg.ok _ (mw b M))) rfl (P3 9 3 0 rfl rfl rfl) fun a4 H4 => ?_
    clear H3
    refine a_op 2 H4 rfl rfl (by kernel_rfl) (by kernel_rfl) (by kernel_rfl) (fun _ _ _ h => h) (wn rfl) (fun w hL => R_fa H4 rfl rfl fa_st0) ((⟨LV.has hL (by simp), LV.has hL (by simp), LV.has hL (by simp)⟩ : Thg.ok _ (bk g3 #[.int .i64 k.1, .string k.2] 162) ∧ Thg.ok _ (bk ps (stC b) 151) ∧ Thg.ok _ (mw b M))) rfl (P3 10 3 0 rfl rfl rfl) fun a5 H5 => ?_
    clear H4
    refine a_op 3 H5 rfl rfl (by kernel_rfl) (by kernel_rfl) (by kernel_rfl) (fun _ _ _ h => h) (wn rfl) (fun w hL => R_ld H5 rfl rfl (ld_mpw (okc hL.2.1 0))) ((⟨LV.has hL (by simp), LV.has hL (by simp), LV.has hL (by simp)⟩ : Thg.ok _ (bk g3 #[.int .i64 k.1, .string k.2] 162) ∧ Thg.ok _ (bk ps (stC b) 151) ∧ Thg.ok _ (mw b M))) rfl (P3 11 3 0 rfl rfl rfl) fun a6 H6 => ?_
    clear H5
    refine a_op 4 H6 rfl rfl (by kernel_rfl) (by kernel_rfl) (by kernel_rfl) (fun _ _ _ h => h) (wn rfl) (fun w hL => R_ld H6 rfl rfl (ld_win hL.1)) ((⟨LV.has hL (by simp), LV.has hL (by simp), LV.has hL (by simp)⟩ : Thg.ok _ (bk g3 #[.int .i64 k.1, .string k.2] 162) ∧ Thg.ok _ (bk ps (stC b) 151) ∧ Thg.ok _ (mw b M))) rfl (P3 12 11 0 rfl rfl rfl) fun a7 H7 => ?_
    clear H6
    refine a_op 5 H7 rfl rfl (by kernel_rfl) (by kernel_rfl) (by kernel_rfl) (fun _ _ _ h => h) (wn rfl) (fun w hL => R_lk H7 rfl rfl rfl (lookWok_run hk hL.2.2)) ((⟨LV.has hL (by simp), LV.has hL (by simp), LV.has hL (by simp)⟩ : Thg.ok _ (bk g3 #[.int .i64 k.1, .string k.2] 162) ∧ Thg.ok _ (bk ps (stC b) 151) ∧ Thg.ok _ (mw b M))) rfl (P2 13 0 rfl rfl) fun a8 H8 => ?_
    clear H7
    refine a_op 6 H8 rfl rfl (by kernel_rfl) (by kernel_rfl) (by kernel_rfl) (fun _ _ _ h => h) (wn rfl) (fun w hL => R_mv H8 rfl rfl) ((⟨LV.has hL (by simp), LV.has hL (by simp), LV.has hL (by simp)⟩ : Thg.ok _ (bk g3 #[.int .i64 k.1, .string k.2] 162) ∧ Thg.ok _ (bk ps (stC b) 151) ∧ Thg.ok _ (mw b M))) rfl (P2 7 0 rfl rfl) fun a9 H9 => ?_
    clear H8
    refine a_op 7 H9 rfl rfl (by kernel_rfl) (by kernel_rfl) (by kernel_rfl) (fun _ _ _ h => h) (wn rfl) (fun w hL => R_ext H9 rfl rfl rfl) ((⟨LV.has hL (by simp), LV.has hL (by simp), LV.has hL (by simp)⟩ : Thg.ok _ (bk g3 #[.int .i64 k.1, .string k.2] 162) ∧ Thg.ok _ (bk ps (stC b) 151) ∧ Thg.ok _ (mw b M))) rfl (P3 14 7 0 rfl rfl rfl) fun a10 H10 => ?_
    clear H9
    refine a_op 8 H10 rfl rfl (by kernel_rfl) (by kernel_rfl) (by kernel_rfl) (fun _ _ _ h => h) (wn rfl) (fun w hL => R_ext H10 rfl rfl rfl) ((⟨LV.has hL (by simp), LV.has hL (by simp), LV.has hL (by simp)⟩ : Thg.ok _ (bk g3 #[.int .i64 k.1, .string k.2] 162) ∧ Thg.ok _ (bk ps (stC b) 151) ∧ Thg.ok _ (mw b M))) rfl (P3 15 14 0 rfl rfl rfl) fun a11 H11 => ?_
    clear H10
    refine a_all1 9 (by kernel_rfl) ?_
    refine o_opS (bk _ A8.zero.arr 55 :: bk g3 #[.int .i64 k.1, .string k.2] 162 :: bk ps (stC b) 151 :: mw b M :: L) 9 H11 rfl rfl (wn rfl) (R_alloc rfl al_agg) (hL.alloc _ _) rfl (P4 5 15 14 0 rfl rfl rfl rfl) fun a12 w12 H12 hL' => ⟨(⟨LV.has hL' (by simp), LV.has hL' (by simp), LV.has hL' (by simp)⟩ : Thg.ok _ (bk g3 #[.int .i64 k.1, .string k.2] 162) ∧ Thg.ok _ (bk ps (stC b) 151) ∧ Thg.ok _ (mw b M)), ?_⟩
    replace hL := hL'
    clear H11 hL'
    refine a_all1 10 (by kernel_rfl) ?_
    refine o_stS (bk _ (getW M k).arr 55 :: bk g3 #[.int .i64 k.1, .string k.2] 162 :: bk ps (stC b) 151 :: mw b M :: L) 10 H12 rfl rfl (wn rfl) (R_st H12 rfl rfl rfl (st_agg hL.at_)) (hL.row _) fun a13 w13 H13 hL' => ⟨(⟨LV.has hL' (by simp), LV.has hL' (by simp), LV.has hL' (by simp)⟩ : Thg.ok _ (bk g3 #[.int .i64 k.1, .string k.2] 162) ∧ Thg.ok _ (bk ps (stC b) 151) ∧ Thg.ok _ (mw b M)), ?_⟩
    replace hL := hL'
    clear H12 hL'
    refine a_op 11 H13 rfl rfl (by kernel_rfl) (by kernel_rfl) (by kernel_rfl) (fun _ _ _ h => h) (wn rfl) (fun w hL => R_as H13 rfl rfl) ((⟨LV.has hL (by simp), LV.has hL (by simp), LV.has hL (by simp)⟩ : Thg.ok _ (bk g3 #[.int .i64 k.1, .string k.2] 162) ∧ Thg.ok _ (bk ps (stC b) 151) ∧ Thg.ok _ (mw b M))) rfl (P2 6 0 rfl rfl) fun a14 H14 => ?_
    clear H13
    exact dag_use hS (by kernel_rfl) (by kernel_rfl) ⟨H14.pick _ (P2 0 6 rfl rfl), hL.tail.tail⟩
  clear hL H2
  rintro a0 wx ⟨H0, hL⟩
  refine wpAnyH_done (by kernel_rfl) ?_ _
  repeat (go_not_at_region 2; go_step)
  refine wp_region_lit ?_
  refine h_op H0 rfl (wn rfl) (R_mv H0 rfl rfl) rfl (P2 16 0 rfl rfl) fun a1 H1 => ?_
  clear H0
  refine h_op H1 rfl (wn rfl) (R_mv H1 rfl rfl) rfl (P2 17 0 rfl rfl) fun a2 H2 => ?_
  clear H1
  replace H2 := H2.pick [(0, .pointer (some ⟨ps, 0, none⟩)), (17, .bool ((lookW M k).isSome))] (P2 0 17 rfl rfl)
  generalize ht0 : ((lookW M k).isSome) = t0 at H2
  refine wpList_cut [_, _, _, _, _, _, _] (R := fun a' w' => Fr a' 25 [(0, .pointer (some ⟨ps, 0, none⟩)), (24, .bool (t0 || (decide ((M.length : Int) < 32))))] ∧ LV w0 (bk ps (stC b) 151 :: mw b M :: L) w') ?_ ?_
  · cases t0
    · refine h_op H2 rfl (H2.wt rfl rfl rfl) (R_mv H2 rfl rfl) rfl (P3 18 0 17 rfl rfl rfl) fun a3 H3 => ?_
      clear H2
      refine h_op H3 rfl (H3.wt rfl rfl rfl) (R_nc H3 rfl rfl) rfl (P3 19 0 17 rfl rfl rfl) fun a4 H4 => ?_
      clear H3
      refine h_op H4 rfl (H4.wt rfl rfl rfl) (R_fa H4 rfl rfl fa_st0) rfl (P3 20 0 17 rfl rfl rfl) fun a5 H5 => ?_
      clear H4
      refine h_op H5 rfl (H5.wt rfl rfl rfl) (R_ld H5 rfl rfl (ld_mpw (hL.cell 0))) rfl (P3 21 0 17 rfl rfl rfl) fun a6 H6 => ?_
      clear H5
      refine h_op H6 rfl (H6.wt rfl rfl rfl) (R_lenM H6 rfl rfl (lenW_run _ (hL.tail.mem_win List.mem_cons_self))) rfl (P3 22 0 17 rfl rfl rfl) fun a7 H7 => ?_
      clear H6
      refine h_op H7 rfl (H7.wt rfl rfl rfl) (R_bin H7 rfl rfl rfl (B_lt Tryz.underlying3 _ _)) rfl (P3 23 0 17 rfl rfl rfl) fun a8 H8 => ?_
      clear H7
      refine h_op H8 rfl (wn rfl) (R_pick H8 rfl rfl rfl) rfl (P2 24 0 rfl rfl) fun a9 H9 => ?_
      clear H8
      exact h_end ⟨H9.pick _ (P2 0 24 rfl rfl), hL⟩
    · refine h_skip H2 rfl (H2.wf rfl rfl rfl) rfl (P3 18 0 17 rfl rfl rfl) fun a3 H3 => ?_
      clear H2
      refine h_skip H3 rfl (H3.wf rfl rfl rfl) rfl (P3 19 0 17 rfl rfl rfl) fun a4 H4 => ?_
      clear H3
      refine h_skip H4 rfl (H4.wf rfl rfl rfl) rfl (P3 20 0 17 rfl rfl rfl) fun a5 H5 => ?_
      clear H4
      refine h_skip H5 rfl (H5.wf rfl rfl rfl) rfl (P3 21 0 17 rfl rfl rfl) fun a6 H6 => ?_
      clear H5
      refine h_skip H6 rfl (H6.wf rfl rfl rfl) rfl (P3 22 0 17 rfl rfl rfl) fun a7 H7 => ?_
      clear H6
      refine h_skip H7 rfl (H7.wf rfl rfl rfl) rfl (P3 23 0 17 rfl rfl rfl) fun a8 H8 => ?_
      clear H7
      refine h_op H8 rfl (wn rfl) (R_pick H8 rfl rfl rfl) rfl (P2 24 0 rfl rfl) fun a9 H9 => ?_
      clear H8
      exact h_end ⟨H9.pick _ (P2 0 24 rfl rfl), hL⟩
  clear hL H2
  rintro a10 wx ⟨H10, hL⟩
  generalize ht1 : (t0 || (decide ((M.length : Int) < 32))) = t1 at H10
  refine h_op H10 rfl (wn rfl) (R_as H10 rfl rfl) rfl (P1 4 rfl) fun a11 H11 => ?_
  clear H10
  refine h_end ?_
  repeat (go_not_at_region 999; go_step)
  exact H11.ret1 rfl rfl ⟨by rw [← ht1, ← ht0]; rfl, hL⟩
theorem LV.frontW {p q r s : Thg} (h : LV w0 (p :: q :: r :: s :: L) W) : LV w0 (s :: p :: q :: r :: L) W := h.perm ((List.perm_append_comm (l₁ := [p, q, r]) (l₂ := [s])).append_right L)
set_option maxRecDepth 100000 in
theorem set_any (hk : KOk k) (hn : M.length < 1000000) (h : LV w0 (bk ps (stC b) 151 :: mw b M :: L) W) : Calls Tryz.prog 101 #[.pointer (some ⟨ps, 0, none⟩), winV k, .agg a.arr] W fun e W' => e = .returned (.tuple #[]) ∧ LV w0 (bk ps (stC b) 151 :: mw b (putW M k a) :: L) W' := by
  have hL := h
  clear h
  go_enter Tryz.func101, Tryz.ntmps101
  refine wp_fr (n := 21) (m := [(0, _), (1, _), (2, _)]) ⟨rfl, rfl, by intro p hp; simp only [List.mem_cons, List.not_mem_nil, or_false] at hp; rcases hp with rfl | rfl | rfl <;> rfl⟩ fun a0 H0 => ?_
  repeat (go_not_at_region 0; go_step)
  refine wp_region_lit ?_
  refine h_opS (bk W.heap.size #[.int .i64 k.1, .string k.2] 162 :: bk ps (stC b) 151 :: mw b M :: L) H0 rfl (wn rfl) (R_box H0 rfl rfl bx_win) (hL.alloc _ _) rfl (P3 4 0 2 rfl rfl rfl) fun a1 w1 H1 hL' => ?_
  replace hL := hL'
  clear H0 hL'
  refine h_opS (bk w1.heap.size a.arr 55 :: bk W.heap.size #[.int .i64 k.1, .string k.2] 162 :: bk ps (stC b) 151 :: mw b M :: L) H1 rfl (wn rfl) (R_box H1 rfl rfl bx_agg) (hL.alloc _ _) rfl (P3 5 4 0 rfl rfl rfl) fun a2 w2 H2 hL' => ?_
  replace hL := hL'
  clear H1 hL'
  refine h_end ?_
  obtain ⟨g4, hg4⟩ : ∃ g, g = W.heap.size := ⟨_, rfl⟩
  obtain ⟨g5, hg5⟩ : ∃ g, g = w1.heap.size := ⟨_, rfl⟩
  rw [← hg4, ← hg5] at H2 hL
  clear hg4 hg5
  repeat (go_not_at_region 1; go_step)
  refine wp_region_lit ?_
  refine h_op H2 rfl (wn rfl) (R_mv H2 rfl rfl) rfl (P4 6 5 4 0 rfl rfl rfl rfl) fun a3 H3 => ?_
  clear H2
  refine h_op H3 rfl (wn rfl) (R_nc H3 rfl rfl) rfl (P4 7 5 4 0 rfl rfl rfl rfl) fun a4 H4 => ?_
  clear H3
  refine h_op H4 rfl (wn rfl) (R_fa H4 rfl rfl fa_st0) rfl (P4 8 5 4 0 rfl rfl rfl rfl) fun a5 H5 => ?_
  clear H4
  refine h_op H5 rfl (wn rfl) (R_ld H5 rfl rfl (ld_mpw (hL.tail.tail.cell 0))) rfl (P4 9 5 4 0 rfl rfl rfl rfl) fun a6 H6 => ?_
  clear H5
  refine h_op H6 rfl (wn rfl) (R_bin H6 rfl rfl rfl B_mpw) rfl (P4 10 5 4 0 rfl rfl rfl rfl) fun a7 H7 => ?_
  clear H6
  refine h_end ?_
  repeat (go_not_at_region 3; go_step)
  refine wp_cond_false (H7.ev (x := .tmp 10) rfl) ?_
  repeat (go_not_at_region 3; go_step)
  refine wp_region_held_drew (S := fun w' => Thg.ok w' (bk g5 a.arr 55) ∧ Thg.ok w' (bk g4 #[.int .i64 k.1, .string k.2] 162) ∧ Thg.ok w' (bk ps (stC b) 151)) (by kernel_rfl) ((⟨LV.has hL.drew (by simp), LV.has hL.drew (by simp), LV.has hL.drew (by simp)⟩ : Thg.ok _ (bk g5 a.arr 55) ∧ Thg.ok _ (bk g4 #[.int .i64 k.1, .string k.2] 162) ∧ Thg.ok _ (bk ps (stC b) 151))) (fun _ => ?_)
  replace hL := hL.drew
  refine a_op 0 H7 rfl rfl (by kernel_rfl) (by kernel_rfl) (by kernel_rfl) (fun _ _ _ h => h) (wn rfl) (fun w hL => R_mv H7 rfl rfl) ((⟨LV.has hL (by simp), LV.has hL (by simp), LV.has hL (by simp)⟩ : Thg.ok _ (bk g5 a.arr 55) ∧ Thg.ok _ (bk g4 #[.int .i64 k.1, .string k.2] 162) ∧ Thg.ok _ (bk ps (stC b) 151))) rfl (P3 15 5 4 rfl rfl rfl) fun a8 H8 => ?_
  clear H7
  refine a_op 1 H8 rfl rfl (by kernel_rfl) (by kernel_rfl) (by kernel_rfl) (fun _ _ _ h => h) (wn rfl) (fun w hL => R_nc H8 rfl rfl) ((⟨LV.has hL (by simp), LV.has hL (by simp), LV.has hL (by simp)⟩ : Thg.ok _ (bk g5 a.arr 55) ∧ Thg.ok _ (bk g4 #[.int .i64 k.1, .string k.2] 162) ∧ Thg.ok _ (bk ps (stC b) 151))) rfl (P3 16 5 4 rfl rfl rfl) fun a9 H9 => ?_
  clear H8
  refine a_op 2 H9 rfl rfl (by kernel_rfl) (by kernel_rfl) (by kernel_rfl) (fun _ _ _ h => h) (wn rfl) (fun w hL => R_fa H9 rfl rfl fa_st0) ((⟨LV.has hL (by simp), LV.has hL (by simp), LV.has hL (by simp)⟩ : Thg.ok _ (bk g5 a.arr 55) ∧ Thg.ok _ (bk g4 #[.int .i64 k.1, .string k.2] 162) ∧ Thg.ok _ (bk ps (stC b) 151))) rfl (P3 17 5 4 rfl rfl rfl) fun a10 H10 => ?_
  clear H9
  refine a_op 3 H10 rfl rfl (by kernel_rfl) (by kernel_rfl) (by kernel_rfl) (fun _ _ _ h => h) (wn rfl) (fun w hL => R_ld H10 rfl rfl (ld_mpw (okc hL.2.2 0))) ((⟨LV.has hL (by simp), LV.has hL (by simp), LV.has hL (by simp)⟩ : Thg.ok _ (bk g5 a.arr 55) ∧ Thg.ok _ (bk g4 #[.int .i64 k.1, .string k.2] 162) ∧ Thg.ok _ (bk ps (stC b) 151))) rfl (P3 18 5 4 rfl rfl rfl) fun a11 H11 => ?_
  clear H10
  refine a_op 4 H11 rfl rfl (by kernel_rfl) (by kernel_rfl) (by kernel_rfl) (fun _ _ _ h => h) (wn rfl) (fun w hL => R_ld H11 rfl rfl (ld_win hL.2.1)) ((⟨LV.has hL (by simp), LV.has hL (by simp), LV.has hL (by simp)⟩ : Thg.ok _ (bk g5 a.arr 55) ∧ Thg.ok _ (bk g4 #[.int .i64 k.1, .string k.2] 162) ∧ Thg.ok _ (bk ps (stC b) 151))) rfl (P3 19 18 5 rfl rfl rfl) fun a12 H12 => ?_
  clear H11
  refine a_op 5 H12 rfl rfl (by kernel_rfl) (by kernel_rfl) (by kernel_rfl) (fun _ _ _ h => h) (wn rfl) (fun w hL => R_ld H12 rfl rfl (ld_agg hL.1)) ((⟨LV.has hL (by simp), LV.has hL (by simp), LV.has hL (by simp)⟩ : Thg.ok _ (bk g5 a.arr 55) ∧ Thg.ok _ (bk g4 #[.int .i64 k.1, .string k.2] 162) ∧ Thg.ok _ (bk ps (stC b) 151))) rfl (P3 20 19 18 rfl rfl rfl) fun a13 H13 => ?_
  clear H12
  refine a_all1 6 (by kernel_rfl) ?_
  obtain ⟨Wn, hrun, hLn⟩ := storeW_run (a := a) hk hn hL.frontW
  refine o_stS (mw b (putW M k a) :: bk g5 a.arr 55 :: bk g4 #[.int .i64 k.1, .string k.2] 162 :: bk ps (stC b) 151 :: L) 6 H13 rfl rfl (wn rfl) (R_mu H13 rfl rfl rfl rfl hrun) (hLn) fun a14 w14 H14 hL' => ⟨(⟨LV.has hL' (by simp), LV.has hL' (by simp), LV.has hL' (by simp)⟩ : Thg.ok _ (bk g5 a.arr 55) ∧ Thg.ok _ (bk g4 #[.int .i64 k.1, .string k.2] 162) ∧ Thg.ok _ (bk ps (stC b) 151)), ?_⟩
  replace hL := hL'
  clear H13 hL'
  refine wpAnyH_done (by kernel_rfl) ?_ _
  repeat (go_not_at_region 999; go_step)
  exact H14.ret0n rfl ⟨rfl, hL.dropS2⟩
/-- What a value comes to. -/
def putS (M : Wins) (key : ByteArray) (at_ v : Int) : Wins × Int :=
  if !keyB key || !rightI at_ then (M, 1) else if !roomW M (startI at_, key) then (M, 6) else (putW M (startI at_, key) (put8 (getW M (startI at_, key)) v), 0)
theorem startI_ok {at_ : Int} {key : ByteArray} (h : key.size ≤ maxLen) : KOk (startI at_, key) := by
  refine ⟨?_, ?_, h⟩
  all_goals
    unfold startI
    split
    · rename_i hr
      have := rightI_le hr
      have h1 := Int.tmod_lt_of_pos at_ (show (0 : Int) < 10 by decide)
      have h2 := Int.tmod_nonneg 10 this.1
      simp only
      omega
    · simp only
      omega
set_option maxRecDepth 100000 in
theorem sput_any {key : ByteArray} {at_ v : Int} (hks : key.size ≤ maxLen) (hn : M.length < 1000000) (h : LV w0 (bk ps (stC b) 151 :: mw b M :: L) W) : Calls Tryz.prog 91 #[.pointer (some ⟨ps, 0, none⟩), .string key, .int .i64 at_, .int .i64 v] W fun e W' => e = .returned (.int .i64 (putS M key at_ v).2) ∧ LV w0 (bk ps (stC b) 151 :: mw b (putS M key at_ v).1 :: L) W' := by
  have hL := h
  clear h
  have hk := startI_ok (at_ := at_) hks
  obtain ⟨y, hy⟩ : ∃ y, y = putS M key at_ v := ⟨_, rfl⟩
  rw [← hy]
  unfold putS at hy
  go_enter Tryz.func91, Tryz.ntmps91
  refine wp_fr (n := 42) (m := [(0, _), (1, _), (2, _), (3, _)]) ⟨rfl, rfl, by intro p hp; simp only [List.mem_cons, List.not_mem_nil, or_false] at hp; rcases hp with rfl | rfl | rfl | rfl <;> rfl⟩ fun a0 H0 => ?_
  repeat (go_not_at_region 0; go_step)
  refine wp_region_lit ?_
  refine h_op H0 rfl (wn rfl) (R_as H0 rfl rfl) rfl (P4 0 1 2 3 rfl rfl rfl rfl) fun a1 H1 => ?_
  clear H0
  refine h_end ?_
  repeat (go_not_at_region 1; go_step)
  refine wp_region_lit ?_
  refine h_op H1 rfl (wn rfl) (R_mv H1 rfl rfl) rfl (P5 10 0 1 2 3 rfl rfl rfl rfl rfl) fun a2 H2 => ?_
  clear H1
  refine h_call H2 rfl (wn rfl) (R_call1 H2 rfl rfl (fun w => by simp [go_sem])) rfl ?_
  refine (startI_any at_ _).mono ?_
  rintro e w3 ⟨rfl, hw⟩
  replace hL := hL.eqw hw
  clear hw
  refine ⟨_, rfl, fun a3 HH => ?_⟩
  have H3 := HH _ (P5 11 0 1 2 3 rfl rfl rfl rfl rfl)
  clear HH H2
  refine h_op H3 rfl (wn rfl) (R_mv H3 rfl rfl) rfl (P6 12 11 0 1 2 3 rfl rfl rfl rfl rfl rfl) fun a4 H4 => ?_
  clear H3
  refine h_op H4 rfl (wn rfl) (R_bd2 H4 rfl rfl rfl bd_win) rfl (P5 13 0 1 2 3 rfl rfl rfl rfl rfl) fun a5 H5 => ?_
  clear H4
  refine h_opS (bk w3.heap.size #[.int .i64 0, .string .empty] 162 :: bk ps (stC b) 151 :: mw b M :: L) H5 rfl (wn rfl) (R_alloc rfl al_win) (hL.alloc _ _) rfl (P6 9 13 0 1 2 3 rfl rfl rfl rfl rfl rfl) fun a6 w6 H6 hL' => ?_
  replace hL := hL'
  clear H5 hL'
  refine h_stS (bk w3.heap.size #[.int .i64 (startI at_), .string key] 162 :: bk ps (stC b) 151 :: mw b M :: L) H6 rfl (wn rfl) (R_st H6 rfl rfl rfl (st_win (k' := (0, .empty)) hL.at_)) (hL.row _) fun a7 w7 H7 hL' => ?_
  replace hL := hL'
  clear H6 hL'
  refine h_end ?_
  obtain ⟨g9, hg9⟩ : ∃ g, g = w3.heap.size := ⟨_, rfl⟩
  rw [← hg9] at H7 hL
  clear hg9
  repeat (go_not_at_region 2; go_step)
  refine wp_region_lit ?_
  refine h_op H7 rfl (wn rfl) (R_mv H7 rfl rfl) rfl (P6 15 9 0 1 2 3 rfl rfl rfl rfl rfl rfl) fun a8 H8 => ?_
  clear H7
  refine h_op H8 rfl (wn rfl) (R_bin H8 rfl rfl rfl B_ps) rfl (P6 16 9 0 1 2 3 rfl rfl rfl rfl rfl rfl) fun a9 H9 => ?_
  clear H8
  refine h_op H9 rfl (wn rfl) (R_as H9 rfl rfl) rfl (P6 14 9 0 1 2 3 rfl rfl rfl rfl rfl rfl) fun a10 H10 => ?_
  clear H9
  refine h_end ?_
  repeat (go_not_at_region 4; go_step)
  refine wp_cond_false (H10.ev (x := .tmp 14) rfl) ?_
  repeat (go_not_at_region 4; go_step)
  refine wp_region_lit ?_
  refine h_op H10 rfl (wn rfl) (R_mv H10 rfl rfl) rfl (P6 18 9 0 1 2 3 rfl rfl rfl rfl rfl rfl) fun a11 H11 => ?_
  clear H10
  refine h_call H11 rfl (wn rfl) (R_call1 H11 rfl rfl (fun w => by simp [go_sem])) rfl ?_
  refine (keyB_any key _).mono ?_
  rintro e w12 ⟨rfl, hw⟩
  replace hL := hL.eqw hw
  clear hw
  refine ⟨_, rfl, fun a12 HH => ?_⟩
  have H12 := HH _ (P6 19 9 0 1 2 3 rfl rfl rfl rfl rfl rfl)
  clear HH H11
  refine h_op H12 rfl (wn rfl) (R_not H12 rfl rfl) rfl (P6 20 9 0 1 2 3 rfl rfl rfl rfl rfl rfl) fun a13 H13 => ?_
  clear H12
  refine h_op H13 rfl (wn rfl) (R_mv H13 rfl rfl) rfl (P6 21 9 0 1 2 3 rfl rfl rfl rfl rfl rfl) fun a14 H14 => ?_
  clear H13
  replace H14 := H14.pick [(0, .pointer (some ⟨ps, 0, none⟩)), (1, .string key), (2, .int .i64 at_), (3, .int .i64 v), (9, .pointer (some ⟨g9, 0, none⟩)), (21, .bool (!(keyB key)))] (P6 0 1 2 3 9 21 rfl rfl rfl rfl rfl rfl)
  generalize ht0 : (!(keyB key)) = t0 at H14
  refine wpList_cut [_, _, _, _] (R := fun a' w' => Fr a' 42 [(0, .pointer (some ⟨ps, 0, none⟩)), (1, .string key), (2, .int .i64 at_), (3, .int .i64 v), (9, .pointer (some ⟨g9, 0, none⟩)), (25, .bool (t0 || (!(rightI at_))))] ∧ LV w0 (bk g9 #[.int .i64 (startI at_), .string key] 162 :: bk ps (stC b) 151 :: mw b M :: L) w') ?_ ?_
  · cases t0
    · refine h_op H14 rfl (H14.wt rfl rfl rfl) (R_mv H14 rfl rfl) rfl (P7 22 0 1 2 3 9 21 rfl rfl rfl rfl rfl rfl rfl) fun a15 H15 => ?_
      clear H14
      refine h_call H15 rfl (H15.wt rfl rfl rfl) (R_call1 H15 rfl rfl (fun w => by simp [go_sem])) rfl ?_
      refine (rightI_any at_ _).mono ?_
      rintro e w16 ⟨rfl, hw⟩
      replace hL := hL.eqw hw
      clear hw
      refine ⟨_, rfl, fun a16 HH => ?_⟩
      have H16 := HH _ (P7 23 0 1 2 3 9 21 rfl rfl rfl rfl rfl rfl rfl)
      clear HH H15
      refine h_op H16 rfl (H16.wt rfl rfl rfl) (R_not H16 rfl rfl) rfl (P7 24 0 1 2 3 9 21 rfl rfl rfl rfl rfl rfl rfl) fun a17 H17 => ?_
      clear H16
      refine h_op H17 rfl (wn rfl) (R_pick H17 rfl rfl rfl) rfl (P6 25 0 1 2 3 9 rfl rfl rfl rfl rfl rfl) fun a18 H18 => ?_
      clear H17
      exact h_end ⟨H18.pick _ (P6 0 1 2 3 9 25 rfl rfl rfl rfl rfl rfl), hL⟩
    · refine h_skip H14 rfl (H14.wf rfl rfl rfl) rfl (P7 22 0 1 2 3 9 21 rfl rfl rfl rfl rfl rfl rfl) fun a15 H15 => ?_
      clear H14
      refine h_skip H15 rfl (H15.wf rfl rfl rfl) rfl (P7 23 0 1 2 3 9 21 rfl rfl rfl rfl rfl rfl rfl) fun a16 H16 => ?_
      clear H15
      refine h_skip H16 rfl (H16.wf rfl rfl rfl) rfl (P7 24 0 1 2 3 9 21 rfl rfl rfl rfl rfl rfl rfl) fun a17 H17 => ?_
      clear H16
      refine h_op H17 rfl (wn rfl) (R_pick H17 rfl rfl rfl) rfl (P6 25 0 1 2 3 9 rfl rfl rfl rfl rfl rfl) fun a18 H18 => ?_
      clear H17
      exact h_end ⟨H18.pick _ (P6 0 1 2 3 9 25 rfl rfl rfl rfl rfl rfl), hL⟩
  clear hL H14
  rintro a19 wx ⟨H19, hL⟩
  generalize ht1 : (t0 || (!(rightI at_))) = t1 at H19
  rw [ht0, ht1] at hy
  refine h_op H19 rfl (wn rfl) (R_as H19 rfl rfl) rfl (P6 17 0 1 2 3 9 rfl rfl rfl rfl rfl rfl) fun a20 H20 => ?_
  clear H19
  refine h_end ?_
  cases t1
  rotate_left
  · rw [if_pos rfl] at hy
    repeat (go_not_at_region 5; go_step)
    refine wp_cond_true (H20.ev (x := .tmp 17) rfl) ?_
    repeat (go_not_at_region 5; go_step)
    refine wp_region_lit ?_
    refine h_op H20 rfl (wn rfl) (R_as H20 rfl rfl) rfl (P1 8 rfl) fun a21 H21 => ?_
    clear H20
    refine h_end ?_
    repeat (go_not_at_region 999; go_step)
    subst hy
    exact H21.ret1 rfl rfl ⟨rfl, hL.tail⟩
  rw [if_neg (by decide)] at hy
  repeat (go_not_at_region 6; go_step)
  refine wp_cond_false (H20.ev (x := .tmp 17) rfl) ?_
  repeat (go_not_at_region 6; go_step)
  refine wp_region_lit ?_
  refine h_op H20 rfl (wn rfl) (R_mv H20 rfl rfl) rfl (P4 27 0 3 9 rfl rfl rfl rfl) fun a21 H21 => ?_
  clear H20
  refine h_op H21 rfl (wn rfl) (R_ld H21 rfl rfl (ld_win (k := (startI at_, key)) hL.at_)) rfl (P5 28 27 0 3 9 rfl rfl rfl rfl rfl) fun a22 H22 => ?_
  clear H21
  refine h_call H22 rfl (wn rfl) (R_call2 H22 rfl rfl rfl (fun w => by simp [go_sem])) rfl ?_
  refine (room_any hk hL.s12).mono ?_
  rintro e w23 ⟨rfl, hL2⟩
  replace hL := hL2.s21
  clear hL2
  refine ⟨_, rfl, fun a23 HH => ?_⟩
  have H23 := HH _ (P4 29 0 3 9 rfl rfl rfl rfl)
  clear HH H22
  refine h_op H23 rfl (wn rfl) (R_not H23 rfl rfl) rfl (P4 30 0 3 9 rfl rfl rfl rfl) fun a24 H24 => ?_
  clear H23
  refine h_op H24 rfl (wn rfl) (R_as H24 rfl rfl) rfl (P4 26 0 3 9 rfl rfl rfl rfl) fun a25 H25 => ?_
  clear H24
  refine h_end ?_
  cases hr : roomW M (startI at_, key)
  · rw [hr] at hy
    rw [hr] at H25
    simp only [Bool.not_false, if_true] at hy
    repeat (go_not_at_region 7; go_step)
    refine wp_cond_true (H25.ev (x := .tmp 26) rfl) ?_
    repeat (go_not_at_region 7; go_step)
    refine wp_region_lit ?_
    refine h_op H25 rfl (wn rfl) (R_as H25 rfl rfl) rfl (P1 8 rfl) fun a26 H26 => ?_
    clear H25
    refine h_end ?_
    repeat (go_not_at_region 999; go_step)
    subst hy
    exact H26.ret1 rfl rfl ⟨rfl, hL.tail⟩
  rw [hr] at hy
  rw [hr] at H25
  simp only [Bool.not_true, Bool.false_eq_true, if_false] at hy
  repeat (go_not_at_region 8; go_step)
  refine wp_cond_false (H25.ev (x := .tmp 26) rfl) ?_
  repeat (go_not_at_region 8; go_step)
  refine wp_region_held_drew (S := fun w' => Thg.ok w' (bk g9 #[.int .i64 (startI at_), .string key] 162) ∧ Thg.ok w' (bk ps (stC b) 151)) (by kernel_rfl) ((⟨LV.has hL.drew (by simp), LV.has hL.drew (by simp)⟩ : Thg.ok _ (bk g9 #[.int .i64 (startI at_), .string key] 162) ∧ Thg.ok _ (bk ps (stC b) 151))) (fun _ => ?_)
  replace hL := hL.drew
  refine a_op 0 H25 rfl rfl (by kernel_rfl) (by kernel_rfl) (by kernel_rfl) (fun _ _ _ h => h) (wn rfl) (fun w hL => R_mv H25 rfl rfl) ((⟨LV.has hL (by simp), LV.has hL (by simp)⟩ : Thg.ok _ (bk g9 #[.int .i64 (startI at_), .string key] 162) ∧ Thg.ok _ (bk ps (stC b) 151))) rfl (P4 31 0 3 9 rfl rfl rfl rfl) fun a26 H26 => ?_
  clear H25
  refine a_op 1 H26 rfl rfl (by kernel_rfl) (by kernel_rfl) (by kernel_rfl) (fun _ _ _ h => h) (wn rfl) (fun w hL => R_ld H26 rfl rfl (ld_win (k := (startI at_, key)) hL.1)) ((⟨LV.has hL (by simp), LV.has hL (by simp)⟩ : Thg.ok _ (bk g9 #[.int .i64 (startI at_), .string key] 162) ∧ Thg.ok _ (bk ps (stC b) 151))) rfl (P5 32 31 0 3 9 rfl rfl rfl rfl rfl) fun a27 H27 => ?_
  clear H26
  refine a_op 2 H27 rfl rfl (by kernel_rfl) (by kernel_rfl) (by kernel_rfl) (fun _ _ _ h => h) (wn rfl) (fun w hL => R_mv H27 rfl rfl) ((⟨LV.has hL (by simp), LV.has hL (by simp)⟩ : Thg.ok _ (bk g9 #[.int .i64 (startI at_), .string key] 162) ∧ Thg.ok _ (bk ps (stC b) 151))) rfl (P5 33 32 31 3 9 rfl rfl rfl rfl rfl) fun a28 H28 => ?_
  clear H27
  refine a_op 6 H28 rfl rfl (by kernel_rfl) (by kernel_rfl) (by kernel_rfl) (fun _ _ _ h => h) (wn rfl) (fun w hL => R_ld H28 rfl rfl (ld_win (k := (startI at_, key)) hL.1)) ((⟨LV.has hL (by simp), LV.has hL (by simp)⟩ : Thg.ok _ (bk g9 #[.int .i64 (startI at_), .string key] 162) ∧ Thg.ok _ (bk ps (stC b) 151))) rfl (P5 37 33 32 31 3 rfl rfl rfl rfl rfl) fun a29 H29 => ?_
  clear H28
  refine a_op 8 H29 rfl rfl (by kernel_rfl) (by kernel_rfl) (by kernel_rfl) (fun _ _ _ h => h) (wn rfl) (fun w hL => R_mv H29 rfl rfl) ((⟨LV.has hL (by simp), LV.has hL (by simp)⟩ : Thg.ok _ (bk g9 #[.int .i64 (startI at_), .string key] 162) ∧ Thg.ok _ (bk ps (stC b) 151))) rfl (P5 39 37 33 32 31 rfl rfl rfl rfl rfl) fun a30 H30 => ?_
  clear H29
  refine a_op 3 H30 rfl rfl (by kernel_rfl) (by kernel_rfl) (by kernel_rfl) (fun _ _ _ h => h) (wn rfl) (fun w hL => R_nc H30 rfl rfl) ((⟨LV.has hL (by simp), LV.has hL (by simp)⟩ : Thg.ok _ (bk g9 #[.int .i64 (startI at_), .string key] 162) ∧ Thg.ok _ (bk ps (stC b) 151))) rfl (P5 34 39 37 32 31 rfl rfl rfl rfl rfl) fun a31 H31 => ?_
  clear H30
  refine a_op 4 H31 rfl rfl (by kernel_rfl) (by kernel_rfl) (by kernel_rfl) (fun _ _ _ h => h) (wn rfl) (fun w hL => R_fa H31 rfl rfl fa_st0) ((⟨LV.has hL (by simp), LV.has hL (by simp)⟩ : Thg.ok _ (bk g9 #[.int .i64 (startI at_), .string key] 162) ∧ Thg.ok _ (bk ps (stC b) 151))) rfl (P5 35 39 37 32 31 rfl rfl rfl rfl rfl) fun a32 H32 => ?_
  clear H31
  refine a_op 5 H32 rfl rfl (by kernel_rfl) (by kernel_rfl) (by kernel_rfl) (fun _ _ _ h => h) (wn rfl) (fun w hL => R_ld H32 rfl rfl (ld_mpw (okc hL.2 0))) ((⟨LV.has hL (by simp), LV.has hL (by simp)⟩ : Thg.ok _ (bk g9 #[.int .i64 (startI at_), .string key] 162) ∧ Thg.ok _ (bk ps (stC b) 151))) rfl (P5 36 39 37 32 31 rfl rfl rfl rfl rfl) fun a33 H33 => ?_
  clear H32
  refine a_all1 7 (by kernel_rfl) ?_
  refine o_opS (bk g9 #[.int .i64 (startI at_), .string key] 162 :: bk ps (stC b) 151 :: mw b M :: L) 7 H33 rfl rfl (wn rfl) (R_lk H33 rfl rfl rfl (lookW_run hk (hL.tail.tail.mem_win List.mem_cons_self))) (hL) rfl (P4 38 39 32 31 rfl rfl rfl rfl) fun a34 w34 H34 hL' => ⟨(⟨LV.has hL' (by simp), LV.has hL' (by simp)⟩ : Thg.ok _ (bk g9 #[.int .i64 (startI at_), .string key] 162) ∧ Thg.ok _ (bk ps (stC b) 151)), ?_⟩
  replace hL := hL'
  clear H33 hL'
  refine a_all1 9 (by kernel_rfl) ?_
  refine o_call 9 H34 rfl rfl (wn rfl) (R_call2 H34 rfl rfl rfl (fun w => by simp [go_sem])) rfl ?_
  refine (put8_any (getW M (startI at_, key)) v _).mono ?_
  rintro e w35 ⟨rfl, hb⟩
  replace hL := hL.call hb
  clear hb
  refine ⟨_, rfl, fun a35 HH => ?_⟩
  have H35 := HH _ (P3 40 32 31 rfl rfl rfl)
  clear HH H34
  refine ⟨(⟨LV.has hL (by simp), LV.has hL (by simp)⟩ : Thg.ok _ (bk g9 #[.int .i64 (startI at_), .string key] 162) ∧ Thg.ok _ (bk ps (stC b) 151)), ?_⟩
  refine a_all1 10 (by kernel_rfl) ?_
  refine o_call 10 H35 rfl rfl (wn rfl) (R_call3 H35 rfl rfl rfl rfl (fun w => by simp [go_sem])) rfl ?_
  refine (set_any (a := put8 (getW M (startI at_, key)) v) hk hn hL.s12).mono ?_
  rintro e w36 ⟨rfl, hL2⟩
  replace hL := hL2.s21
  clear hL2
  refine ⟨_, rfl, fun a36 HH => ?_⟩
  have H36 := HH _ .nil
  clear HH H35
  refine ⟨(⟨LV.has hL (by simp), LV.has hL (by simp)⟩ : Thg.ok _ (bk g9 #[.int .i64 (startI at_), .string key] 162) ∧ Thg.ok _ (bk ps (stC b) 151)), ?_⟩
  refine wpAnyH_done (by kernel_rfl) ?_ _
  repeat (go_not_at_region 9; go_step)
  refine wp_region_lit ?_
  refine h_op H36 rfl (wn rfl) (R_as H36 rfl rfl) rfl (P1 8 rfl) fun a37 H37 => ?_
  clear H36
  refine h_end ?_
  repeat (go_not_at_region 999; go_step)
  subst hy
  exact H37.ret1 rfl rfl ⟨rfl, hL.tail⟩
end
end Go.Proofs.YtnjfjdfjheiocaaGreat
