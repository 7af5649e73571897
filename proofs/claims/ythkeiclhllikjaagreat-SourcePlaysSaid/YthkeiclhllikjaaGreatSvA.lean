/-
  What a law has made so far: blocks of cells, and maps from ints; carried over calls, new blocks, stores.
-/
import Derived.Test.YthkeiclhllikjaaGreatMsgFrm
import Derived.Test.YthkeiclhllikjaaGreatFr
import Derived.Maps.OwnSet
set_option linter.unusedSimpArgs false
set_option linter.unusedVariables false
namespace Go.Proofs.YthkeiclhllikjaaGreat
open Go.RowKit
def heldE (v : Value) : Option (DataW Value × List MemPlace) := some (.held v, [])
abbrev Ents := List (Int × Value)
def mapD (l : Ents) : DataW Value := .map (l.map fun p => (.int .i64 p.1, .held p.2))
def MapAt (W : World) (b : Nat) (l : Ents) : Prop := W.ownsMap Tryz.prog 3 heldE b l.length (mapD l)
theorem intKeyed : Maps.Keyed Tryz.prog 3 := Maps.int_keyed Tryz.underlying3
abbrev Thg := Nat × ((Array Value × TypeId) ⊕ Ents)
abbrev bk (g : Nat) (A : Array Value) (t : TypeId) : Thg := (g, .inl (A, t))
abbrev mp (b : Nat) (l : Ents) : Thg := (b, .inr l)
abbrev lift (L : List Blk) : List Thg := L.map fun p => bk p.1 p.2.1 p.2.2
def Thg.ok (W : World) (p : Thg) : Prop :=
 match p.2 with
 | .inl q => W.heap[p.1]? = some (.cells q.1 q.2 (0, 0))
 | .inr l => MapAt W p.1 l
theorem Thg.lt {W : World} {p : Thg} (h : p.ok W) : p.1 < W.heap.size := by
 obtain ⟨g, q | l⟩ := p
 ·exact blk_lt h
 ·exact World.ownsMap.lt h
theorem okSame {W W' : World} {p : Thg} (h : p.ok W) (he : W'.heap[p.1]? = W.heap[p.1]?) : p.ok W' := by
 obtain ⟨g, q | l⟩ := p
 ·exact he.trans h
 ·obtain ⟨es, clock, hb, r⟩ := h
  exact ⟨es, clock, he.trans hb, r⟩
def LV (w0 : World) (L : List Thg) (W : World) : Prop := Below w0.heap.size w0 W ∧ (L.map (·.1)).Nodup ∧ ∀ p, p ∈ L → w0.heap.size ≤ p.1 ∧ p.ok W
section
variable {w0 W W' : World} {L L' : List Thg} {g : Nat} {A : Array Value} {t : TypeId} {l : Ents}
theorem LV.init (w : World) : LV w [] w := ⟨Below.refl _ _, by simp, by simp⟩
theorem LV.call (h : LV w0 L W) (hb : Below W.heap.size W W') : LV w0 L W' :=
 ⟨h.1.trans (hb.mono h.1.size), h.2.1, fun p hp => ⟨(h.2.2 p hp).1, okSame (h.2.2 p hp).2 (hb.block _ (Thg.lt (h.2.2 p hp).2))⟩⟩
theorem LV.drew (h : LV w0 L W) : LV w0 L W.drew := ⟨h.1.drew, h.2.1, fun p hp => ⟨(h.2.2 p hp).1, okSame (h.2.2 p hp).2 rfl⟩⟩
theorem LV.ne_new (h : LV w0 L W) : ∀ p, p ∈ L → p.1 ≠ W.heap.size := fun p hp => Nat.ne_of_lt (Thg.lt (h.2.2 p hp).2)
theorem LV.grow (h : LV w0 L W) (o : Obj) : LV w0 L (W.alloc o) :=
 ⟨h.1.alloc h.1.size o, h.2.1, fun p hp => ⟨(h.2.2 p hp).1, okSame (h.2.2 p hp).2 (Below.heap_alloc W o p.1 (Thg.lt (h.2.2 p hp).2))⟩⟩
theorem LV.cons (h : LV w0 L W) {p : Thg} (hge : w0.heap.size ≤ p.1) (hn : ∀ q, q ∈ L → q.1 ≠ p.1) (ho : p.ok W) : LV w0 (p :: L) W := by
 refine ⟨h.1, ?_, fun q hq => ?_⟩
 ·simp only [List.map_cons, List.nodup_cons]
  refine ⟨fun hm => ?_, h.2.1⟩
  obtain ⟨q, hq, he⟩ := List.mem_map.1 hm
  exact hn q hq he
 ·rcases List.mem_cons.1 hq with rfl | hq
  ·exact ⟨hge, ho⟩
  ·exact h.2.2 q hq
theorem LV.alloc (h : LV w0 L W) (A : Array Value) (t : TypeId) : LV w0 (bk W.heap.size A t :: L) (W.alloc (.cells A t)) :=
 (h.grow _).cons h.1.size h.ne_new (blk_new _ _ _ rfl)
theorem LV.allocM (h : LV w0 L W) : LV w0 (mp W.heap.size [] :: L) (W.alloc (.map #[] 0)) :=
 (h.grow _).cons h.1.size h.ne_new (World.ownsMap_made W _ _ _)
theorem LV.at_ (h : LV w0 (bk g A t :: L) W) : W.heap[g]? = some (.cells A t (0, 0)) := (h.2.2 (bk g A t) (by simp)).2
theorem LV.ge {p : Thg} (h : LV w0 (p :: L) W) : w0.heap.size ≤ p.1 := (h.2.2 p (by simp)).1
theorem LV.cell (h : LV w0 (bk g A t :: L) W) (i : Nat) : W.cell? ⟨g, i, none⟩ = A[i]? := cells_at h.at_ i
theorem LV.thaw (h : LV w0 (bk g A t :: L) W) (i : Nat) : W.frozen? ⟨g, i, none⟩ = false := thaw_at h.at_ i
theorem LV.mem_at (h : LV w0 L W) (hm : bk g A t ∈ L) : W.heap[g]? = some (.cells A t (0, 0)) := (h.2.2 _ hm).2
theorem LV.mem_map (h : LV w0 L W) (hm : mp g l ∈ L) : MapAt W g l := (h.2.2 _ hm).2
theorem LV.cl (h : LV w0 L W) (hm : bk g A t ∈ L) (i : Nat) : W.cell? ⟨g, i, none⟩ = A[i]? := cells_at (h.mem_at hm) i
theorem LV.tail {p : Thg} (h : LV w0 (p :: L) W) : LV w0 L W := ⟨h.1, (List.nodup_cons.1 h.2.1).2, fun q hq => h.2.2 q (List.mem_cons_of_mem _ hq)⟩
theorem LV.dropl : ∀ {X : List Thg}, LV w0 (X ++ L) W → LV w0 L W
 | [], h => h
 | _ :: X, h => LV.dropl (X := X) (LV.tail h)
theorem LV.perm (h : LV w0 L W) (hp : L.Perm L') : LV w0 L' W := ⟨h.1, (hp.map (·.1)).nodup_iff.1 h.2.1, fun q hq => h.2.2 q (hp.mem_iff.2 hq)⟩
theorem LV.swap {p q : Thg} (h : LV w0 (p :: q :: L) W) : LV w0 (q :: p :: L) W := h.perm (.swap _ _ _)
theorem LV.third {p q r : Thg} (h : LV w0 (p :: q :: r :: L) W) : LV w0 (r :: p :: q :: L) W :=
 h.perm (((List.Perm.swap r q L).cons p).trans (.swap r p _))
theorem LV.ne {p : Thg} (h : LV w0 (p :: L) W) : ∀ q, q ∈ L → q.1 ≠ p.1 := fun q hq he => (List.nodup_cons.1 h.2.1).1 (List.mem_map.2 ⟨q, hq, he⟩)
theorem LV.put (h : LV w0 (bk g A t :: L) W) (i : Nat) (v : Value) : LV w0 (bk g (A.setIfInBounds i v) t :: L) (W.setCell ⟨g, i, none⟩ v) := by
 have hn := h.ne
 have h2 : LV w0 L (W.setCell ⟨g, i, none⟩ v) := ⟨h.1.setCell (by exact h.ge) v, h.tail.2.1, fun p hp => ⟨(h.tail.2.2 p hp).1, okSame (h.tail.2.2 p hp).2 (Below.heap_setCell W ⟨g, i, none⟩ v p.1 (by exact hn p hp))⟩⟩
 exact h2.cons h.ge hn (set_at h.at_ v)
theorem LV.row (h : LV w0 (bk g A t :: L) W) (cs : Array Value) : LV w0 (bk g cs t :: L) (W.setRow g cs) := by
 have hn := h.ne
 have h2 : LV w0 L (W.setRow g cs) := ⟨below_setRow h.1 h.ge cs, h.tail.2.1, fun p hp => ⟨(h.tail.2.2 p hp).1, okSame (h.tail.2.2 p hp).2 (setRow_other W g p.1 cs (hn p hp))⟩⟩
 exact h2.cons h.ge hn (setRow_heap W g A cs t (0, 0) h.at_)
theorem LV.join (h : LV w0 L W) {R : List Blk} (hr : Live W R W') : LV w0 (lift R ++ L) W' := by
 have h2 := h.call hr.1
 refine ⟨h2.1, ?_, fun p hp => ?_⟩
 ·rw [List.map_append, List.nodup_append]
  refine ⟨?_, h2.2.1, ?_⟩
  ·have e : (lift R).map (·.1) = R.map (·.1) := by simp [lift]
   rw [e]
   exact hr.2.1
  ·intro a ha b hb e
   obtain ⟨p, hp, rfl⟩ := List.mem_map.1 ha
   obtain ⟨q, hq, rfl⟩ := List.mem_map.1 hb
   obtain ⟨r, hr', rfl⟩ := List.mem_map.1 hp
   have h3 := (hr.2.2 r hr').1
   have h4 := Thg.lt (h.2.2 q hq).2
   simp only at e
   omega
 ·rcases List.mem_append.1 hp with hp | hp
  ·obtain ⟨r, hr', rfl⟩ := List.mem_map.1 hp
   exact ⟨Nat.le_trans h.1.size (hr.2.2 r hr').1, (hr.2.2 r hr').2⟩
  ·exact h2.2.2 p hp
theorem LV.joinV (h : LV w0 L W) {R : List Thg} (hr : LV W R W') : LV w0 (R ++ L) W' := by
 have h2 := h.call hr.1
 refine ⟨h2.1, ?_, fun p hp => ?_⟩
 ·rw [List.map_append, List.nodup_append]
  refine ⟨hr.2.1, h2.2.1, ?_⟩
  intro a ha b hb e
  obtain ⟨p, hp, rfl⟩ := List.mem_map.1 ha
  obtain ⟨q, hq, rfl⟩ := List.mem_map.1 hb
  have h3 := (hr.2.2 p hp).1
  have h4 := Thg.lt (h.2.2 q hq).2
  omega
 ·rcases List.mem_append.1 hp with hp | hp
  ·exact ⟨Nat.le_trans h.1.size (hr.2.2 p hp).1, (hr.2.2 p hp).2⟩
  ·exact h2.2.2 p hp
end
section
variable {w0 W W' : World} {L : List Thg} {b : Nat} {l l' : Ents} {T E : TypeId}
theorem LV.turned {p p' : Thg} (h : LV w0 (p :: L) W) (hg : W.grownBy W' (some p.1)) (he : p'.1 = p.1) (ho : p'.ok W') : LV w0 (p' :: L) W' := by
 have hn := h.ne
 have hb : Below w0.heap.size w0 W' := by
  refine ⟨hg.os.trans h.1.os, hg.tape.trans h.1.tape, hg.output.trans h.1.output, Nat.le_trans h.1.size hg.size, fun k hk => ?_⟩
  have h1 := h.ge
  exact (hg.block k (Nat.lt_of_lt_of_le hk h.1.size) (by intro e; have e2 := Option.some.inj e; omega)).trans (h.1.block k hk)
 have h2 : LV w0 L W' := ⟨hb, h.tail.2.1, fun q hq => ⟨(h.tail.2.2 q hq).1, okSame (h.tail.2.2 q hq).2 (hg.block q.1 (Thg.lt (h.tail.2.2 q hq).2) (fun e => hn q hq (Option.some.inj e)))⟩⟩
 refine h2.cons (by rw [he]; exact h.ge) (fun q hq => by rw [he]; exact hn q hq) ho
def lookE (l : Ents) (k : Int) : Option Value := (l.find? fun p => p.1 == k).map (·.2)
def insE (x : Int × Value) : Ents → Ents
 | [] => [x]
 | y :: r => if x.1 < y.1 then x :: y :: r else y :: insE x r
def delE (l : Ents) (k : Int) : Ents := l.filter fun p => p.1 != k
def putE (l : Ents) (k : Int) (v : Value) : Ents := insE (k, v) (delE l k)
theorem atKey_mapD (l : Ents) (k : Int) (z : Value) : (mapD l).atKey (.int .i64 k) (.held z) = .held ((lookE l k).getD z) := by
 unfold mapD DataW.atKey lookE
 simp only
 rw [List.find?_map]
 have e : ((fun p : Lit × DataW Value => p.1.sameKey (.int .i64 k)) ∘ fun p : Int × Value => ((.int .i64 p.1, .held p.2) : Lit × DataW Value)) = fun p => p.1 == k := by
  funext p
  by_cases h : p.1 = k <;> simp [Lit.sameKey, h]
 rw [e]
 cases List.find? (fun p => p.1 == k) l <;> rfl
theorem has_mapD (l : Ents) (k : Int) : Maps.has (mapD l) (.int .i64 k) = (lookE l k).isSome := by
 have e : Maps.has (mapD l) (.int .i64 k) = (l.map fun p => ((.int .i64 p.1, .held p.2) : Lit × DataW Value)).any fun p => p.1.sameKey (.int .i64 k) := rfl
 rw [e]
 unfold lookE
 clear e
 induction l with
 | nil => rfl
 | cons x r ih =>
  simp only [List.map_cons, List.any_cons, List.find?_cons]
  by_cases h : x.1 = k
  ·simp [Lit.sameKey, h]
  ·have h2 : (x.1 == k) = false := beq_eq_false_iff_ne.2 h
   simp only [h2]
   rw [ih]
   simp [Lit.sameKey, h]
theorem insert_mapD (x : Int × Value) (l : Ents) : DataW.insert ((.int .i64 x.1, .held x.2) : Lit × DataW Value) (l.map fun p => (.int .i64 p.1, .held p.2)) = (insE x l).map fun p => (.int .i64 p.1, .held p.2) := by
 induction l with
 | nil => rfl
 | cons y r ih =>
  simp only [List.map_cons]
  unfold DataW.insert insE
  by_cases h : x.1 < y.1
  ·simp [Lit.before, h]
  ·simp only [Lit.before, h, decide_false, Bool.false_eq_true, if_false, List.map_cons]
   rw [ih]
theorem filter_mapD (l : Ents) (k : Int) : ((l.map fun p => ((.int .i64 p.1, .held p.2) : Lit × DataW Value)).filter fun p => !p.1.sameKey (.int .i64 k)) = (delE l k).map fun p => (.int .i64 p.1, .held p.2) := by
 unfold delE
 rw [List.filter_map]
 congr 1
 refine List.filter_congr fun p _ => ?_
 by_cases h : p.1 = k <;> simp [Lit.sameKey, h]
theorem del_mapD (l : Ents) (k : Int) : (mapD l).del (.int .i64 k) = mapD (delE l k) := congrArg DataW.map (filter_mapD l k)
theorem put_mapD (l : Ents) (k : Int) (v : Value) : (mapD l).put (.int .i64 k) (.held v) = mapD (putE l k v) := by
 unfold mapD DataW.put putE
 simp only
 rw [filter_mapD]
 exact congrArg DataW.map (insert_mapD (k, v) (delE l k))
theorem size_mapD (l : Ents) : Maps.size (mapD l) = l.length := by simp [mapD, Maps.size]
theorem tight {P : Program} {k : TypeId} {R : Value → Option (DataW Value × List MemPlace)} {n : Nat} {D : DataW Value} (h : W.ownsMap P k R b n D) : W.ownsMap P k R b (Maps.size D) D := by
 obtain ⟨es, clock, hb, F, hs, rfl⟩ := h
 exact ⟨es, clock, hb, F, by simp [Maps.size, length_sorted], rfl⟩
theorem keyI {k : Int} (h0 : -9223372036854775808 ≤ k) (h1 : k < 9223372036854775808) : keyOf Tryz.prog 3 (.int .i64 k) = some (.int .i64 k) := by
 refine Maps.keyOf_int_mk Tryz.underlying3 ?_
 exact WalkArith.wf_i64 (by omega)
variable {k : Int} (h0 : -9223372036854775808 ≤ k) (h1 : k < 9223372036854775808)
include h0 h1
theorem look_run {z : Value} (ht : Tryz.prog.underlying T = some (.map 3 E)) (hz : (zeroValue E).run Tryz.prog W = .ok z W) (h : MapAt W b l) : (Instr.lookup T (.map (some b)) (.int .i64 k) false).run Tryz.prog W = .ok ((lookE l k).getD z) W := by
 obtain ⟨v, ps, hrun, hv⟩ := World.ownsMap.lookup h intKeyed ht hz (zd := .held z) (zp := []) rfl (keyI h0 h1)
 rw [atKey_mapD] at hv
 cases hv
 exact hrun
theorem lookOk_run {z : Value} (ht : Tryz.prog.underlying T = some (.map 3 E)) (hz : (zeroValue E).run Tryz.prog W = .ok z W) (h : MapAt W b l) : (Instr.lookup T (.map (some b)) (.int .i64 k) true).run Tryz.prog W = .ok (.tuple #[(lookE l k).getD z, .bool (lookE l k).isSome]) W := by
 obtain ⟨v, ps, hrun, hv⟩ := World.ownsMap.look_ok h intKeyed ht hz (zd := .held z) (zp := []) rfl (keyI h0 h1)
 rw [atKey_mapD] at hv
 rw [has_mapD] at hrun
 cases hv
 exact hrun
theorem store_run (v : Value) (ht : Tryz.prog.underlying T = some (.map 3 E)) (hn : l.length < 1000000) (h : LV w0 (mp b l :: L) W) : ∃ W', (Instr.mapUpdate T (.map (some b)) (.int .i64 k) v).run Tryz.prog W = .ok () W' ∧ LV w0 (mp b (putE l k v) :: L) W' := by
 have hm : MapAt W b l := h.mem_map (by simp)
 obtain ⟨W', hrun, hown, hg⟩ := World.ownsMap.update hm intKeyed ht (by unfold maxLen; omega) (keyI h0 h1) (d := .held v) (ps := []) rfl
 rw [put_mapD] at hown
 have hown2 := tight hown
 rw [size_mapD] at hown2
 exact ⟨W', hrun, h.turned hg rfl hown2⟩
theorem drop_run (ht : Tryz.prog.underlying T = some (.map 3 E)) (ty : TypeId) (h : LV w0 (mp b l :: L) W) : ∃ W', (Builtin.delete_ #[T, 3] ty #[.map (some b), .int .i64 k]).run Tryz.prog W = .ok (.tuple #[]) W' ∧ LV w0 (mp b (delE l k) :: L) W' := by
 have hm : MapAt W b l := h.mem_map (by simp)
 obtain ⟨W', hrun, hown, hg⟩ := World.ownsMap.drop hm intKeyed ht (keyI h0 h1) ty
 rw [del_mapD] at hown
 have hown2 := tight hown
 rw [size_mapD] at hown2
 exact ⟨W', hrun, h.turned hg.grown rfl hown2⟩
omit h0 h1
theorem len_run (ht : Tryz.prog.underlying T = some (.map 3 E)) (ty : TypeId) (h : MapAt W b l) : (Builtin.len_ #[T] ty #[.map (some b)]).run Tryz.prog W = .ok (.int .i64 (l.length : Nat)) W := by
 have h2 := World.ownsMap.len h ht ty
 rw [size_mapD] at h2
 exact h2
end
section
variable {P : Program} {ops : Array Oper} {Q : Exit → Act → World → Prop} {rest : List Oper} {o : Oper} {a : Act} {w w' : World} {n d : Nat} {v : Value} {m m' : List (Nat × Value)} {w0 : World}
theorem R_mm {t : TypeId} (ho : o.op = .makeMap t none) : (execOp a.eval o).run P w = .ok (.value (.map (some w.heap.size))) (w.alloc (.map #[] 0)) := by
 unfold execOp; rw [ho]; exact fr_v (run_makeMap t w)
theorem R_lk {t : TypeId} {x y : Operand} {c : Bool} {vx vy : Value} (H : Fr a n m) (ho : o.op = .lookup t x y c) (hx : ev1 m x = some vx) (hy : ev1 m y = some vy) (hl : (Instr.lookup t vx vy c).run P w = .ok v w) : (execOp a.eval o).run P w = .ok (.value v) w := by
 unfold execOp; rw [ho]; simp only [H.ev hx, H.ev hy]; exact fr_v hl
theorem R_mu {t : TypeId} {x y z : Operand} {vx vy vz : Value} (H : Fr a n m) (ho : o.op = .mapUpdate t x y z) (hx : ev1 m x = some vx) (hy : ev1 m y = some vy) (hz : ev1 m z = some vz) (hl : (Instr.mapUpdate t vx vy vz).run P w = .ok () w') : (execOp a.eval o).run P w = .ok .skip w' := by
 unfold execOp; rw [ho]; simp only [H.ev hx, H.ev hy, H.ev hz]; exact fr_u hl
theorem R_lenM {x : Operand} {t : TypeId} {vx : Value} (H : Fr a n m) (ho : o.op = .call { callee := .builtin .len, args := #[x], argTypes := #[t] }) (hx : ev1 m x = some vx) (hl : (Builtin.len_ #[t] o.type #[vx]).run P w = .ok v w) : (execOp a.eval o).run P w = .ok (.value v) w := by
 have e1 := H.ev hx
 unfold execOp
 rw [ho]
 generalize a.eval = ρ at *
 simp [resolve, invoke, builtin, go_sem, e1, hl]
theorem R_dl {x y : Operand} {t u : TypeId} {vx vy : Value} (H : Fr a n m) (ho : o.op = .call { callee := .builtin .delete, args := #[x, y], argTypes := #[t, u] }) (hx : ev1 m x = some vx) (hy : ev1 m y = some vy) (hl : (Builtin.delete_ #[t, u] o.type #[vx, vy]).run P w = .ok v w') : (execOp a.eval o).run P w = .ok (.value v) w' := by
 have e1 := H.ev hx
 have e2 := H.ev hy
 unfold execOp
 rw [ho]
 generalize a.eval = ρ at *
 simp [resolve, invoke, builtin, go_sem, e1, e2, hl]
theorem h_opS (L' : List Thg) (H : Fr a n m) (hd : o.dst = some d) (hg : Region.wanted o (yielded ops a.tmps) = true) (hr : (execOp a.eval o).run P w = .ok (.value v) w') (hL : LV w0 L' w') (hn : Nat.blt d n = true) (hp : Picks ((d, v) :: m) m')
  (k : ∀ a' w', Fr a' n m' → LV w0 L' w' → wpList P ops Q rest a' w') : wpList P ops Q (o :: rest) a w :=
 h_op H hd hg hr hn hp fun a' H' => k a' w' H' hL
theorem h_stS (L' : List Thg) (H : Fr a n m) (hd : o.dst = none) (hg : Region.wanted o (yielded ops a.tmps) = true) (hr : (execOp a.eval o).run P w = .ok .skip w') (hL : LV w0 L' w')
  (k : ∀ a' w', Fr a' n m → LV w0 L' w' → wpList P ops Q rest a' w') : wpList P ops Q (o :: rest) a w :=
 h_st H hd hg hr fun a' H' => k a' w' H' hL
theorem h_noS (L' : List Thg) (H : Fr a n m) (hd : o.dst = none) (hg : Region.wanted o (yielded ops a.tmps) = true) (hr : (execOp a.eval o).run P w = .ok (.value v) w') (hL : LV w0 L' w')
  (k : ∀ a' w', Fr a' n m → LV w0 L' w' → wpList P ops Q rest a' w') : wpList P ops Q (o :: rest) a w :=
 wpList_step fun K hK => by
  rw [if_pos hg]
  unfold Oper.wp
  rw [hr]
  simp only [Oper.upon, hd]
  exact hK _ _ (k _ _ H hL)
end
end Go.Proofs.YthkeiclhllikjaaGreat
/-
 A source as plain data: its items, each with its answer; the two maps that hold them.
-/
namespace Go.Proofs.YthkeiclhllikjaaGreat
open Go.RowKit
def ents (f : Nat → Option Value) : Nat → Ents
 | 0 => []
 | n + 1 => ents f n ++ (match f n with
  | some v => [(((n + 1 : Nat) : Int), v)]
  | none => [])
section
variable {f g : Nat → Option Value} {n i : Nat} {v : Value}
theorem ents_congr : ∀ {n : Nat}, (∀ i, i < n → f i = g i) → ents f n = ents g n
 | 0, _ => rfl
 | n + 1, h => by
  unfold ents
  rw [ents_congr fun i hi => h i (by omega), h n (by omega)]
theorem ents_le : ∀ {n : Nat} (p : Int × Value), p ∈ ents f n → 1 ≤ p.1 ∧ p.1 ≤ n
 | 0, p, h => by cases h
 | n + 1, p, h => by
  unfold ents at h
  rcases List.mem_append.1 h with h | h
  ·have := ents_le p h
   omega
  ·cases hf : f n with
   | none => rw [hf] at h; cases h
   | some v =>
    rw [hf] at h
    rcases List.mem_singleton.1 h with rfl
    simp only
    omega
theorem insE_last {x : Int × Value} : ∀ {l : Ents}, (∀ p ∈ l, p.1 < x.1) → insE x l = l ++ [x]
 | [], _ => rfl
 | y :: r, h => by
  have h1 := h y (by simp)
  unfold insE
  rw [if_neg (by omega), insE_last fun p hp => h p (by simp [hp])]
  rfl
theorem insE_app {x : Int × Value} {r : Ents} (hr : ∀ p ∈ r, x.1 < p.1) : ∀ {l : Ents}, insE x (l ++ r) = insE x l ++ r
 | [] => by
  cases r with
  | nil => rfl
  | cons y t =>
   show insE x (y :: t) = x :: y :: t
   unfold insE
   rw [if_pos (hr y (by simp))]
 | y :: t => by
  show insE x (y :: (t ++ r)) = insE x (y :: t) ++ r
  unfold insE
  by_cases h : x.1 < y.1
  ·rw [if_pos h, if_pos h]
   rfl
  ·rw [if_neg h, if_neg h, insE_app hr]
   rfl
theorem delE_app {l r : Ents} {k : Int} : delE (l ++ r) k = delE l k ++ delE r k := List.filter_append _ _
theorem delE_none {l : Ents} {k : Int} (h : ∀ p ∈ l, p.1 ≠ k) : delE l k = l := List.filter_eq_self.2 fun p hp => by simp [h p hp]
theorem ents_del : ∀ {n i : Nat}, i < n → delE (ents f n) ((i + 1 : Nat) : Int) = ents (fun j => if j = i then none else f j) n
 | 0, i, h => by omega
 | n + 1, i, h => by
  unfold ents
  rw [delE_app]
  by_cases hi : i = n
  ·subst hi
   rw [if_pos rfl, delE_none (l := ents f i) (fun p hp => by have := ents_le p hp; omega)]
   rw [ents_congr (f := fun j => if j = i then none else f j) (g := f) fun j hj => if_neg (by omega)]
   cases f i with
   | none => rfl
   | some v => simp [delE]
  ·rw [ents_del (by omega), if_neg (fun e => hi e.symm)]
   cases f n with
   | none => rfl
   | some v =>
    congr 1
    refine delE_none fun p hp => ?_
    rcases List.mem_singleton.1 hp with rfl
    simp only
    omega
theorem ents_put : ∀ {n i : Nat}, i < n → putE (ents f n) ((i + 1 : Nat) : Int) v = ents (fun j => if j = i then some v else f j) n := by
 intro n i h
 unfold putE
 rw [ents_del h]
 have key : ∀ {n : Nat}, i < n → insE (((i + 1 : Nat) : Int), v) (ents (fun j => if j = i then none else f j) n) = ents (fun j => if j = i then some v else f j) n := by
  intro n
  induction n with
  | zero => intro h; omega
  | succ n ih =>
   intro h
   unfold ents
   by_cases hi : i = n
   ·subst hi
    rw [if_pos rfl, if_pos rfl]
    rw [ents_congr (f := fun j => if j = i then none else f j) (g := f) fun j hj => if_neg (by omega), ents_congr (f := fun j => if j = i then some v else f j) (g := f) fun j hj => if_neg (by omega)]
    show insE _ (ents f i ++ []) = ents f i ++ [_]
    rw [List.append_nil]
    exact insE_last fun p hp => by have := ents_le p hp; simp only; omega
   ·rw [if_neg (fun e => hi e.symm), if_neg (fun e => hi e.symm), ← ih (by omega)]
    refine insE_app fun p hp => ?_
    cases hf : f n with
    | none => rw [hf] at hp; cases hp
    | some u =>
     rw [hf] at hp
     rcases List.mem_singleton.1 hp with rfl
     simp only
     omega
 exact key h
theorem ents_push : putE (ents f n) ((n + 1 : Nat) : Int) v = ents f n ++ [(((n + 1 : Nat) : Int), v)] := by
 unfold putE
 rw [delE_none fun p hp => by have := ents_le p hp; omega]
 exact insE_last fun p hp => by have := ents_le p hp; simp only; omega
theorem ents_look : ∀ {n : Nat} (k : Int), lookE (ents f n) k = if 1 ≤ k ∧ k ≤ n then f (k - 1).toNat else none
 | 0, k => by
  rw [if_neg (by omega)]
  rfl
 | n + 1, k => by
  unfold ents lookE
  rw [List.find?_append]
  have ih := ents_look (n := n) k
  unfold lookE at ih
  by_cases hk : k = ((n + 1 : Nat) : Int)
  ·have hn : (ents f n).find? (fun p => p.1 == k) = none := List.find?_eq_none.2 fun p hp => by have := ents_le p hp; simp; omega
   rw [hn, if_pos (by omega), show (k - 1).toNat = n by omega]
   cases f n with
   | none => rfl
   | some v => simp [hk]
  ·have ht : ((match f n with | some v => [(((n + 1 : Nat) : Int), v)] | none => []) : Ents).find? (fun p => p.1 == k) = none := by
    cases f n with
    | none => rfl
    | some v =>
     simp only [List.find?_cons, List.find?_nil]
     rw [beq_eq_false_iff_ne.2 (fun e => hk e.symm)]
   rw [ht, Option.or_none, ih]
   by_cases h : 1 ≤ k ∧ k ≤ n
   ·rw [if_pos h, if_pos (by omega)]
   ·rw [if_neg h, if_neg (by omega)]
theorem ents_count : ∀ {n : Nat}, (ents f n).length = ((List.range n).filter fun i => (f i).isSome).length
 | 0 => rfl
 | n + 1 => by
  unfold ents
  rw [List.length_append, ents_count, List.range_succ, List.filter_append, List.length_append]
  congr 1
  cases hf : f n <;> simp [hf]
theorem ents_size : (ents f n).length ≤ n := by
 rw [ents_count]
 exact Nat.le_trans (List.length_filter_le _ _) (by simp)
end
structure PItem where
 src : Int
 seq : Int
 low : Int
 kind : Nat
 key : ByteArray
 part : Int
 at_ : Int
 n : Int
def itm (x : PItem) : PMsg := { PMsg.zero with kind := 1, isrc := x.src, iseq := x.seq, ilow := x.low, ikind := x.kind, ikey := x.key, ipart := x.part, iat := x.at_, iN := x.n }
abbrev itC (x : PItem) : Array Value := #[.int .i64 x.src, .int .i64 x.seq, .int .i64 x.low, .int .u8 (x.kind : Nat), .string x.key, .int .i64 x.part, .int .i64 x.at_, .int .i64 x.n]
def itZ : PItem := ⟨0, 0, 0, 0, .empty, 0, 0, 0⟩
structure PTab where
 ep : Int
 nd : Int
 own : List Int
structure PSrc where
 src : Int
 t : PTab
 L : List (PItem × Nat)
def opF (L : List (PItem × Nat)) (i : Nat) : Option Value :=
 match L[i]? with
 | some p => if p.2 = 0 then some (.agg (itC p.1)) else none
 | none => none
def anF (L : List (PItem × Nat)) (i : Nat) : Option Value :=
 match L[i]? with
 | some p => if p.2 = 0 then none else some (.int .i64 (p.2 : Nat))
 | none => none
def opE (L : List (PItem × Nat)) : Ents := ents (opF L) L.length
def anE (L : List (PItem × Nat)) : Ents := ents (anF L) L.length
def lowN : List (PItem × Nat) → Nat
 | [] => 1
 | p :: t => if p.2 = 0 then 1 else lowN t + 1
def codeN (L : List (PItem × Nat)) (k : Int) : Nat := if 1 ≤ k then ((L[(k - 1).toNat]?).map (·.2)).getD 0 else 0
section
variable {L : List (PItem × Nat)} {x : PItem} {c i : Nat} {k : Int}
theorem opE_push : putE (opE L) ((L.length + 1 : Nat) : Int) (.agg (itC x)) = opE (L ++ [(x, 0)]) := by
 unfold opE
 rw [ents_push, List.length_append]
 show _ = ents (opF (L ++ [(x, 0)])) (L.length + 1)
 have e : ents (opF L) L.length = ents (opF (L ++ [(x, 0)])) L.length := ents_congr fun i hi => by unfold opF; rw [List.getElem?_append_left hi]
 conv => rhs; unfold ents
 rw [← e]
 congr 1
 unfold opF
 rw [List.getElem?_append_right (Nat.le_refl _)]
 simp
theorem anE_push : anE (L ++ [(x, 0)]) = anE L := by
 unfold anE
 rw [List.length_append]
 show ents (anF (L ++ [(x, 0)])) (L.length + 1) = _
 have e : ents (anF L) L.length = ents (anF (L ++ [(x, 0)])) L.length := ents_congr fun i hi => by unfold anF; rw [List.getElem?_append_left hi]
 conv => lhs; unfold ents
 rw [← e]
 unfold anF
 rw [List.getElem?_append_right (Nat.le_refl _)]
 simp
theorem opE_set (hi : i < L.length) (hc : c ≠ 0) : delE (opE L) ((i + 1 : Nat) : Int) = opE (L.set i (x, c)) := by
 unfold opE
 rw [ents_del hi, List.length_set]
 refine ents_congr fun j hj => ?_
 unfold opF
 rw [List.getElem?_set]
 by_cases h : j = i
 ·subst h
  simp [hi, hc]
 ·have h2 : ¬ i = j := fun e => h e.symm
  simp [h, h2]
theorem anE_set (hi : i < L.length) (hc : c ≠ 0) : putE (anE L) ((i + 1 : Nat) : Int) (.int .i64 (c : Nat)) = anE (L.set i (x, c)) := by
 unfold anE
 rw [ents_put hi, List.length_set]
 refine ents_congr fun j hj => ?_
 unfold anF
 rw [List.getElem?_set]
 by_cases h : j = i
 ·subst h
  simp [hi, hc]
 ·have h2 : ¬ i = j := fun e => h e.symm
  simp [h, h2]
theorem anE_look : lookE (anE L) k = if codeN L k = 0 then none else some (.int .i64 (codeN L k : Nat)) := by
 unfold anE
 rw [ents_look]
 unfold codeN anF
 by_cases h1 : 1 ≤ k
 ·by_cases h2 : k ≤ L.length
  ·rw [if_pos ⟨h1, h2⟩, if_pos h1, List.getElem?_eq_getElem (by omega)]
   rfl
  ·rw [if_neg (by omega), if_pos h1, List.getElem?_eq_none (by omega)]
   rfl
 ·rw [if_neg (by omega), if_neg h1]
  rfl
theorem opE_look (h1 : 1 ≤ k) (h2 : k ≤ L.length) : lookE (opE L) k = if codeN L k = 0 then some (.agg (itC (L[(k - 1).toNat]'(by omega)).1)) else none := by
 unfold opE
 rw [ents_look, if_pos ⟨h1, h2⟩]
 unfold codeN opF
 rw [if_pos h1, List.getElem?_eq_getElem (by omega)]
 rfl
theorem opE_look_out (h : ¬ (1 ≤ k ∧ k ≤ L.length)) : lookE (opE L) k = none := by
 unfold opE
 rw [ents_look, if_neg h]
theorem lowN_pos : ∀ {L : List (PItem × Nat)}, 1 ≤ lowN L
 | [] => Nat.le_refl _
 | p :: t => by
  unfold lowN
  split <;> omega
theorem lowN_le : ∀ {L : List (PItem × Nat)}, lowN L ≤ L.length + 1
 | [] => Nat.le_refl _
 | p :: t => by
  unfold lowN
  have := lowN_le (L := t)
  simp only [List.length_cons]
  split <;> omega
theorem lowN_push : ∀ {L : List (PItem × Nat)}, lowN (L ++ [(x, 0)]) = lowN L
 | [] => by simp [lowN]
 | p :: t => by
  show lowN (p :: (t ++ [(x, 0)])) = lowN (p :: t)
  unfold lowN
  rw [lowN_push]
theorem codeN_low : codeN L (lowN L) = 0 := by
 have key : ∀ L : List (PItem × Nat), ((L[lowN L - 1]?).map (·.2)).getD 0 = 0 := by
  intro L
  induction L with
  | nil => rfl
  | cons p t ih =>
   unfold lowN
   by_cases h : p.2 = 0
   ·rw [if_pos h]
    simpa using h
   ·rw [if_neg h, show lowN t + 1 - 1 = (lowN t - 1) + 1 by have := lowN_pos (L := t); omega, List.getElem?_cons_succ]
    exact ih
 unfold codeN
 rw [if_pos (by have := lowN_pos (L := L); omega), show ((lowN L : Int) - 1).toNat = lowN L - 1 by have := lowN_pos (L := L); omega]
 exact key L
theorem codeN_below {j : Nat} (h1 : 1 ≤ j) (h2 : j < lowN L) : codeN L j ≠ 0 := by
 have key : ∀ (L : List (PItem × Nat)) (j : Nat), j + 1 < lowN L → ((L[j]?).map (·.2)).getD 0 ≠ 0 := by
  intro L
  induction L with
  | nil => intro j h; simp [lowN] at h
  | cons p t ih =>
   intro j h
   unfold lowN at h
   by_cases hp : p.2 = 0
   ·rw [if_pos hp] at h
    omega
   ·rw [if_neg hp] at h
    cases j with
    | zero => simpa using hp
    | succ j =>
     rw [List.getElem?_cons_succ]
     exact ih j (by omega)
 unfold codeN
 rw [if_pos (by omega), show ((j : Int) - 1).toNat = j - 1 by omega]
 exact key L (j - 1) (by omega)
theorem lowN_of {j : Nat} (h1 : 1 ≤ j) (h2 : ∀ i : Nat, 1 ≤ i → i < j → codeN L i ≠ 0) (h3 : codeN L j = 0) : lowN L = j := by
 rcases Nat.lt_trichotomy (lowN L) j with h | h | h
 ·exact absurd codeN_low (h2 _ lowN_pos h)
 ·exact h
 ·exact absurd h3 (codeN_below h1 h)
theorem codeN_set (hi : i < L.length) : codeN (L.set i (x, c)) k = if k = ((i + 1 : Nat) : Int) then c else codeN L k := by
 unfold codeN
 rw [List.getElem?_set]
 by_cases h : k = ((i + 1 : Nat) : Int)
 ·subst h
  rw [if_pos (by omega), show (((i + 1 : Nat) : Int) - 1).toNat = i by omega]
  simp [hi]
 ·rw [if_neg h]
  by_cases h1 : 1 ≤ k
  ·rw [if_pos h1, if_pos h1, if_neg (by omega)]
  ·rw [if_neg h1, if_neg h1]
end
end Go.Proofs.YthkeiclhllikjaaGreat
