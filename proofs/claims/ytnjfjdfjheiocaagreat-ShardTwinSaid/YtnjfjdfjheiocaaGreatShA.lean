/-
  What a law has made so far: blocks of cells, maps from ints, maps of windows; carried over calls, new blocks, stores.
-/
import Derived.Test.YtnjfjdfjheiocaaGreatShM
import Derived.Test.YtnjfjdfjheiocaaGreatFr
import Derived.Laws.Tables
import Derived.Laws.ResultCell
import Derived.Laws.CopyOwn
import Derived.Maps.OwnSet
set_option linter.unusedSimpArgs false
set_option linter.unusedVariables false
namespace Go.Proofs.YtnjfjdfjheiocaaGreat
open Go.RowKit

/-- A block, or a map. -/
abbrev Thg := Nat × (Obj ⊕ (Ents ⊕ Wins))
abbrev ob (g : Nat) (o : Obj) : Thg := (g, .inl o)
abbrev bk (g : Nat) (A : Array Value) (t : TypeId) : Thg := (g, .inl (.cells A t (0, 0)))
abbrev mp (b : Nat) (l : Ents) : Thg := (b, .inr (.inl l))
abbrev mw (b : Nat) (M : Wins) : Thg := (b, .inr (.inr M))
abbrev lift (L : List Blk) : List Thg := L.map fun p => bk p.1 p.2.1 p.2.2
def Thg.ok (W : World) (p : Thg) : Prop :=
  match p.2 with
  | .inl o => W.heap[p.1]? = some o
  | .inr (.inl l) => MapAt W p.1 l
  | .inr (.inr M) => WinAt W p.1 M
theorem Thg.lt {W : World} {p : Thg} (h : p.ok W) : p.1 < W.heap.size := by
  obtain ⟨g, q | l | M⟩ := p
  · exact blk_lt h
  · exact World.ownsMap.lt h
  · obtain ⟨D, _, h⟩ := h
    exact World.ownsMap.lt h
theorem okSame {W W' : World} {p : Thg} (h : p.ok W) (he : W'.heap[p.1]? = W.heap[p.1]?) : p.ok W' := by
  obtain ⟨g, q | l | M⟩ := p
  · exact he.trans h
  · obtain ⟨es, clock, hb, r⟩ := h
    exact ⟨es, clock, he.trans hb, r⟩
  · obtain ⟨D, hD, es, clock, hb, r⟩ := h
    exact ⟨D, hD, es, clock, he.trans hb, r⟩
def LV (w0 : World) (L : List Thg) (W : World) : Prop := Below w0.heap.size w0 W ∧ (L.map (·.1)).Nodup ∧ ∀ p, p ∈ L → w0.heap.size ≤ p.1 ∧ p.ok W
section
variable {w0 W W' : World} {L L' : List Thg} {g : Nat} {A : Array Value} {t : TypeId} {l : Ents}
theorem LV.init (w : World) : LV w [] w := ⟨Below.refl _ _, by simp, by simp⟩
theorem LV.call (h : LV w0 L W) (hb : Below W.heap.size W W') : LV w0 L W' :=
  ⟨h.1.trans (hb.mono h.1.size), h.2.1, fun p hp => ⟨(h.2.2 p hp).1, okSame (h.2.2 p hp).2 (hb.block _ (Thg.lt (h.2.2 p hp).2))⟩⟩
theorem LV.drew (h : LV w0 L W) : LV w0 L W.drew := ⟨h.1.drew, h.2.1, fun p hp => ⟨(h.2.2 p hp).1, okSame (h.2.2 p hp).2 rfl⟩⟩
theorem LV.ne_new (h : LV w0 L W) : ∀ p, p ∈ L → p.1 ≠ W.heap.size := fun p hp => Nat.ne_of_lt (Thg.lt (h.2.2 p hp).2)
theorem LV.grow (h : LV w0 L W) (o : Obj) : LV w0 L (W.alloc o) :=
  ⟨h.1.alloc h.1.size o, h.2.1, fun p hp => ⟨(h.2.2 p hp).1, okSame (h.2.2 p hp).2 (Below.heap_alloc W o p.1 (Thg.lt (h.2.2 p hp).2))⟩⟩
theorem LV.cons (h : LV w0 L W) {p : Thg} (hge : w0.heap.size ≤ p.1) (hn : ∀ q, q ∈ L → q.1 ≠ p.1) (ho : p.ok W) : LV w0 (p :: L) W := by
  refine ⟨h.1, ?_, fun q hq => ?_⟩
  · simp only [List.map_cons, List.nodup_cons]
    refine ⟨fun hm => ?_, h.2.1⟩
    obtain ⟨q, hq, he⟩ := List.mem_map.1 hm
    exact hn q hq he
  · rcases List.mem_cons.1 hq with rfl | hq
    · exact ⟨hge, ho⟩
    · exact h.2.2 q hq
theorem LV.alloc (h : LV w0 L W) (A : Array Value) (t : TypeId) : LV w0 (bk W.heap.size A t :: L) (W.alloc (.cells A t)) :=
  (h.grow _).cons h.1.size h.ne_new (blk_new _ _ _ rfl)
theorem LV.allocM (h : LV w0 L W) : LV w0 (mp W.heap.size [] :: L) (W.alloc (.map #[] 0)) :=
  (h.grow _).cons h.1.size h.ne_new (World.ownsMap_made W _ _ _)
theorem LV.allocW (h : LV w0 L W) : LV w0 (mw W.heap.size [] :: L) (W.alloc (.map #[] 0)) :=
  (h.grow _).cons h.1.size h.ne_new ⟨.map [], wd_nil, World.ownsMap_made W _ _ _⟩
theorem LV.at_ (h : LV w0 (bk g A t :: L) W) : W.heap[g]? = some (.cells A t (0, 0)) := (h.2.2 (bk g A t) (by simp)).2
theorem LV.ge {p : Thg} (h : LV w0 (p :: L) W) : w0.heap.size ≤ p.1 := (h.2.2 p (by simp)).1
theorem LV.cell (h : LV w0 (bk g A t :: L) W) (i : Nat) : W.cell? ⟨g, i, none⟩ = A[i]? := cells_at h.at_ i
theorem LV.thaw (h : LV w0 (bk g A t :: L) W) (i : Nat) : W.frozen? ⟨g, i, none⟩ = false := thaw_at h.at_ i
theorem LV.mem_at (h : LV w0 L W) (hm : bk g A t ∈ L) : W.heap[g]? = some (.cells A t (0, 0)) := (h.2.2 _ hm).2
theorem LV.mem_map (h : LV w0 L W) (hm : mp g l ∈ L) : MapAt W g l := (h.2.2 _ hm).2
theorem LV.mem_win {M : Wins} (h : LV w0 L W) (hm : mw g M ∈ L) : WinAt W g M := (h.2.2 _ hm).2
theorem LV.cl (h : LV w0 L W) (hm : bk g A t ∈ L) (i : Nat) : W.cell? ⟨g, i, none⟩ = A[i]? := cells_at (h.mem_at hm) i
theorem LV.tail {p : Thg} (h : LV w0 (p :: L) W) : LV w0 L W := ⟨h.1, (List.nodup_cons.1 h.2.1).2, fun q hq => h.2.2 q (List.mem_cons_of_mem _ hq)⟩
theorem LV.dropl : ∀ {X : List Thg}, LV w0 (X ++ L) W → LV w0 L W
  | [], h => h
  | _ :: X, h => LV.dropl (X := X) (LV.tail h)
theorem LV.perm (h : LV w0 L W) (hp : L.Perm L') : LV w0 L' W := ⟨h.1, (hp.map (·.1)).nodup_iff.1 h.2.1, fun q hq => h.2.2 q (hp.mem_iff.2 hq)⟩
theorem LV.swap {p q : Thg} (h : LV w0 (p :: q :: L) W) : LV w0 (q :: p :: L) W := h.perm (.swap _ _ _)
theorem LV.third {p q r : Thg} (h : LV w0 (p :: q :: r :: L) W) : LV w0 (r :: p :: q :: L) W :=
  h.perm (((List.Perm.swap r q L).cons p).trans (.swap r p _))
theorem LV.back3 {p q r : Thg} (h : LV w0 (r :: p :: q :: L) W) : LV w0 (p :: q :: r :: L) W := h.third.third
theorem LV.ne {p : Thg} (h : LV w0 (p :: L) W) : ∀ q, q ∈ L → q.1 ≠ p.1 := fun q hq he => (List.nodup_cons.1 h.2.1).1 (List.mem_map.2 ⟨q, hq, he⟩)
theorem LV.put (h : LV w0 (bk g A t :: L) W) (i : Nat) (v : Value) : LV w0 (bk g (A.setIfInBounds i v) t :: L) (W.setCell ⟨g, i, none⟩ v) := by
  have hn := h.ne
  have h2 : LV w0 L (W.setCell ⟨g, i, none⟩ v) := ⟨h.1.setCell (by exact h.ge) v, h.tail.2.1, fun p hp => ⟨(h.tail.2.2 p hp).1, okSame (h.tail.2.2 p hp).2 (Below.heap_setCell W ⟨g, i, none⟩ v p.1 (by exact hn p hp))⟩⟩
  exact h2.cons h.ge hn (set_at h.at_ v)
theorem LV.row (h : LV w0 (bk g A t :: L) W) (cs : Array Value) : LV w0 (bk g cs t :: L) (W.setRow g cs) := by
  have hn := h.ne
  have h2 : LV w0 L (W.setRow g cs) := ⟨below_setRow h.1 h.ge cs, h.tail.2.1, fun p hp => ⟨(h.tail.2.2 p hp).1, okSame (h.tail.2.2 p hp).2 (setRow_other W g p.1 cs (hn p hp))⟩⟩
  exact h2.cons h.ge hn (setRow_heap W g A cs t (0, 0) h.at_)
/-- What a call in its own world has made comes beside. -/
theorem LV.join (h : LV w0 L W) {R : List Blk} (hr : Live W R W') : LV w0 (lift R ++ L) W' := by
  have h2 := h.call hr.1
  refine ⟨h2.1, ?_, fun p hp => ?_⟩
  · rw [List.map_append, List.nodup_append]
    refine ⟨?_, h2.2.1, ?_⟩
    · have e : (lift R).map (·.1) = R.map (·.1) := by simp [lift]
      rw [e]
      exact hr.2.1
    · intro a ha b hb e
      obtain ⟨p, hp, rfl⟩ := List.mem_map.1 ha
      obtain ⟨q, hq, rfl⟩ := List.mem_map.1 hb
      obtain ⟨r, hr', rfl⟩ := List.mem_map.1 hp
      have h3 := (hr.2.2 r hr').1
      have h4 := Thg.lt (h.2.2 q hq).2
      simp only at e
      omega
  · rcases List.mem_append.1 hp with hp | hp
    · obtain ⟨r, hr', rfl⟩ := List.mem_map.1 hp
      exact ⟨Nat.le_trans h.1.size (hr.2.2 r hr').1, (hr.2.2 r hr').2⟩
    · exact h2.2.2 p hp
/-- .. and as a state that speaks of maps. -/
theorem LV.joinV (h : LV w0 L W) {R : List Thg} (hr : LV W R W') : LV w0 (R ++ L) W' := by
  have h2 := h.call hr.1
  refine ⟨h2.1, ?_, fun p hp => ?_⟩
  · rw [List.map_append, List.nodup_append]
    refine ⟨hr.2.1, h2.2.1, ?_⟩
    intro a ha b hb e
    obtain ⟨p, hp, rfl⟩ := List.mem_map.1 ha
    obtain ⟨q, hq, rfl⟩ := List.mem_map.1 hb
    have h3 := (hr.2.2 p hp).1
    have h4 := Thg.lt (h.2.2 q hq).2
    omega
  · rcases List.mem_append.1 hp with hp | hp
    · exact ⟨Nat.le_trans h.1.size (hr.2.2 p hp).1, (hr.2.2 p hp).2⟩
    · exact h2.2.2 p hp
end
/-! A map is written. -/
section
variable {w0 W W' : World} {L : List Thg} {b : Nat} {l l' : Ents} {T E : TypeId}
theorem LV.turned {p p' : Thg} (h : LV w0 (p :: L) W) (hg : W.grownBy W' (some p.1)) (he : p'.1 = p.1) (ho : p'.ok W') : LV w0 (p' :: L) W' := by
  have hn := h.ne
  have hb : Below w0.heap.size w0 W' := by
    refine ⟨hg.os.trans h.1.os, hg.tape.trans h.1.tape, hg.output.trans h.1.output, Nat.le_trans h.1.size hg.size, fun k hk => ?_⟩
    have h1 := h.ge
    exact (hg.block k (Nat.lt_of_lt_of_le hk h.1.size) (by intro e; have e2 := Option.some.inj e; omega)).trans (h.1.block k hk)
  have h2 : LV w0 L W' := ⟨hb, h.tail.2.1, fun q hq => ⟨(h.tail.2.2 q hq).1, okSame (h.tail.2.2 q hq).2 (hg.block q.1 (Thg.lt (h.tail.2.2 q hq).2) (fun e => hn q hq (Option.some.inj e)))⟩⟩
  refine h2.cons (by rw [he]; exact h.ge) (fun q hq => by rw [he]; exact hn q hq) ho
def lookE (l : Ents) (k : Int) : Option Value := (l.find? fun p => p.1 == k).map (·.2)
def insE (x : Int × Value) : Ents → Ents
  | [] => [x]
  | y :: r => if x.1 < y.1 then x :: y :: r else y :: insE x r
def delE (l : Ents) (k : Int) : Ents := l.filter fun p => p.1 != k
def putE (l : Ents) (k : Int) (v : Value) : Ents := insE (k, v) (delE l k)
theorem atKey_mapD (l : Ents) (k : Int) (z : Value) : (mapD l).atKey (.int .i64 k) (.held z) = .held ((lookE l k).getD z) := by
  unfold mapD DataW.atKey lookE
  simp only
  rw [List.find?_map]
  have e : ((fun p : Lit × DataW Value => p.1.sameKey (.int .i64 k)) ∘ fun p : Int × Value => ((.int .i64 p.1, .held p.2) : Lit × DataW Value)) = fun p => p.1 == k := by
    funext p
    by_cases h : p.1 = k <;> simp [Lit.sameKey, h]
  rw [e]
  cases List.find? (fun p => p.1 == k) l <;> rfl
theorem has_mapD (l : Ents) (k : Int) : Maps.has (mapD l) (.int .i64 k) = (lookE l k).isSome := by
  have e : Maps.has (mapD l) (.int .i64 k) = (l.map fun p => ((.int .i64 p.1, .held p.2) : Lit × DataW Value)).any fun p => p.1.sameKey (.int .i64 k) := rfl
  rw [e]
  unfold lookE
  clear e
  induction l with
  | nil => rfl
  | cons x r ih =>
    simp only [List.map_cons, List.any_cons, List.find?_cons]
    by_cases h : x.1 = k
    · simp [Lit.sameKey, h]
    · have h2 : (x.1 == k) = false := beq_eq_false_iff_ne.2 h
      simp only [h2]
      rw [ih]
      simp [Lit.sameKey, h]
theorem insert_mapD (x : Int × Value) (l : Ents) : DataW.insert ((.int .i64 x.1, .held x.2) : Lit × DataW Value) (l.map fun p => (.int .i64 p.1, .held p.2)) = (insE x l).map fun p => (.int .i64 p.1, .held p.2) := by
  induction l with
  | nil => rfl
  | cons y r ih =>
    simp only [List.map_cons]
    unfold DataW.insert insE
    by_cases h : x.1 < y.1
    · simp [Lit.before, h]
    · simp only [Lit.before, h, decide_false, Bool.false_eq_true, if_false, List.map_cons]
      rw [ih]
theorem filter_mapD (l : Ents) (k : Int) : ((l.map fun p => ((.int .i64 p.1, .held p.2) : Lit × DataW Value)).filter fun p => !p.1.sameKey (.int .i64 k)) = (delE l k).map fun p => (.int .i64 p.1, .held p.2) := by
  unfold delE
  rw [List.filter_map]
  congr 1
  refine List.filter_congr fun p _ => ?_
  by_cases h : p.1 = k <;> simp [Lit.sameKey, h]
theorem del_mapD (l : Ents) (k : Int) : (mapD l).del (.int .i64 k) = mapD (delE l k) := congrArg DataW.map (filter_mapD l k)
theorem put_mapD (l : Ents) (k : Int) (v : Value) : (mapD l).put (.int .i64 k) (.held v) = mapD (putE l k v) := by
  unfold mapD DataW.put putE
  simp only
  rw [filter_mapD]
  exact congrArg DataW.map (insert_mapD (k, v) (delE l k))
theorem size_mapD (l : Ents) : Maps.size (mapD l) = l.length := by simp [mapD, Maps.size]
theorem tight {P : Program} {k : TypeId} {R : Value → Option (DataW Value × List MemPlace)} {n : Nat} {D : DataW Value} (h : W.ownsMap P k R b n D) : W.ownsMap P k R b (Maps.size D) D := by
  obtain ⟨es, clock, hb, F, hs, rfl⟩ := h
  exact ⟨es, clock, hb, F, by simp [Maps.size, length_sorted], rfl⟩
theorem keyI {k : Int} (h0 : -9223372036854775808 ≤ k) (h1 : k < 9223372036854775808) : keyOf Tryz.prog 3 (.int .i64 k) = some (.int .i64 k) := by
  refine Maps.keyOf_int_mk Tryz.underlying3 ?_
  exact WalkArith.wf_i64 (by omega)
variable {k : Int} (h0 : -9223372036854775808 ≤ k) (h1 : k < 9223372036854775808)
include h0 h1
theorem look_run {z : Value} (ht : Tryz.prog.underlying T = some (.map 3 E)) (hz : (zeroValue E).run Tryz.prog W = .ok z W) (h : MapAt W b l) : (Instr.lookup T (.map (some b)) (.int .i64 k) false).run Tryz.prog W = .ok ((lookE l k).getD z) W := by
  obtain ⟨v, ps, hrun, hv⟩ := World.ownsMap.lookup h intKeyed ht hz (zd := .held z) (zp := []) rfl (keyI h0 h1)
  rw [atKey_mapD] at hv
  cases hv
  exact hrun
theorem lookOk_run {z : Value} (ht : Tryz.prog.underlying T = some (.map 3 E)) (hz : (zeroValue E).run Tryz.prog W = .ok z W) (h : MapAt W b l) : (Instr.lookup T (.map (some b)) (.int .i64 k) true).run Tryz.prog W = .ok (.tuple #[(lookE l k).getD z, .bool (lookE l k).isSome]) W := by
  obtain ⟨v, ps, hrun, hv⟩ := World.ownsMap.look_ok h intKeyed ht hz (zd := .held z) (zp := []) rfl (keyI h0 h1)
  rw [atKey_mapD] at hv
  rw [has_mapD] at hrun
  cases hv
  exact hrun
theorem store_run (v : Value) (ht : Tryz.prog.underlying T = some (.map 3 E)) (hn : l.length < 1000000) (h : LV w0 (mp b l :: L) W) : ∃ W', (Instr.mapUpdate T (.map (some b)) (.int .i64 k) v).run Tryz.prog W = .ok () W' ∧ LV w0 (mp b (putE l k v) :: L) W' := by
  have hm : MapAt W b l := h.mem_map (by simp)
  obtain ⟨W', hrun, hown, hg⟩ := World.ownsMap.update hm intKeyed ht (by unfold maxLen; omega) (keyI h0 h1) (d := .held v) (ps := []) rfl
  rw [put_mapD] at hown
  have hown2 := tight hown
  rw [size_mapD] at hown2
  exact ⟨W', hrun, h.turned hg rfl hown2⟩
theorem drop_run (ht : Tryz.prog.underlying T = some (.map 3 E)) (ty : TypeId) (h : LV w0 (mp b l :: L) W) : ∃ W', (Builtin.delete_ #[T, 3] ty #[.map (some b), .int .i64 k]).run Tryz.prog W = .ok (.tuple #[]) W' ∧ LV w0 (mp b (delE l k) :: L) W' := by
  have hm : MapAt W b l := h.mem_map (by simp)
  obtain ⟨W', hrun, hown, hg⟩ := World.ownsMap.drop hm intKeyed ht (keyI h0 h1) ty
  rw [del_mapD] at hown
  have hown2 := tight hown
  rw [size_mapD] at hown2
  exact ⟨W', hrun, h.turned hg.grown rfl hown2⟩
omit h0 h1
theorem len_run (ht : Tryz.prog.underlying T = some (.map 3 E)) (ty : TypeId) (h : MapAt W b l) : (Builtin.len_ #[T] ty #[.map (some b)]).run Tryz.prog W = .ok (.int .i64 (l.length : Nat)) W := by
  have h2 := World.ownsMap.len h ht ty
  rw [size_mapD] at h2
  exact h2
end
/-! The operations on maps, and steps that know the world by its things. -/
section
variable {P : Program} {ops : Array Oper} {Q : Exit → Act → World → Prop} {rest : List Oper} {o : Oper} {a : Act} {w w' : World} {n d : Nat} {v : Value} {m m' : List (Nat × Value)} {w0 : World}
theorem R_mm {t : TypeId} (ho : o.op = .makeMap t none) : (execOp a.eval o).run P w = .ok (.value (.map (some w.heap.size))) (w.alloc (.map #[] 0)) := by
  unfold execOp; rw [ho]; exact fr_v (run_makeMap t w)
theorem R_lk {t : TypeId} {x y : Operand} {c : Bool} {vx vy : Value} (H : Fr a n m) (ho : o.op = .lookup t x y c) (hx : ev1 m x = some vx) (hy : ev1 m y = some vy) (hl : (Instr.lookup t vx vy c).run P w = .ok v w) : (execOp a.eval o).run P w = .ok (.value v) w := by
  unfold execOp; rw [ho]; simp only [H.ev hx, H.ev hy]; exact fr_v hl
theorem R_mu {t : TypeId} {x y z : Operand} {vx vy vz : Value} (H : Fr a n m) (ho : o.op = .mapUpdate t x y z) (hx : ev1 m x = some vx) (hy : ev1 m y = some vy) (hz : ev1 m z = some vz) (hl : (Instr.mapUpdate t vx vy vz).run P w = .ok () w') : (execOp a.eval o).run P w = .ok .skip w' := by
  unfold execOp; rw [ho]; simp only [H.ev hx, H.ev hy, H.ev hz]; exact fr_u hl
theorem R_lenM {x : Operand} {t : TypeId} {vx : Value} (H : Fr a n m) (ho : o.op = .call { callee := .builtin .len, args := #[x], argTypes := #[t] }) (hx : ev1 m x = some vx) (hl : (Builtin.len_ #[t] o.type #[vx]).run P w = .ok v w) : (execOp a.eval o).run P w = .ok (.value v) w := by
  have e1 := H.ev hx
  unfold execOp
  rw [ho]
  generalize a.eval = ρ at *
  simp [resolve, invoke, builtin, go_sem, e1, hl]
theorem R_dl {x y : Operand} {t u : TypeId} {vx vy : Value} (H : Fr a n m) (ho : o.op = .call { callee := .builtin .delete, args := #[x, y], argTypes := #[t, u] }) (hx : ev1 m x = some vx) (hy : ev1 m y = some vy) (hl : (Builtin.delete_ #[t, u] o.type #[vx, vy]).run P w = .ok v w') : (execOp a.eval o).run P w = .ok (.value v) w' := by
  have e1 := H.ev hx
  have e2 := H.ev hy
  unfold execOp
  rw [ho]
  generalize a.eval = ρ at *
  simp [resolve, invoke, builtin, go_sem, e1, e2, hl]
theorem h_opS (L' : List Thg) (H : Fr a n m) (hd : o.dst = some d) (hg : Region.wanted o (yielded ops a.tmps) = true) (hr : (execOp a.eval o).run P w = .ok (.value v) w') (hL : LV w0 L' w') (hn : Nat.blt d n = true) (hp : Picks ((d, v) :: m) m')
    (k : ∀ a' w', Fr a' n m' → LV w0 L' w' → wpList P ops Q rest a' w') : wpList P ops Q (o :: rest) a w :=
  h_op H hd hg hr hn hp fun a' H' => k a' w' H' hL
theorem h_stS (L' : List Thg) (H : Fr a n m) (hd : o.dst = none) (hg : Region.wanted o (yielded ops a.tmps) = true) (hr : (execOp a.eval o).run P w = .ok .skip w') (hL : LV w0 L' w')
    (k : ∀ a' w', Fr a' n m → LV w0 L' w' → wpList P ops Q rest a' w') : wpList P ops Q (o :: rest) a w :=
  h_st H hd hg hr fun a' H' => k a' w' H' hL
/-- An operation that leaves a value nowhere. -/
theorem h_noS (L' : List Thg) (H : Fr a n m) (hd : o.dst = none) (hg : Region.wanted o (yielded ops a.tmps) = true) (hr : (execOp a.eval o).run P w = .ok (.value v) w') (hL : LV w0 L' w')
    (k : ∀ a' w', Fr a' n m → LV w0 L' w' → wpList P ops Q rest a' w') : wpList P ops Q (o :: rest) a w :=
  wpList_step fun K hK => by
    rw [if_pos hg]
    unfold Oper.wp
    rw [hr]
    simp only [Oper.upon, hd]
    exact hK _ _ (k _ _ H hL)
end
end Go.Proofs.YtnjfjdfjheiocaaGreat
