/-
  Small lemmas on memory and on regions that draw their order: blocks known whole, an operation (a call too) that gives its value in every world may be taken first.
-/
import Derived.Test.YtnjfjdfjheiocaaGreatRows
import Derived.WalkKit
import Derived.Deep.Quiet
import Derived.Deep.RegionHeld3
import Derived.Laws.Rows
import Derived.WalkSmall
import Derived.Maps.AppendAt
import Derived.Lib.AppendStr
set_option linter.unusedSimpArgs false
set_option linter.unusedVariables false
namespace Go.Proofs.YtnjfjdfjheiocaaGreat
open Go.RowKit

theorem ret_int {k : IntKind} {a b : Int} (h : a = b) : Ending.returned (.int k a) = .returned (.int k b) := by rw [h]
theorem ret_bool {a b : Bool} (h : a = b) : Ending.returned (.bool a) = .returned (.bool b) := by rw [h]

theorem cells_at {w : World} {g : Nat} {cs : Array Value} {t : TypeId} {fr : Nat × Nat} (h : w.heap[g]? = some (.cells cs t fr)) (i : Nat) : w.cell? ⟨g, i, none⟩ = cs[i]? := by simp [World.cell?, h]
theorem thaw_at {w : World} {g : Nat} {cs : Array Value} {t : TypeId} (h : w.heap[g]? = some (.cells cs t (0, 0))) (i : Nat) : w.frozen? ⟨g, i, none⟩ = false := by simp [World.frozen?, h]
theorem set_at {w : World} {g i : Nat} {cs : Array Value} {t : TypeId} {fr : Nat × Nat} (h : w.heap[g]? = some (.cells cs t fr)) (v : Value) : (w.setCell ⟨g, i, none⟩ v).heap[g]? = some (.cells (cs.setIfInBounds i v) t fr) := by
  rw [setCell_eq_setRow w g i cs t fr v h]
  exact setRow_heap w g _ _ t _ h
theorem blk_lt {w : World} {g : Nat} {o : Obj} (h : w.heap[g]? = some o) : g < w.heap.size := (Array.getElem?_eq_some_iff.1 h).1
theorem blk_old {w : World} {g : Nat} {o o' : Obj} (h : w.heap[g]? = some o) : (w.alloc o').heap[g]? = some o :=
  (Below.heap_alloc w o' g (blk_lt h)).trans h
theorem blk_new (w : World) (g : Nat) (o : Obj) (hg : g = w.heap.size) : (w.alloc o).heap[g]? = some o := by
  subst hg; exact heap_alloc_new w o
theorem blk_set {w : World} {g : Nat} {o : Obj} (h : w.heap[g]? = some o) {p : Addr} (hp : g ≠ p.block) (v : Value) : (w.setCell p v).heap[g]? = some o :=
  (Below.heap_setCell w p v g hp).trans h

section
variable {P : Program} {ops : Array Oper} {Q : Exit → Act → World → Prop} {md : Region.Mode} {S : World → Prop}

/-- In every world that meets S the operation yields v (a call: hands v back) and leaves that very world. -/
def Gives (P : Program) (ops : Array Oper) (S : World → Prop) (o : Oper) (v : Value) (a : Act) : Prop :=
  (Region.wanted o (yielded ops a.tmps) = true ∧ ∀ w, S w → o.quietAt P a (fun w' => w' = w) w v) ∨
  (Region.wanted o (yielded ops a.tmps) = false ∧ v = undef)

theorem Gives.wpOp {i : Nat} {o : Oper} {v : Value} {a : Act} (hi : ops[i]? = some o) (hy : Gives P ops S o v a)
    {K : Act → World → Prop} {w : World} (hS : S w) (h : K (a.put o.dst v) w) : wpOp P ops Q i K a w := by
  unfold Go.wpOp
  simp only [hi]
  rcases hy with ⟨hw, hv⟩ | ⟨hw, rfl⟩
  · simp only [hw, if_true]
    refine .inl ?_
    have h3 := hv w hS
    unfold Oper.quietAt at h3
    unfold Oper.wp
    generalize (execOp a.eval o).run P w = r at *
    cases r with
    | ok n w' =>
      cases n <;> simp only [Oper.quietUpon] at h3 <;> simp only [Oper.upon]
      case value u => rw [h3.1, h3.2]; exact h
      case skip => rw [h3.1, ← h3.2]; exact h
      case enter f args =>
        rw [h3.1]
        exact h3.2.mono fun e w'' ⟨he, hw''⟩ => by rw [he, hw'']; exact h
    | halt x w' => simp only [Oper.quietUpon] at h3
  · simp only [hw, Bool.false_eq_true, if_false]; exact h

theorem Gives.of_same {o : Oper} {v : Value} {a a' : Act} (hy : Gives P ops S o v a) (he : execOp a'.eval o = execOp a.eval o)
    (hw : Region.wanted o (yielded ops a'.tmps) = Region.wanted o (yielded ops a.tmps)) : Gives P ops S o v a' := by
  unfold Gives Oper.quietAt at *
  rw [he, hw]
  exact hy

theorem Gives.apart {j : Nat} {oi oj : Oper} {v : Value} (hj : ops[j]? = some oj) (hap : oi.apart ops oj = true)
    (hsi : ∀ cs b, oi.op ≠ .select cs b) (hsj : ∀ cs b, oj.op ≠ .select cs b)
    (hQ : ∀ c a w, Q (.panic c) (a.put oi.dst v) w → Q (.panic c) a w) {K : Act → World → Prop} {a : Act} {w : World}
    (hy : Gives P ops S oi v a) (h : Go.wpOp P ops Q j K (a.put oi.dst v) w) :
    Go.wpOp P ops Q j (fun a' w' => Gives P ops S oi v a' ∧ K (a'.put oi.dst v) w') a w := by
  obtain ⟨h1, h2, h3⟩ := Oper.apart_spec hap
  have keep : ∀ (a : Act), Gives P ops S oi v a → ∀ u, Gives P ops S oi v (a.put oj.dst u) := fun a hy u =>
    hy.of_same (execOp_put oi hsi a oj.dst u h3) (wanted_put oi a oj.dst u h3)
  have keepD : ∀ d, Gives P ops S oi v { a with defers := d :: a.defers } := fun d => hy.of_same rfl rfl
  unfold Go.wpOp at *
  simp only [hj] at *
  rw [wanted_put oj a oi.dst v h1] at h
  split
  · rename_i hw
    simp only [hw, if_true] at h
    rcases h with h | ⟨hasks, hlets⟩
    case inr => exact .inr ⟨by unfold Oper.asks at *; rw [execOp_put oj hsj a oi.dst v h1] at hasks; exact hasks, hlets⟩
    refine .inl ?_
    unfold Oper.wp at *
    rw [execOp_put oj hsj a oi.dst v h1] at h
    generalize (execOp a.eval oj).run P w = r at *
    cases r with
    | ok n w' =>
      cases n <;> simp only [Oper.upon] at h ⊢
      case value u => exact ⟨keep a hy u, by rw [← Act.put_comm a v u h2]; exact h⟩
      case skip => exact ⟨keep a hy _, by rw [← Act.put_comm a v undef h2]; exact h⟩
      case defer d =>
        refine ⟨keep _ (keepD d) _, ?_⟩
        rw [← Act.put_comm _ v undef h2, ← Act.put_defers]
        exact h
      case enter f args =>
        refine Calls.mono h fun e w'' he => ?_
        cases e with
        | returned u => exact ⟨keep a hy u, by rw [← Act.put_comm a v u h2]; exact he⟩
        | panicked c => exact hQ _ _ _ he
        | outgrown => exact he
      case row row args => exact Rows.mono h fun u w'' he => ⟨keep a hy u, by rw [← Act.put_comm a v u h2]; exact he⟩
    | halt x w' =>
      cases x <;> simp only [Oper.upon] at h ⊢
      case panic u => exact hQ _ _ _ h
  · rename_i hw
    simp only [hw] at h
    exact ⟨keep a hy _, by rw [← Act.put_comm a v undef h2]; exact h⟩

/-- An operation that gives its value in every world that meets S, be it a call, may be taken first. -/
theorem gives_first {i : Nat} {oi : Oper} {v : Value} (hi : ops[i]? = some oi) (hsel : ∀ (j : Nat) (o : Oper) cs b, ops[j]? = some o → o.op ≠ .select cs b)
    (hQ : ∀ c a w, Q (.panic c) (a.put oi.dst v) w → Q (.panic c) a w) :
    ∀ (fuel : Nat) (listed : Array Bool) (a : Act) (w : World),
      (∀ j oj, ops[j]? = some oj → j ≠ i → listed.getD j true = false → (∀ e ∈ oj.after, Region.binds md e = true → e.on ≠ i) → oi.apart ops oj = true) →
      i ∈ Region.ready md ops listed → Gives P ops S oi v a → S w →
      wpAnyH P md ops Q S fuel (listed.setIfInBounds i true) (a.put oi.dst v) w → wpAnyH P md ops Q S (fuel + 1) listed a w := by
  intro fuel
  induction fuel with
  | zero =>
    intro listed a w _ hr hy hS H
    refine ⟨fun h => (by rw [h] at hr; cases hr), fun j hj => ?_⟩
    by_cases hji : j = i
    · subst hji; exact hy.wpOp hi hS ⟨hS, H⟩
    · have := ready_mono hj hji
      rw [H.1] at this
      cases this
  | succ fuel ih =>
    intro listed a w hfree hr hy hS H
    refine ⟨fun h => (by rw [h] at hr; cases hr), fun j hj => ?_⟩
    by_cases hji : j = i
    · subst hji; exact hy.wpOp hi hS ⟨hS, H⟩
    · have h1 := H.2 j (ready_mono hj hji)
      obtain ⟨hjun, oj, hoj, hall⟩ := mem_ready.1 hj
      have hnot : ∀ e ∈ oj.after, Region.binds md e = true → e.on ≠ i := fun e he hb heq => by
        have h1 := hall e he hb
        have h0 := (mem_ready.1 hr).1
        rw [heq] at h1
        rcases Nat.lt_or_ge i listed.size with h' | h'
        · simp [h'] at h0 h1; rw [h0] at h1; cases h1
        · simp [Array.getElem?_eq_none h'] at h1
      have h2 := hy.apart hoj (hfree j oj hoj hji hjun hnot) (fun cs b => hsel i oi cs b hi) (fun cs b => hsel j oj cs b hoj) hQ h1
      have hfree' : ∀ k ok, ops[k]? = some ok → k ≠ i → (listed.setIfInBounds j true).getD k true = false →
          (∀ e ∈ ok.after, Region.binds md e = true → e.on ≠ i) → oi.apart ops ok = true := fun k ok hk hki hun hno => by
        refine hfree k ok hk hki ?_ hno
        by_cases hjk : j = k
        · subst hjk; exact hjun
        · rw [getD_set_ne true hjk] at hun; exact hun
      refine wpOp_mono (fun a' w' h3 => ⟨h3.2.1, ih (listed.setIfInBounds j true) a' w' hfree' (ready_mono hr (Ne.symm hji)) h3.1 h3.2.1 ?_⟩) h2
      rw [Array.setIfInBounds_comm _ _ hji]
      exact h3.2.2

/-- The walk's move: number i is taken first. -/
theorem gives_take {i : Nat} {oi : Oper} {v : Value} {fuel : Nat} {listed : Array Bool} {a : Act} {w : World} (hi : ops[i]? = some oi)
    (hs : Region.noSelect ops = true) (hf : Region.free md ops listed i = true) (hr : (Region.ready md ops listed).contains i = true)
    (hQ : ∀ c a w, Q (.panic c) (a.put oi.dst v) w → Q (.panic c) a w) (hy : Gives P ops S oi v a) (hS : S w)
    (h : wpAnyH P md ops Q S fuel (listed.setIfInBounds i true) (a.put oi.dst v) w) : wpAnyH P md ops Q S (fuel + 1) listed a w :=
  gives_first hi (Region.noSelect_spec hs) hQ fuel listed a w (Region.free_spec hi hf) (by simpa using hr) hy hS h
end
end Go.Proofs.YtnjfjdfjheiocaaGreat

/-
  The moves of a drawn region with the operation's own slot written out.
-/
namespace Go.Proofs.YtnjfjdfjheiocaaGreat
open Go.RowKit

section
variable {P : Program} {ops : Array Oper} {Q : Exit → Act → World → Prop} {md : Region.Mode} {S : World → Prop}

theorem take_at {i : Nat} {oi : Oper} {d : Nat} {v : Value} {fuel : Nat} {listed : Array Bool} {a : Act} {w : World} (hi : ops[i]? = some oi) (hd : oi.dst = some d)
    (hs : Region.noSelect ops = true) (hf : Region.free md ops listed i = true) (hr : (Region.ready md ops listed).contains i = true)
    (hQ : ∀ c a w, Q (.panic c) (a.put (some d) v) w → Q (.panic c) a w) (hy : YieldsIf P ops S oi v a) (hS : S w)
    (h : wpAnyH P md ops Q S fuel (listed.setIfInBounds i true) (a.put (some d) v) w) : wpAnyH P md ops Q S (fuel + 1) listed a w :=
  wpAnyH_take hi hs hf hr (by rw [hd]; exact hQ) hy hS (by rw [hd]; exact h)
theorem gives_at {i : Nat} {oi : Oper} {d : Nat} {v : Value} {fuel : Nat} {listed : Array Bool} {a : Act} {w : World} (hi : ops[i]? = some oi) (hd : oi.dst = some d)
    (hs : Region.noSelect ops = true) (hf : Region.free md ops listed i = true) (hr : (Region.ready md ops listed).contains i = true)
    (hQ : ∀ c a w, Q (.panic c) (a.put (some d) v) w → Q (.panic c) a w) (hy : Gives P ops S oi v a) (hS : S w)
    (h : wpAnyH P md ops Q S fuel (listed.setIfInBounds i true) (a.put (some d) v) w) : wpAnyH P md ops Q S (fuel + 1) listed a w :=
  gives_take hi hs hf hr (by rw [hd]; exact hQ) hy hS (by rw [hd]; exact h)
/-- The one operation that may come up is carried out. -/
theorem step_at {i : Nat} {o : Oper} {d : Nat} {fuel : Nat} {listed : Array Bool} {a : Act} {w : World} (hr : Region.ready md ops listed = [i]) (ho : ops[i]? = some o) (hd : o.dst = some d)
    (hw : Region.wanted o (yielded ops a.tmps) = true)
    (h : ∀ K' : Act → World → Prop, Shut (∀ v w, S w → (S w → wpAnyH P md ops Q S fuel (listed.setIfInBounds i true) (a.put (some d) v) w) → K' (a.put (some d) v) w) → Oper.wp P o a w K' Q) :
    wpAnyH P md ops Q S (fuel + 1) listed a w := by
  refine wpAnyH_ready (rs := [i]) hr (by simp) (AllReadyH.cons ho (fun K hK => ?_) AllReadyH.nil)
  rw [if_pos hw]
  exact h K (fun v w hS hW => hK.out _ _ hS (by simpa using hW))
theorem wpAnyH_name {fuel : Nat} {listed : Array Bool} {a : Act} {w : World} (p : World → Prop) (h : p w) (k : ∀ w, p w → wpAnyH P md ops Q S fuel listed a w) : wpAnyH P md ops Q S fuel listed a w := k w h
/-- Either of the two that may come up. -/
theorem step2_at {i j : Nat} {o p : Oper} {d e : Nat} {fuel : Nat} {listed : Array Bool} {a : Act} {w : World} (hr : Region.ready md ops listed = [i, j]) (ho : ops[i]? = some o) (hp : ops[j]? = some p) (hd : o.dst = some d) (he : p.dst = some e)
    (hw : Region.wanted o (yielded ops a.tmps) = true) (hv : Region.wanted p (yielded ops a.tmps) = true)
    (h : ∀ K' : Act → World → Prop, Shut (∀ v w, S w → (S w → wpAnyH P md ops Q S fuel (listed.setIfInBounds i true) (a.put (some d) v) w) → K' (a.put (some d) v) w) → Oper.wp P o a w K' Q)
    (k : ∀ K' : Act → World → Prop, Shut (∀ v w, S w → (S w → wpAnyH P md ops Q S fuel (listed.setIfInBounds j true) (a.put (some e) v) w) → K' (a.put (some e) v) w) → Oper.wp P p a w K' Q) :
    wpAnyH P md ops Q S (fuel + 1) listed a w := by
  refine wpAnyH_ready (rs := [i, j]) hr (by simp) (AllReadyH.cons ho (fun K hK => ?_) (AllReadyH.cons hp (fun K hK => ?_) AllReadyH.nil))
  · rw [if_pos hw]
    exact h K (fun v w hS hW => hK.out _ _ hS (by simpa using hW))
  · rw [if_pos hv]
    exact k K (fun v w hS hW => hK.out _ _ hS (by simpa using hW))
end
end Go.Proofs.YtnjfjdfjheiocaaGreat

/-
  Blocks that a law has made so far, of any type, with their cells: carried over calls, new blocks and stores.
-/
namespace Go.Proofs.YtnjfjdfjheiocaaGreat
open Go.RowKit

abbrev Blk := Nat × Array Value × TypeId
def Live (w0 : World) (L : List Blk) (W : World) : Prop :=
  Below w0.heap.size w0 W ∧ (L.map (·.1)).Nodup ∧ ∀ p, p ∈ L → w0.heap.size ≤ p.1 ∧ W.heap[p.1]? = some (.cells p.2.1 p.2.2 (0, 0))
section
variable {w0 W W' : World} {L L' : List Blk} {g : Nat} {A : Array Value} {t : TypeId}
theorem Live.init (w : World) : Live w [] w := ⟨Below.refl _ _, by simp, by simp⟩
theorem Live.call (h : Live w0 L W) (hb : Below W.heap.size W W') : Live w0 L W' :=
  ⟨h.1.trans (hb.mono h.1.size), h.2.1, fun p hp => ⟨(h.2.2 p hp).1, (hb.block _ (blk_lt (h.2.2 p hp).2)).trans (h.2.2 p hp).2⟩⟩
theorem Live.drew (h : Live w0 L W) : Live w0 L W.drew := ⟨h.1.drew, h.2⟩
theorem Live.drewN (h : Live w0 L W) (n : Nat) : Live w0 L (W.drewN n) := ⟨below_drewN h.1 n, h.2⟩
theorem Live.other (h : Live w0 L W) (o : Obj) : Live w0 L (W.alloc o) :=
  ⟨h.1.alloc h.1.size o, h.2.1, fun p hp => ⟨(h.2.2 p hp).1, blk_old (h.2.2 p hp).2⟩⟩
theorem Live.ne_new (h : Live w0 L W) : ∀ p, p ∈ L → p.1 ≠ W.heap.size := fun p hp => Nat.ne_of_lt (blk_lt (h.2.2 p hp).2)
theorem Live.alloc (h : Live w0 L W) (A : Array Value) (t : TypeId) : Live w0 ((W.heap.size, A, t) :: L) (W.alloc (.cells A t)) := by
  refine ⟨h.1.alloc h.1.size _, ?_, fun p hp => ?_⟩
  · simp only [List.map_cons, List.nodup_cons]
    refine ⟨fun hm => ?_, h.2.1⟩
    obtain ⟨q, hq, he⟩ := List.mem_map.1 hm
    exact h.ne_new q hq he
  · rcases List.mem_cons.1 hp with rfl | hp
    · exact ⟨h.1.size, blk_new _ _ _ rfl⟩
    · exact ⟨(h.2.2 p hp).1, blk_old (h.2.2 p hp).2⟩
theorem Live.at_ (h : Live w0 ((g, A, t) :: L) W) : W.heap[g]? = some (.cells A t (0, 0)) := (h.2.2 (g, A, t) (by simp)).2
theorem Live.ge (h : Live w0 ((g, A, t) :: L) W) : w0.heap.size ≤ g := (h.2.2 (g, A, t) (by simp)).1
theorem Live.cell (h : Live w0 ((g, A, t) :: L) W) (i : Nat) : W.cell? ⟨g, i, none⟩ = A[i]? := cells_at h.at_ i
theorem Live.thaw (h : Live w0 ((g, A, t) :: L) W) (i : Nat) : W.frozen? ⟨g, i, none⟩ = false := thaw_at h.at_ i
theorem Live.mem_at (h : Live w0 L W) (hm : (g, A, t) ∈ L) : W.heap[g]? = some (.cells A t (0, 0)) := (h.2.2 _ hm).2
theorem Live.tail {p : Blk} (h : Live w0 (p :: L) W) : Live w0 L W := ⟨h.1, (List.nodup_cons.1 h.2.1).2, fun q hq => h.2.2 q (List.mem_cons_of_mem _ hq)⟩
theorem Live.perm (h : Live w0 L W) (hp : L.Perm L') : Live w0 L' W := ⟨h.1, (hp.map (·.1)).nodup_iff.1 h.2.1, fun q hq => h.2.2 q (hp.mem_iff.2 hq)⟩
theorem Live.swap {p q : Blk} (h : Live w0 (p :: q :: L) W) : Live w0 (q :: p :: L) W := h.perm (.swap _ _ _)
/-- The third to the front. -/
theorem Live.third {p q r : Blk} (h : Live w0 (p :: q :: r :: L) W) : Live w0 (r :: p :: q :: L) W :=
  h.perm (((List.Perm.swap r q L).cons p).trans (.swap r p _))
theorem Live.far (h : Live w0 L W) (hg : w0.heap.size ≤ g) (hne : ∀ p, p ∈ L → p.1 ≠ g) (i : Nat) (v : Value) : Live w0 L (W.setCell ⟨g, i, none⟩ v) :=
  ⟨h.1.setCell (by exact hg) v, h.2.1, fun p hp => ⟨(h.2.2 p hp).1, blk_set (h.2.2 p hp).2 (by exact hne p hp) v⟩⟩
theorem Live.put (h : Live w0 ((g, A, t) :: L) W) (i : Nat) (v : Value) : Live w0 ((g, A.setIfInBounds i v, t) :: L) (W.setCell ⟨g, i, none⟩ v) := by
  have hn : ∀ p, p ∈ L → p.1 ≠ g := fun p hp he => (List.nodup_cons.1 h.2.1).1 (List.mem_map.2 ⟨p, hp, he⟩)
  have hf := h.tail.far h.ge hn i v
  refine ⟨hf.1, h.2.1, fun p hp => ?_⟩
  rcases List.mem_cons.1 hp with rfl | hp
  · exact ⟨h.ge, set_at h.at_ v⟩
  · exact hf.2.2 p hp
/-- A call that leaves the world as its own start asks: what was, is. -/
theorem Live.below (h : Live w0 L W) : Below w0.heap.size w0 W := h.1
end
end Go.Proofs.YtnjfjdfjheiocaaGreat

/-
  A slice's row among the live blocks: what append leaves.
-/
namespace Go.Proofs.YtnjfjdfjheiocaaGreat
open Go.RowKit

/-- The slice v (of elements of one cell, of type e) owns xs: it is nil, or begins at the head of a block of its own. -/
def RowIs (e : TypeId) (v : Value) (xs : List Value) (B : List Blk) : Prop :=
  (v = .slice none 0 0 ∧ xs = [] ∧ B = []) ∨
  ∃ g cap cur, v = .slice (some ⟨g, 0, none⟩) xs.length cap ∧ B = [(g, cur, e)] ∧ xs.length ≤ cap ∧ cap ≤ maxLen ∧ cur.size = cap ∧ cur.toList.take xs.length = xs

section
variable {w0 W W' : World} {B L : List Blk} {e : TypeId} {v v' : Value} {xs ys : List Value} {n : Nat}
theorem RowIs.nil (e : TypeId) : RowIs e (.slice none 0 0) [] [] := .inl ⟨rfl, rfl, rfl⟩
theorem RowIs.owns (hr : RowIs e v xs B) (h : Live w0 (B ++ L) W) : W.ownsRow w0.heap.size e 1 v xs.length xs := by
  rcases hr with ⟨rfl, rfl, rfl⟩ | ⟨g, cap, cur, rfl, rfl, h1, h2, h3, h4⟩
  · exact World.ownsRow_nil _ _ _ _
  · refine ⟨by simp, .inr ⟨g, cap, cur, rfl, h.ge, h.at_, h1, h2, by simpa using h3, by simpa using h4⟩⟩
theorem RowIs.rest (hr : RowIs e v xs B) (h : Live w0 (B ++ L) W) : Live w0 L W := by
  rcases hr with ⟨rfl, rfl, rfl⟩ | ⟨g, cap, cur, rfl, rfl, h1, h2, h3, h4⟩
  · exact h
  · exact h.tail
theorem RowIs.apart (hr : RowIs e v xs B) (h : Live w0 (B ++ L) W) : ∀ k, v.ownBlock = some k → w0.heap.size ≤ k ∧ k < W.heap.size ∧ ∀ p, p ∈ L → p.1 ≠ k := by
  rcases hr with ⟨rfl, rfl, rfl⟩ | ⟨g, cap, cur, rfl, rfl, h1, h2, h3, h4⟩
  · intro k hk; cases hk
  · intro k hk
    cases hk
    exact ⟨h.ge, blk_lt h.at_, fun p hp he => (List.nodup_cons.1 h.2.1).1 (List.mem_map.2 ⟨p, hp, he⟩)⟩
theorem RowIs.grow (hr : RowIs e v xs B) (h : Live w0 (B ++ L) W) (hown : W'.ownsRow w0.heap.size e 1 v' n ys) (hg : W.grownBy W' v.ownBlock)
    (hat : v'.ownBlock = v.ownBlock ∨ v'.ownBlock = some W.heap.size) : ∃ B', RowIs e v' ys B' ∧ Live w0 (B' ++ L) W' := by
  have hap := hr.apart h
  have hr0 := hr.rest h
  have hL : Live w0 L W' := by
    refine ⟨Below.grown h.1 hg h.1.size fun k hk => (hap k hk).1, hr0.2.1, fun p hp => ⟨(hr0.2.2 p hp).1, ?_⟩⟩
    have hp2 := (hr0.2.2 p hp).2
    exact (hg.block p.1 (blk_lt hp2) (fun he => (hap p.1 he.symm).2.2 p hp rfl)).trans hp2
  rcases hown.2 with ⟨rfl, rfl⟩ | ⟨g, cap, cur, rfl, hb, hblk, h1, h2, h3, h4⟩
  · refine ⟨[], ?_, hL⟩
    have : ys = [] := List.eq_nil_of_length_eq_zero (by simpa using hown.1)
    subst this
    exact RowIs.nil e
  · have hlen : ys.length = n := by simpa using hown.1
    subst hlen
    refine ⟨[(g, cur, e)], .inr ⟨g, cap, cur, rfl, rfl, h1, h2, by simpa using h3, by simpa using h4⟩, hL.1, ?_, ?_⟩
    · simp only [List.cons_append, List.nil_append, List.map_cons, List.nodup_cons]
      refine ⟨fun hm => ?_, hL.2.1⟩
      obtain ⟨q, hq, he⟩ := List.mem_map.1 hm
      rcases hat with hat | hat
      · exact (hap g hat.symm).2.2 q hq he
      · have : g = W.heap.size := by simpa [Value.ownBlock] using hat
        exact hr0.ne_new q hq (he.trans this)
    · intro p hp
      rcases List.mem_cons.1 hp with rfl | hp
      · exact ⟨hb, hblk⟩
      · exact hL.2.2 p hp
end
section
variable {P : Program} {w0 w : World} {B L : List Blk}
/-- append of what lies at an address onto a slice of the call's own. -/
theorem wpList_append_row {ops : Array Oper} {rest : List Oper} {o : Oper} {a : Act} {Q : Exit → Act → World → Prop} (hgd : o.guard = none) (s x : Operand) (t : TypeId)
    (ho : o.op = .call { callee := .builtin .append, args := #[s, x], argTypes := #[t, t] })
    (e : TypeId) (i : TypeInfo) (z : Value) (bytes : Nat) (ht : P.underlying t = some (.slice e)) (hi : P.info? e = some i) (hz : i.zero = some z)
    (hsize : i.size = 1) (hby : i.bytes = bytes) (hzs : z.cells.size = 1)
    (v : Value) (xs : List Value) (hs : a.eval s = v) (hr : RowIs e v xs B) (h : Live w0 (B ++ L) w)
    (ad : Addr) (m c : Nat) (news : List Value) (hx : a.eval x = .slice (some ad) m c) (hl : news.length = m) (hnews : ∀ j u, news[j]? = some u → w.cell? (ad.add j) = some u) (h1 : ∀ u ∈ news, u.oneCell' = true)
    (h63 : xs.length + m ≤ maxLen) (hbytes : (xs.length + m) * bytes ≤ 140737488355328)
    (hk : ∀ v' w' B', RowIs e v' (xs ++ news) B' → Live w0 (B' ++ L) w' → (v' = .slice none 0 0 ↔ v = .slice none 0 0 ∧ m = 0) → wpList P ops Q rest (a.put o.dst v') w') :
    wpList P ops Q (o :: rest) a w := by
  refine wpList_append_own_at w hgd s x t ho w0.heap.size e i z 1 bytes ht hi hz hsize hby hzs (by decide) v xs.length xs hs (hr.owns h) ad m c news hx (by simpa using hl) hnews h1 h63 hbytes h.1.size ?_
  intro v' w' hown hg hnil hat
  obtain ⟨B', hr', hL'⟩ := hr.grow h hown hg hat
  exact hk v' w' B' hr' hL' hnil
end
end Go.Proofs.YtnjfjdfjheiocaaGreat
