/-
  The boxed aggregates that a law has made so far, carried over calls and new blocks.
-/
import Derived.Test.YtoiakejagmeliaaAggSl
set_option linter.unusedSimpArgs false
set_option linter.unusedVariables false
namespace Go.Proofs.Ytoiakejagmeliaa
open Go.RowKit

def St (w0 : World) (L : List (Nat × Array Value)) (W : World) : Prop :=
  Below w0.heap.size w0 W ∧ ∀ p, p ∈ L → w0.heap.size ≤ p.1 ∧ W.heap[p.1]? = some (.cells p.2 24 (0, 0))
theorem St.init (w : World) : St w [] w := ⟨Below.refl _ _, by simp⟩
theorem St.call {w0 W W' : World} {L : List (Nat × Array Value)} (h : St w0 L W) (hb : Below W.heap.size W W') : St w0 L W' :=
  ⟨h.1.trans (hb.mono h.1.size), fun p hp => ⟨(h.2 p hp).1, (hb.block _ (blk_lt (h.2 p hp).2)).trans (h.2 p hp).2⟩⟩
theorem St.drew {w0 W : World} {L : List (Nat × Array Value)} (h : St w0 L W) : St w0 L W.drew := ⟨h.1.drew, h.2⟩
theorem St.other {w0 W : World} {L : List (Nat × Array Value)} (h : St w0 L W) (o : Obj) : St w0 L (W.alloc o) :=
  ⟨h.1.alloc h.1.size o, fun p hp => ⟨(h.2 p hp).1, blk_old (h.2 p hp).2⟩⟩
theorem St.alloc {w0 W : World} {L : List (Nat × Array Value)} (h : St w0 L W) (A : Array Value) : St w0 ((W.heap.size, A) :: L) (W.alloc (.cells A 24)) :=
  ⟨h.1.alloc h.1.size _, fun p hp => by
    rcases List.mem_cons.1 hp with rfl | hp
    · exact ⟨h.1.size, blk_new _ _ _ rfl⟩
    · exact ⟨(h.2 p hp).1, blk_old (h.2 p hp).2⟩⟩
theorem St.cells {w0 W : World} {L : List (Nat × Array Value)} (h : St w0 L W) (g : Nat) (A : Array Value) (hm : (g, A) ∈ L) (i : Nat) : W.cell? ⟨g, i, none⟩ = A[i]? := cells_at (h.2 _ hm).2 i
theorem St.thaw {w0 W : World} {L : List (Nat × Array Value)} (h : St w0 L W) (g : Nat) (A : Array Value) (hm : (g, A) ∈ L) (i : Nat) : W.frozen? ⟨g, i, none⟩ = false := thaw_at (h.2 _ hm).2 i
theorem St.set {w0 W : World} {L : List (Nat × Array Value)} (h : St w0 L W) {g : Nat} (hg : w0.heap.size ≤ g) (i : Nat) (v : Value) :
    St w0 (L.map fun p => if p.1 = g then (p.1, p.2.setIfInBounds i v) else p) (W.setCell ⟨g, i, none⟩ v) :=
  ⟨h.1.setCell (by exact hg) v, fun p hp => by
    obtain ⟨q, hq, rfl⟩ := List.mem_map.1 hp
    by_cases e : q.1 = g
    · rw [if_pos e]
      refine ⟨(h.2 q hq).1, ?_⟩
      have := set_at (i := i) (h.2 q hq).2 v
      rw [← e]; exact this
    · rw [if_neg e]
      exact ⟨(h.2 q hq).1, blk_set (h.2 q hq).2 (by exact e) v⟩⟩
theorem St.newblk {w0 W : World} {L : List (Nat × Array Value)} (h : St w0 L W) (A : Array Value) :
    (W.alloc (.cells A 24)).heap[W.heap.size]? = some (.cells A 24 (0, 0)) ∧ w0.heap.size ≤ W.heap.size ∧ ∀ p, p ∈ L → p.1 ≠ W.heap.size :=
  ⟨blk_new _ _ _ rfl, h.1.size, fun p hp => Nat.ne_of_lt (blk_lt (h.2 p hp).2)⟩
theorem St.tail {w0 W : World} {L : List (Nat × Array Value)} {p : Nat × Array Value} (h : St w0 (p :: L) W) : St w0 L W := ⟨h.1, fun q hq => h.2 q (List.mem_cons_of_mem _ hq)⟩
theorem St.far {w0 W : World} {L : List (Nat × Array Value)} (h : St w0 L W) {g : Nat} (hg : w0.heap.size ≤ g) (hne : ∀ p, p ∈ L → p.1 ≠ g) (i : Nat) (v : Value) : St w0 L (W.setCell ⟨g, i, none⟩ v) :=
  ⟨h.1.setCell (by exact hg) v, fun p hp => ⟨(h.2 p hp).1, blk_set (h.2 p hp).2 (by exact hne p hp) v⟩⟩
theorem St.store8 {w0 W : World} {L : List (Nat × Array Value)} {g : Nat} {c0 c1 c2 c3 c4 c5 c6 c7 : Value} (h : St w0 L W) (hb : W.heap[g]? = some (.cells #[c0, c1, c2, c3, c4, c5, c6, c7] 24 (0, 0)))
    (hg : w0.heap.size ≤ g) (hne : ∀ p, p ∈ L → p.1 ≠ g) (v0 v1 v2 v3 v4 v5 v6 v7 : Value) :
    St w0 ((g, #[v0, v1, v2, v3, v4, v5, v6, v7]) :: L) ((((((((W.setCell ⟨g, 0, none⟩ v0).setCell ⟨g, 1, none⟩ v1).setCell ⟨g, 2, none⟩ v2).setCell ⟨g, 3, none⟩ v3).setCell ⟨g, 4, none⟩ v4).setCell ⟨g, 5, none⟩ v5).setCell ⟨g, 6, none⟩ v6).setCell ⟨g, 7, none⟩ v7) := by
  have h8 := Go.Proofs.Ytoiakejagmeliaa.store8 hb h.1 hg v0 v1 v2 v3 v4 v5 v6 v7
  have hf := (((((((h.far hg hne 0 v0).far hg hne 1 v1).far hg hne 2 v2).far hg hne 3 v3).far hg hne 4 v4).far hg hne 5 v5).far hg hne 6 v6).far hg hne 7 v7
  refine ⟨h8.2, fun p hp => ?_⟩
  rcases List.mem_cons.1 hp with rfl | hp
  · exact ⟨hg, h8.1⟩
  · exact hf.2 p hp
theorem St.sub {w0 W : World} {L L' : List (Nat × Array Value)} (h : St w0 L W) (hs : ∀ p, p ∈ L' → p ∈ L) : St w0 L' W := ⟨h.1, fun p hp => h.2 p (hs p hp)⟩
theorem St.put1 {w0 W : World} {L : List (Nat × Array Value)} {g : Nat} {A : Array Value} (h : St w0 ((g, A) :: L) W) (hne : ∀ p, p ∈ L → p.1 ≠ g) (i : Nat) (v : Value) : St w0 ((g, A.setIfInBounds i v) :: L) (W.setCell ⟨g, i, none⟩ v) := by
  have h0 := h.2 (g, A) (by simp)
  have hf := h.tail.far h0.1 hne i v
  refine ⟨hf.1, fun p hp => ?_⟩
  rcases List.mem_cons.1 hp with rfl | hp
  · exact ⟨h0.1, set_at h0.2 v⟩
  · exact hf.2 p hp
theorem SliceOf.form {W : World} {v : Value} {zs : List Int} (h : SliceOf W v zs) : ∃ a cap, v = .slice a zs.length cap := by
  rcases h with ⟨rfl, a, cap, rfl⟩ | ⟨_, b, off, cap, rfl, _⟩
  · exact ⟨a, cap, rfl⟩
  · exact ⟨_, cap, rfl⟩
theorem St.list {w0 W : World} {L : List (Nat × Array Value)} {v : Value} {zs : List Int} (h : St w0 L W) (hs : SliceOf w0 v zs) : SliceOf W v zs := hs.later h.1 (Nat.le_refl _)
end Go.Proofs.Ytoiakejagmeliaa
