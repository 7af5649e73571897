/-
  Steps in a region that draws its order, where more than one operation that acts may come up.
-/
import Derived.Test.YtnjfjdfjheiocaaGreatFr
set_option linter.unusedSimpArgs false
set_option linter.unusedVariables false
namespace Go.Proofs.YtnjfjdfjheiocaaGreat
open Go.RowKit
section
variable {P : Program} {ops : Array Oper} {Q : Exit → Act → World → Prop} {md : Region.Mode} {S : World → Prop} {o : Oper} {a : Act} {w w' : World} {n d fuel : Nat} {v : Value} {m m' : List (Nat × Value)} {listed : Array Bool}
theorem a_all1 (i : Nat) (hr : Region.ready md ops listed = [i]) (h : wpOp P ops Q i (fun a' w' => S w' ∧ wpAnyH P md ops Q S fuel (listed.setIfInBounds i true) a' w') a w) : wpAnyH P md ops Q S (fuel + 1) listed a w :=
  wpAnyH_all hr (by simp) fun k hk => by
    obtain rfl : k = i := by simpa using hk
    exact h
theorem a_all2 (i j : Nat) (hr : Region.ready md ops listed = [i, j]) (h : wpOp P ops Q i (fun a' w' => S w' ∧ wpAnyH P md ops Q S fuel (listed.setIfInBounds i true) a' w') a w)
    (h2 : wpOp P ops Q j (fun a' w' => S w' ∧ wpAnyH P md ops Q S fuel (listed.setIfInBounds j true) a' w') a w) : wpAnyH P md ops Q S (fuel + 1) listed a w :=
  wpAnyH_all hr (by simp) fun k hk => by
    have hk2 : k = i ∨ k = j := by simpa using hk
    rcases hk2 with rfl | rfl
    · exact h
    · exact h2
theorem o_op {K : Act → World → Prop} (i : Nat) (H : Fr a n m) (hi : ops[i]? = some o) (hd : o.dst = some d) (hg : Region.wanted o (yielded ops a.tmps) = true) (hr : (execOp a.eval o).run P w = .ok (.value v) w') (hn : Nat.blt d n = true) (hp : Picks ((d, v) :: m) m')
    (k : ∀ a', Fr a' n m' → K a' w') : wpOp P ops Q i K a w := by
  unfold wpOp
  simp only [hi, hg, if_true]
  refine .inl ?_
  unfold Oper.wp
  rw [hr]
  simp only [Oper.upon, hd]
  exact k _ (H.put hn hp)
theorem o_call {K : Act → World → Prop} (i : Nat) {f : FuncId} {args : Array Value} (H : Fr a n m) (hi : ops[i]? = some o) (hd : o.dst = some d) (hg : Region.wanted o (yielded ops a.tmps) = true) (hr : (execOp a.eval o).run P w = .ok (.enter f args) w) (hn : Nat.blt d n = true)
    (hc : Calls P f args w fun e w2 => ∃ v, e = .returned v ∧ ∀ a', (∀ m', Picks ((d, v) :: m) m' → Fr a' n m') → K a' w2) : wpOp P ops Q i K a w := by
  unfold wpOp
  simp only [hi, hg, if_true]
  refine .inl ?_
  unfold Oper.wp
  rw [hr]
  simp only [Oper.upon_enter]
  refine Calls.mono hc ?_
  rintro e w2 ⟨v, rfl, h⟩
  simp only [hd]
  exact h _ fun m' hp => H.put hn hp
theorem o_callB {K : Act → World → Prop} {w0 : World} {L : List Blk} (i : Nat) {f : FuncId} {args : Array Value} (H : Fr a n m) (hi : ops[i]? = some o) (hd : o.dst = some d) (hg : Region.wanted o (yielded ops a.tmps) = true) (hr : (execOp a.eval o).run P w = .ok (.enter f args) w) (hn : Nat.blt d n = true)
    (hL : Live w0 L w) (hc : Calls P f args w fun e w2 => e = .returned v ∧ Below w.heap.size w w2) (hp : Picks ((d, v) :: m) m') (k : ∀ a' w2, Fr a' n m' → Live w0 L w2 → K a' w2) : wpOp P ops Q i K a w := by
  refine o_call i H hi hd hg hr hn (hc.mono ?_)
  rintro e w2 ⟨rfl, hb⟩
  exact ⟨v, rfl, fun a' HH => k a' w2 (HH _ hp) (hL.call hb)⟩
/-- A state that more than one order comes to: shown once. -/
theorem dag_cut (R : Act → World → Prop) (fuel' : Nat) (listed' : Array Bool) (h1 : ∀ a' w', R a' w' → wpAnyH P md ops Q S fuel' listed' a' w') (h2 : (∀ a' w', R a' w' → wpAnyH P md ops Q S fuel' listed' a' w') → wpAnyH P md ops Q S fuel listed a w) : wpAnyH P md ops Q S fuel listed a w := h2 h1
theorem dag_use {R : Act → World → Prop} {fuel' : Nat} {listed' : Array Bool} (h : ∀ a' w', R a' w' → wpAnyH P md ops Q S fuel' listed' a' w') (hf : fuel = fuel') (hl : listed = listed') (hR : R a w) : wpAnyH P md ops Q S fuel listed a w := by
  subst hf hl
  exact h _ _ hR
end
end Go.Proofs.YtnjfjdfjheiocaaGreat
