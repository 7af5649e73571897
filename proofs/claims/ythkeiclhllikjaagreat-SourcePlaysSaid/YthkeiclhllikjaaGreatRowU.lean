/-
  A parameter that is a table, opened.
-/
import Derived.Test.YthkeiclhllikjaaGreatRowS
set_option linter.unusedSimpArgs false
set_option linter.unusedVariables false
namespace Go.Proofs.YthkeiclhllikjaaGreat
open Go.ChangeShapes Go.WideShapes Go.ChangeAt Go.RowKit Go.Joins
section
variable {H : Type} {enc : TypeId × Value → H} {w : World} {base : Nat}
theorem array3 {α : Type} {cs : Array α} (h : cs.size = 3) : ∃ c0 c1 c2, cs = #[c0, c1, c2] := by
 obtain ⟨l⟩ := cs
 match l, h with
 | [c0, c1, c2], _ => exact ⟨_, _, _, rfl⟩
set_option maxRecDepth 100000 in
theorem open_tabV {r : Reach} {b0 : Nat} {v : Value} {d : DataW H} {p : List MemPlace} (hv : Value.okWide Tryz.prog w r b0 28 v) (h : DataW.Trod enc Tryz.prog w base (fun _ => true) true 28 v d p) :
  ∃ (t : PTab) (vo : Value), v = .agg (tbC t vo) ∧ Rd w vo t.own ∧ t.own.length ≤ maxLen := by
 obtain ⟨cs, rfl, hsz⟩ := okWide_struct Tryz.underlying28 hv
 obtain ⟨fuel, hf⟩ := h
 obtain ⟨ts, n3, _, hx3, hcl, hlen3, ht⟩ := DataW.trod_struct Tryz.underlying28 hf
 obtain ⟨c0, c1, c2, rfl⟩ := array3 (cs := cs) (by simpa [Value.cells] using hcl.trans cs27)
 match ts, hlen3 with
 | [u0, u1, u2], _ =>
  have t0 := ht 0 _ rfl
  have t1 := ht 1 _ rfl
  have t2 := ht 2 _ rfl
  simp [Value.cells, cs3, cs25, cs27] at t0 t1 t2
  obtain ⟨x0, rfl, _⟩ := one_int Tryz.underlying3 t0
  obtain ⟨x1, rfl, _⟩ := one_int Tryz.underlying3 t1
  obtain ⟨l, hr, hm⟩ := one_list t2
  exact ⟨⟨x0, x1, l⟩, c2, rfl, hr, hm⟩
end
end Go.Proofs.YthkeiclhllikjaaGreat
