/-
  Eight cells stored into one block; a struct compared cell by cell.
-/
import Derived.Test.YtnjfjdfjheiocaaMsgQa
set_option linter.unusedSimpArgs false
set_option linter.unusedVariables false
namespace Go.Proofs.Ytnjfjdfjheiocaa
open Go.RowKit

/-- Eight cells stored into one block, one behind the other. -/
theorem store8 {w W : World} {b g : Nat} {T : TypeId} {c0 c1 c2 c3 c4 c5 c6 c7 : Value} (hb : W.heap[g]? = some (.cells #[c0, c1, c2, c3, c4, c5, c6, c7] T (0, 0))) (hl : Below b w W) (hg : b ≤ g) (v0 v1 v2 v3 v4 v5 v6 v7 : Value) :
    ((((((((W.setCell ⟨g, 0, none⟩ v0).setCell ⟨g, 1, none⟩ v1).setCell ⟨g, 2, none⟩ v2).setCell ⟨g, 3, none⟩ v3).setCell ⟨g, 4, none⟩ v4).setCell ⟨g, 5, none⟩ v5).setCell ⟨g, 6, none⟩ v6).setCell ⟨g, 7, none⟩ v7).heap[g]? =
      some (.cells #[v0, v1, v2, v3, v4, v5, v6, v7] T (0, 0)) ∧
    Below b w ((((((((W.setCell ⟨g, 0, none⟩ v0).setCell ⟨g, 1, none⟩ v1).setCell ⟨g, 2, none⟩ v2).setCell ⟨g, 3, none⟩ v3).setCell ⟨g, 4, none⟩ v4).setCell ⟨g, 5, none⟩ v5).setCell ⟨g, 6, none⟩ v6).setCell ⟨g, 7, none⟩ v7) :=
  ⟨by
    have h := set_at (i := 7) (set_at (i := 6) (set_at (i := 5) (set_at (i := 4) (set_at (i := 3) (set_at (i := 2) (set_at (i := 1) (set_at (i := 0) hb v0) v1) v2) v3) v4) v5) v6) v7
    simpa only [List.setIfInBounds_toArray, List.set_cons_zero, List.set_cons_succ] using h,
   (((((((hl.setCell (by exact hg) v0).setCell (by exact hg) v1).setCell (by exact hg) v2).setCell (by exact hg) v3).setCell (by exact hg) v4).setCell (by exact hg) v5).setCell (by exact hg) v6).setCell (by exact hg) v7⟩

end Go.Proofs.Ytnjfjdfjheiocaa
