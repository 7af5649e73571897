/-
  meterref04.Same in every case.
-/
import Derived.Test.YtmmhchpilcjflaaMsgRef
import Derived.Test.YtmmhchpilcjflaaMsgRefS
import Derived.Test.YtmmhchpilcjflaaMsgGt
set_option linter.unusedSimpArgs false
set_option linter.unusedVariables false
namespace Go.Proofs.Ytmmhchpilcjflaa
open Go.RowKit

theorem great_no {m : PMsg} (h : greatB m = false) : m.set.length ≤ 3000 ∧ m.owner.length ≤ 3000 ∧ m.data.size ≤ 5000 ∧ m.ikey.size ≤ 5000 := by
  simp [greatB] at h
  omega
theorem refSame_any {W : World} {a b : PMsg} {ao aS bo bs : Value} (h1 : Rd W ao a.owner) (h2 : Rd W aS a.set) (h3 : Rd W bo b.owner) (h4 : Rd W bs b.set)
    (l1 : a.owner.length ≤ 1000000000000) (l2 : a.set.length ≤ 1000000000000) (l3 : b.owner.length ≤ 1000000000000) (l4 : b.set.length ≤ 1000000000000) :
    Calls Try.prog 14 #[.agg (mcells a ao aS), .agg (mcells b bo bs)] W fun e W' => e = .returned (.bool (sameB a b)) ∧ Below W.heap.size W W' := by
  by_cases e1 : a.set.length = b.set.length
  · by_cases e2 : a.owner.length = b.owner.length
    · exact refSame_long h1 h2 h3 h4 l1 l2 e1 e2
    · exact refSame_short h1 h2 h3 h4 l1 l2 l3 l4 (.inr ⟨e1, e2⟩)
  · exact refSame_short h1 h2 h3 h4 l1 l2 l3 l4 (.inl e1)
theorem refSame_great {W : World} {a b : PMsg} {ao aS bo bs : Value} (h1 : Rd W ao a.owner) (h2 : Rd W aS a.set) (h3 : Rd W bo b.owner) (h4 : Rd W bs b.set) (ga : greatB a = false) (gb : greatB b = false) :
    Calls Try.prog 14 #[.agg (mcells a ao aS), .agg (mcells b bo bs)] W fun e W' => e = .returned (.bool (sameB a b)) ∧ Below W.heap.size W W' := by
  have ha := great_no ga
  have hb := great_no gb
  exact refSame_any h1 h2 h3 h4 (by omega) (by omega) (by omega) (by omega)
end Go.Proofs.Ytmmhchpilcjflaa
