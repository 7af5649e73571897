/-
  Numbers that fit their kind lie in the kind's bounds.
-/
import Derived.Test.YtoiakejagmeliaaRow
import Derived.Test.YtoiakejagmeliaaAggR
set_option linter.unusedSimpArgs false
set_option linter.unusedVariables false
namespace Go.Proofs.Ytoiakejagmeliaa
open Go.ChangeShapes Go.WideShapes Go.ChangeAt Go.RowKit
theorem r64_wf {a : Int} (h : (Lit.int .i64 a).wf = true) : R64 a := by
  unfold R64
  simp [Lit.wf, IntKind.min, IntKind.max, IntKind.signed, IntKind.bits] at h
  omega
end Go.Proofs.Ytoiakejagmeliaa
