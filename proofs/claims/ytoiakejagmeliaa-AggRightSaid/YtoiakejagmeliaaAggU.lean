/-
  Aggregates as records: the program's Put and Join in one contract each; what a list adds up to.
-/
import Derived.Test.YtoiakejagmeliaaAggP
import Derived.Test.YtoiakejagmeliaaAggR
set_option linter.unusedSimpArgs false
set_option linter.unusedVariables false
namespace Go.Proofs.Ytoiakejagmeliaa
open Go.RowKit

structure A8 where
  c : Int
  s : Int
  mn : Int
  mx : Int
  h0 : Int
  h1 : Int
  h2 : Int
  h3 : Int
def A8.arr (a : A8) : Array Value := #[.int .i64 a.c, .int .i64 a.s, .int .i64 a.mn, .int .i64 a.mx, .int .i64 a.h0, .int .i64 a.h1, .int .i64 a.h2, .int .i64 a.h3]
def A8.zero : A8 := ⟨0, 0, 0, 0, 0, 0, 0, 0⟩
def A8.ok (a : A8) : Prop := R64 a.c ∧ R64 a.s ∧ R64 a.mn ∧ R64 a.mx ∧ R64 a.h0 ∧ R64 a.h1 ∧ R64 a.h2 ∧ R64 a.h3
def put8 (a : A8) (v : Int) : A8 := ⟨plusW a.c 1, plusW a.s v, jmn a.c 1 a.mn v, jmx a.c 1 a.mx v, plusW a.h0 (hI v 0), plusW a.h1 (hI v 1), plusW a.h2 (hI v 2), plusW a.h3 (hI v 3)⟩
def join8 (a b : A8) : A8 := ⟨plusW a.c b.c, plusW a.s b.s, jmn a.c b.c a.mn b.mn, jmx a.c b.c a.mx b.mx, plusW a.h0 b.h0, plusW a.h1 b.h1, plusW a.h2 b.h2, plusW a.h3 b.h3⟩
def of8 (l : List Int) : A8 := l.foldl put8 A8.zero

theorem put_8 (a : A8) (v : Int) (w : World) : Calls Try.prog 14 #[.agg a.arr, .int .i64 v] w fun e w' => e = .returned (.agg (put8 a v).arr) ∧ Below w.heap.size w w' :=
  put_any _ _ _ _ _ _ _ _ _ _
theorem join_8 (a b : A8) (w : World) : Calls Try.prog 16 #[.agg a.arr, .agg b.arr] w fun e w' => e = .returned (.agg (join8 a b).arr) ∧ Below w.heap.size w w' :=
  join_any _ _ _ _ _ _ _ _ _ _ _ _ _ _ _ _ _
theorem of8_snoc (zs : List Int) (k : Nat) (hk : k < zs.length) : of8 (zs.take (k + 1)) = put8 (of8 (zs.take k)) (zs.getD k 0) := by
  unfold of8
  rw [List.take_add_one, List.foldl_append]
  simp [List.getD, List.getElem?_eq_getElem hk]
end Go.Proofs.Ytoiakejagmeliaa
