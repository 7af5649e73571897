/-
  pack.In's small methods, and msg.held: contracts. A reader is a block of three cells: the text, where it stands, its fault.
-/
import Derived.Test.YthkeiclhllikjaaGreatMsgQa
import Derived.Tactics
import Derived.Tactics2
import Derived.Laws.Pointers
import Derived.WalkKit
import Derived.Deep.QuietTactic
set_option linter.unusedSimpArgs false
set_option linter.unusedVariables false
namespace Go.Proofs.YthkeiclhllikjaaGreat
open Go.RowKit
theorem i64_id {n : Int} (h0 : -9223372036854775808 ≤ n) (h1 : n < 9223372036854775808) : IntKind.i64.wrap n = n := by
 simp only [IntKind.wrap, show IntKind.i64.bits = 64 from rfl, show IntKind.i64.signed = true from rfl, Bool.true_and, decide_eq_true_eq, ge_iff_le]
 omega
def InAt (w : World) (g : Nat) (s : ByteArray) (n b : Int) : Prop := w.heap[g]? = some (.cells #[.string s, .int .i64 n, .int .i64 b] 177 (0, 0))
section
variable {w : World} {g : Nat} {s : ByteArray} {n b : Int}
theorem InAt.c0 (h : InAt w g s n b) : w.cell? ⟨g, 0, none⟩ = some (.string s) := by rw [cells_at h]; rfl
theorem InAt.c1 (h : InAt w g s n b) : w.cell? ⟨g, 1, none⟩ = some (.int .i64 n) := by rw [cells_at h]; rfl
theorem InAt.c2 (h : InAt w g s n b) : w.cell? ⟨g, 2, none⟩ = some (.int .i64 b) := by rw [cells_at h]; rfl
theorem fault_ok (h : InAt w g s n 0) : Calls Tryz.prog 115 #[.pointer (some ⟨g, 0, none⟩)] w fun e w' => e = .returned (.tuple #[.int .i64 0, .int .i64 0]) ∧ Below w.heap.size w w' := by
 have h2 := h.c2
 have h1 := h.c1
 go_enter Tryz.func115, Tryz.ntmps115
 go_wp2
 exact bodyPost_ret (v := .tuple #[.int .i64 0, .int .i64 0]) (by simp [results, Tryz.results115, go_sem]) rfl ⟨rfl, Below.refl _ _⟩
theorem fault_bad (hb : b ≠ 0) (h : InAt w g s n b) : Calls Tryz.prog 115 #[.pointer (some ⟨g, 0, none⟩)] w fun e w' => e = .returned (.tuple #[.int .i64 b, .int .i64 n]) ∧ Below w.heap.size w w' := by
 have h2 := h.c2
 have h1 := h.c1
 go_enter Tryz.func115, Tryz.ntmps115
 go_wp2
 go_quiet (fail)
 go_wp2
 refine bodyPost_ret (v := .tuple #[.int .i64 b, .int .i64 n]) (by simp [results, Tryz.results115, go_sem]) rfl ⟨rfl, below_drewN (Below.refl _ _) _⟩
theorem left_of (hn : 0 ≤ n) (hs : n ≤ s.size) (hz : s.size < 9223372036854775808) (h : InAt w g s n b) : Calls Tryz.prog 116 #[.pointer (some ⟨g, 0, none⟩)] w fun e w' => e = .returned (.int .i64 (s.size - n)) ∧ Below w.heap.size w w' := by
 have h0 := h.c0
 have h1 := h.c1
 go_enter Tryz.func116, Tryz.ntmps116
 go_wp2
 go_quiet (fail)
 go_wp2
 have hw : IntKind.i64.wrap (↑s.size - n) = ↑s.size - n := i64_id (by omega) (by omega)
 refine bodyPost_ret (v := .int .i64 (s.size - n)) (by simp [results, Tryz.results116, go_sem, hw]) rfl ⟨rfl, below_drewN (Below.refl _ _) _⟩
end
theorem end_ok {w : World} {g : Nat} {s : ByteArray} (h : InAt w g s s.size 0) (hz : s.size < 9223372036854775808) : Calls Tryz.prog 89 #[.pointer (some ⟨g, 0, none⟩)] w fun e w' => e = .returned (.int .i64 0) ∧ Below w.heap.size w w' := by
 go_enter Tryz.func89, Tryz.ntmps89
 go_wp2_with fail
 refine (fault_ok h).mono ?_
 rintro e w' ⟨rfl, hb⟩
 have h' : InAt w' g s s.size 0 := (hb.block _ (blk_lt h)).trans h
 go_wp2_with fail
 refine (left_of (by omega) (by omega) hz h').mono ?_
 rintro e w'' ⟨rfl, hb'⟩
 go_wp2
 trace_state
 refine bodyPost_ret (v := .int .i64 0) (by simp [results, Tryz.results89, go_sem]) rfl ⟨rfl, hb.trans (hb'.mono hb.size)⟩
theorem held_ok {n m : Int} {w : World} (h0 : 0 ≤ n) (h1 : n ≤ m) (hm : m < 9223372036854775808) : Calls Tryz.prog 149 #[.int .i64 n, .int .i64 m] w fun e w' => e = .returned (.int .u64 n) ∧ w' = w := by
 go_enter Tryz.func149, Tryz.ntmps149
 go_wp2
 go_ret
 exact ⟨rfl, rfl⟩
end Go.Proofs.YthkeiclhllikjaaGreat
