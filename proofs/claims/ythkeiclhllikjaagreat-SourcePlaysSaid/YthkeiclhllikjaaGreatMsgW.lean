/-
  msg.held where it gives up; msg.writer's methods.
-/
import Derived.Test.YthkeiclhllikjaaGreatMsgQb
import Derived.Test.YthkeiclhllikjaaGreatMsgIn
import Derived.StillTailTactics
set_option linter.unusedSimpArgs false
set_option linter.unusedVariables false
namespace Go.Proofs.YthkeiclhllikjaaGreat
open Go.RowKit
def gave (n : Int) : Ending := .panicked [{ v := .iface 153 (.int .i64 n), recovered := false }]
theorem held_low {n m : Int} {w : World} (h0 : n < 0) : Calls Tryz.prog 149 #[.int .i64 n, .int .i64 m] w fun e w' => e = gave 1 ∧ w' = w := by
 have e1 : decide (n < 0) = true := decide_eq_true h0
 clear h0
 go_enter Tryz.func149, Tryz.ntmps149
 go_wp2
 exact ⟨rfl, rfl, rfl⟩
theorem held_high {n m : Int} {w : World} (h0 : 0 ≤ n) (h1 : m < n) : Calls Tryz.prog 149 #[.int .i64 n, .int .i64 m] w fun e w' => e = gave 1 ∧ w' = w := by
 have e1 : decide (n < 0) = false := decide_eq_false (by omega)
 have e2 : decide (m < n) = true := decide_eq_true h1
 clear h0 h1
 go_enter Tryz.func149, Tryz.ntmps149
 go_wp2
 exact ⟨rfl, rfl, rfl⟩
section
variable {w0 W : World} {B L : List Blk} {v : Value} {xs : List Nat} {r p i : Nat} {t : TypeId} {A : Array Value}
set_option maxRecDepth 100000 in
theorem wnum_ok {n : Int} (h0 : 0 ≤ n) (h1 : n ≤ 2147483647) (hr : RowIs 5 v (u8s xs) B) (h : Live w0 (B ++ (r, #[v], 124) :: (p, A, t) :: L) W) (hA : A[i]? = some (.int .i64 n)) (hn : xs.length + 20 ≤ 140737488355328) :
  Calls Tryz.prog 144 #[.pointer (some ⟨r, 0, none⟩), .pointer (some ⟨p, i, none⟩)] W fun e W' =>
   ∃ v' B', e = .returned (.tuple #[]) ∧ RowIs 5 v' (u8s (xs ++ vbytes n.toNat)) B' ∧ Live w0 (B' ++ (r, #[v'], 124) :: (p, A, t) :: L) W' := by
 have cp : W.cell? ⟨p, i, none⟩ = some (.int .i64 n) := by rw [cells_at (h.mem_at (g := p) (A := A) (t := t) (by simp))]; exact hA
 go_enter Tryz.func144, Tryz.ntmps144
 go_wp2_with fail
 go_still_tail 7, (by kernel_rfl)
 still_call (held_ok h0 h1 (by omega))
 refine wpStill_nil ?_
 change wpList _ _ _ _ _ W.drew
 have h' := h.drew
 have hp := outNum_ok (x := n.toNat) (by omega) hr h' hn
 rw [Int.toNat_of_nonneg h0] at hp
 generalize W.drew = w2 at *
 go_wp2_with fail
 trace_state
 refine hp.mono ?_
 rintro e W' ⟨v', B', rfl, hr', h2⟩
 go_wp2
 go_end0
 exact ⟨_, B', rfl, hr', h2⟩
end
end Go.Proofs.YthkeiclhllikjaaGreat
