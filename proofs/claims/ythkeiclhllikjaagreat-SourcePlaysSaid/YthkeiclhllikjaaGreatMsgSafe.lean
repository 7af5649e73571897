/-
  msg.safely: what is given up is recovered from: its contract out of its callee's.
-/
import Derived.Test.YthkeiclhllikjaaGreatMsgQa
import Derived.Tactics
import Derived.Tactics2
import Derived.Defers
import Derived.Recover
import Derived.Laws.Pointers
import Derived.WalkKit
import Derived.Lib.Hide
set_option linter.unusedSimpArgs false
set_option linter.unusedVariables false
namespace Go.Proofs.YthkeiclhllikjaaGreat
open Go.RowKit
theorem idle (p : Addr) (w : World) :
  CallsD Tryz.prog 108 #[.pointer (some p)] .returning w fun e u' w' => e = .returned (.tuple #[]) ∧ u' = .returning ∧ w' = w := by
 refine callsD_of_wpS Tryz.func108 rfl fun c₀ cs hu => ?_
 apply wpS_seq
 apply wpS_region
 simp [wpOpsS, go_sem, recoverD, hu, Tryz.ntmps108, Exit.thenS]
 apply wpS_seq
 apply wpS_region
 simp [wpOpsS, go_sem, Exit.thenS]
 refine wpS_cond (t := false) (by simp [Act.eval, Array.replicate]) ?_
 simp only [Bool.false_eq_true, if_false]
 refine wpS_of_wp (wp_skip ?_)
 cases c₀
 simp_all [bodyPostS, results, Tryz.results108]
theorem caught (p : Addr) (x n : Int) (older : List PanicEntry) (w : World) (hc : w.cell? p = some (.int .i64 x)) (hz : w.frozen? p = false) :
  CallsD Tryz.prog 108 #[.pointer (some p)] (.panicking ({ v := .iface 153 (.int .i64 n), recovered := false } :: older)) w fun e u' w' =>
   e = .returned (.tuple #[]) ∧ u' = .panicking ({ v := .iface 153 (.int .i64 n), recovered := true } :: older) ∧ w' = w.setCell p (.int .i64 n) := by
 have hta : ∀ w : World, (Instr.typeAssert (.iface 153 (.int .i64 n)) 20 153 true).run Tryz.prog w = .ok (.tuple #[.int .i64 n, .bool true]) w := fun _ => by kernel_rfl
 refine callsD_of_wpS Tryz.func108 rfl fun c₀ cs hu => ?_
 apply wpS_seq
 apply wpS_region
 simp [wpOpsS, go_sem, recoverD, hu, Tryz.ntmps108, Exit.thenS]
 apply wpS_seq
 apply wpS_region
 simp [wpOpsS, go_sem, Exit.thenS]
 refine wpS_cond (t := true) (by simp [Act.eval, Array.replicate]) ?_
 simp only [if_true]
 apply wpS_seq
 apply wpS_region
 simp [wpOpsS, go_sem, Exit.thenS, hta]
 apply wpS_seq
 apply wpS_seq
 apply wpS_region
 simp [wpOpsS, go_sem, Exit.thenS]
 refine wpS_cond (t := false) (by simp [Act.eval, Array.replicate]) ?_
 simp only [Bool.false_eq_true, if_false]
 refine wpS_of_wp (wp_skip ?_)
 simp only [Exit.thenS]
 apply wpS_region
 simp [wpOpsS, go_sem, hc, hz, bodyPostS, results, Tryz.results108]
def Doors (Q : Int → World → Prop) (e : Ending) (w' : World) : Prop :=
 (e = .returned (.tuple #[]) ∧ Q 0 w') ∨ ∃ n, e = .panicked [{ v := .iface 153 (.int .i64 n), recovered := false }] ∧ Q n w'
theorem safely_bytes (cap : Array Value) (w : World) (Q : Int → World → Prop)
  (hg : Calls Tryz.prog 80 cap (w.alloc (.cells #[.int .i64 0] 23)) (Doors Q))
  (hQ : ∀ n w', Q n w' → w'.heap[w.heap.size]? = some (.cells #[.int .i64 0] 23 (0, 0))) :
  Calls Tryz.prog 79 #[.func (.func 80) #[] cap] w fun e w' =>
   ∃ n w1, e = .returned (.int .i64 n) ∧ Q n w1 ∧ w' = w1.setCell ⟨w.heap.size, 0, none⟩ (.int .i64 n) := by
 have hmf : ∀ (fn : Fn) (first cap : Array Value) (w : World), (Instr.makeFunc fn first cap).run Tryz.prog w = .ok (.func fn first cap) w := fun _ _ _ _ => rfl
 go_enter_defers Tryz.func79, Tryz.ntmps79
 go_wp2_with fail
 refine hg.mono ?_
 rintro e w' (⟨rfl, hq⟩ | ⟨n, rfl, hq⟩)
 ·have hb := hQ _ w' hq
  have hc : w'.cell? ⟨w.heap.size, 0, none⟩ = some (.int .i64 0) := by rw [cells_at hb]; rfl
  have hz := thaw_at hb 0
  go_wp2_with fail
  refine leaves_cons (f := 108) (args := #[.pointer (some ⟨w.heap.size, 0, none⟩)]) (by simp) (by simp [go_sem]) ?_
  refine (idle ⟨w.heap.size, 0, none⟩ _).mono ?_
  rintro e u' w'' ⟨rfl, rfl, rfl⟩
  have hc' : (w'.setCell ⟨w.heap.size, 0, none⟩ (.int .i64 0)).cell? ⟨w.heap.size, 0, none⟩ = some (.int .i64 0) := by rw [cells_at (set_at hb _)]; rfl
  simp [Leaves, settle, results, Tryz.results79, go_sem, hc']
  exact ⟨_, hq, rfl⟩
 ·have hb := hQ _ w' hq
  have hc : w'.cell? ⟨w.heap.size, 0, none⟩ = some (.int .i64 0) := by rw [cells_at hb]; rfl
  have hz := thaw_at hb 0
  show bodyPostD _ _ _ _ _ _
  refine leaves_cons (f := 108) (args := #[.pointer (some ⟨w.heap.size, 0, none⟩)]) (by simp) (by simp [go_sem]) ?_
  refine (caught ⟨w.heap.size, 0, none⟩ 0 n [] _ hc hz).mono ?_
  rintro e u' w'' ⟨rfl, rfl, rfl⟩
  have hc' : (w'.setCell ⟨w.heap.size, 0, none⟩ (.int .i64 n)).cell? ⟨w.heap.size, 0, none⟩ = some (.int .i64 n) := by rw [cells_at (set_at hb _)]; rfl
  simp [Leaves, settle, results, Tryz.results79, go_sem, hc']
  exact ⟨_, hq, rfl⟩
theorem safely_read (cap : Array Value) (w : World) (Q : Int → World → Prop)
  (hg : Calls Tryz.prog 88 cap (w.alloc (.cells #[.int .i64 0] 23)) (Doors Q))
  (hQ : ∀ n w', Q n w' → w'.heap[w.heap.size]? = some (.cells #[.int .i64 0] 23 (0, 0))) :
  Calls Tryz.prog 79 #[.func (.func 88) #[] cap] w fun e w' =>
   ∃ n w1, e = .returned (.int .i64 n) ∧ Q n w1 ∧ w' = w1.setCell ⟨w.heap.size, 0, none⟩ (.int .i64 n) := by
 have hmf : ∀ (fn : Fn) (first cap : Array Value) (w : World), (Instr.makeFunc fn first cap).run Tryz.prog w = .ok (.func fn first cap) w := fun _ _ _ _ => rfl
 go_enter_defers Tryz.func79, Tryz.ntmps79
 go_wp2_with fail
 refine hg.mono ?_
 rintro e w' (⟨rfl, hq⟩ | ⟨n, rfl, hq⟩)
 ·have hb := hQ _ w' hq
  have hc : w'.cell? ⟨w.heap.size, 0, none⟩ = some (.int .i64 0) := by rw [cells_at hb]; rfl
  have hz := thaw_at hb 0
  go_wp2_with fail
  refine leaves_cons (f := 108) (args := #[.pointer (some ⟨w.heap.size, 0, none⟩)]) (by simp) (by simp [go_sem]) ?_
  refine (idle ⟨w.heap.size, 0, none⟩ _).mono ?_
  rintro e u' w'' ⟨rfl, rfl, rfl⟩
  have hc' : (w'.setCell ⟨w.heap.size, 0, none⟩ (.int .i64 0)).cell? ⟨w.heap.size, 0, none⟩ = some (.int .i64 0) := by rw [cells_at (set_at hb _)]; rfl
  simp [Leaves, settle, results, Tryz.results79, go_sem, hc']
  exact ⟨_, hq, rfl⟩
 ·have hb := hQ _ w' hq
  have hc : w'.cell? ⟨w.heap.size, 0, none⟩ = some (.int .i64 0) := by rw [cells_at hb]; rfl
  have hz := thaw_at hb 0
  show bodyPostD _ _ _ _ _ _
  refine leaves_cons (f := 108) (args := #[.pointer (some ⟨w.heap.size, 0, none⟩)]) (by simp) (by simp [go_sem]) ?_
  refine (caught ⟨w.heap.size, 0, none⟩ 0 n [] _ hc hz).mono ?_
  rintro e u' w'' ⟨rfl, rfl, rfl⟩
  have hc' : (w'.setCell ⟨w.heap.size, 0, none⟩ (.int .i64 n)).cell? ⟨w.heap.size, 0, none⟩ = some (.int .i64 n) := by rw [cells_at (set_at hb _)]; rfl
  simp [Leaves, settle, results, Tryz.results79, go_sem, hc']
  exact ⟨_, hq, rfl⟩
end Go.Proofs.YthkeiclhllikjaaGreat
