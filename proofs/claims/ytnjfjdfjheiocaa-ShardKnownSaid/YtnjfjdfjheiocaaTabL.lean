/-
  Short steps, the world behind known by its list; comparisons and sums.
-/
import Derived.Test.YtnjfjdfjheiocaaTab
import Derived.Test.YtnjfjdfjheiocaaShB
set_option linter.unusedSimpArgs false
set_option linter.unusedVariables false
namespace Go.Proofs.Ytnjfjdfjheiocaa
open Go.RowKit
section
variable {ops : Array Oper} {Q : Exit → Act → World → Prop} {md : Region.Mode} {S : World → Prop} {l l' : List Oper} {a : Act} {w w' w0 : World} {n d fuel f i : Nat} {v : Value} {m m' m1 : List (Nat × Value)} {e : EOp} {t : TypeId} {p u : Value} {vs : List Value} {R : Ending → World → Prop} {listed : Array Bool} {K : Act → World → Prop} {L' : List Thg}
theorem uvS (N : Nat) (H : Fr a n m) (h : prunE tab ops n N l m (kV n) = some (l', m1, d, e)) (hr : e.run.run Try.prog w = .ok v w') (hL : LV w0 L' w') (hm : putO m1 d v = some m') (k : ∀ a' w', Fr a' n m' → LV w0 L' w' → wpList Try.prog ops Q l' a' w') : wpList Try.prog ops Q l a w := uv N H h hr hm fun a' H' => k a' w' H' hL
theorem unS (N : Nat) (H : Fr a n m) (h : prunE tab ops n N l m kN = some (l', m1, e)) (hr : e.run.run Try.prog w = .ok v w') (hL : LV w0 L' w') (k : ∀ a' w', Fr a' n m1 → LV w0 L' w' → wpList Try.prog ops Q l' a' w') : wpList Try.prog ops Q l a w := un N H h hr fun a' H' => k a' w' H' hL
theorem ustS (N : Nat) (H : Fr a n m) (h : prunE tab ops n N l m kS = some (l', m1, t, p, v)) (hr : (Instr.storeAt t p v).run Try.prog w = .ok () w') (hL : LV w0 L' w') (k : ∀ a' w', Fr a' n m1 → LV w0 L' w' → wpList Try.prog ops Q l' a' w') : wpList Try.prog ops Q l a w := ust N H h hr fun a' H' => k a' w' H' hL
theorem umuS (N : Nat) (H : Fr a n m) (h : prunE tab ops n N l m kM = some (l', m1, t, p, u, v)) (hr : (Instr.mapUpdate t p u v).run Try.prog w = .ok () w') (hL : LV w0 L' w') (k : ∀ a' w', Fr a' n m1 → LV w0 L' w' → wpList Try.prog ops Q l' a' w') : wpList Try.prog ops Q l a w := umu N H h hr fun a' H' => k a' w' H' hL
theorem ouS (i : Nat) (H : Fr a n m) (h : kVA ops n i m = some (m1, d, e)) (hr : e.run.run Try.prog w = .ok v w') (hL : LV w0 L' w') (hm : putO m1 d v = some m') (k : ∀ a' w', Fr a' n m' → LV w0 L' w' → K a' w') : wpOp Try.prog ops Q i K a w := o_uv i H h hr hm fun a' H' => k a' w' H' hL
theorem ostS (i : Nat) (H : Fr a n m) (h : kSA ops i m = some (t, p, v)) (hr : (Instr.storeAt t p v).run Try.prog w = .ok () w') (hL : LV w0 L' w') (k : ∀ a' w', Fr a' n m → LV w0 L' w' → K a' w') : wpOp Try.prog ops Q i K a w := o_ust i H h hr fun a' H' => k a' w' H' hL
end
section
variable {w : World} {t : TypeId} {X Y : Operand} {x y : Int} {k : IntKind}
theorem lt_t (h : x < y) : (EOp.bin .lss t X Y (.int k x) (.int k y)).run.run Try.prog w = .ok (.bool true) w := by simp [go_sem, h]
theorem lt_f (h : ¬ x < y) : (EOp.bin .lss t X Y (.int k x) (.int k y)).run.run Try.prog w = .ok (.bool false) w := by simp [go_sem, h]
theorem le_t (h : x ≤ y) : (EOp.bin .leq t X Y (.int k x) (.int k y)).run.run Try.prog w = .ok (.bool true) w := by simp [go_sem, h]
theorem le_f (h : ¬ x ≤ y) : (EOp.bin .leq t X Y (.int k x) (.int k y)).run.run Try.prog w = .ok (.bool false) w := by simp [go_sem, h]
theorem gt_t (h : y < x) : (EOp.bin .gtr t X Y (.int k x) (.int k y)).run.run Try.prog w = .ok (.bool true) w := by simp [go_sem, h]
theorem gt_f (h : ¬ y < x) : (EOp.bin .gtr t X Y (.int k x) (.int k y)).run.run Try.prog w = .ok (.bool false) w := by simp [go_sem, h]
theorem ge_t (h : y ≤ x) : (EOp.bin .geq t X Y (.int k x) (.int k y)).run.run Try.prog w = .ok (.bool true) w := by simp [go_sem, h]
theorem ge_f (h : ¬ y ≤ x) : (EOp.bin .geq t X Y (.int k x) (.int k y)).run.run Try.prog w = .ok (.bool false) w := by simp [go_sem, h]
theorem eq_t (h : x = y) : (EOp.bin .eql t X Y (.int k x) (.int k y)).run.run Try.prog w = .ok (.bool true) w := by simp [go_sem, h]
theorem eq_f (h : x ≠ y) : (EOp.bin .eql t X Y (.int k x) (.int k y)).run.run Try.prog w = .ok (.bool false) w := by simp [go_sem, h]
theorem ne_t (h : x ≠ y) : (EOp.bin .neq t X Y (.int k x) (.int k y)).run.run Try.prog w = .ok (.bool true) w := by simp [go_sem, h]
theorem ne_f (h : x = y) : (EOp.bin .neq t X Y (.int k x) (.int k y)).run.run Try.prog w = .ok (.bool false) w := by simp [go_sem, h]
theorem add_i (h0 : -9223372036854775808 ≤ x + y) (h1 : x + y < 9223372036854775808) : (EOp.bin .add t X Y (.int .i64 x) (.int .i64 y)).run.run Try.prog w = .ok (.int .i64 (x + y)) w := by
  have e : IntKind.i64.wrap (x + y) = x + y := i64_id h0 h1
  simp [go_sem, e]
theorem sub_i (h0 : -9223372036854775808 ≤ x - y) (h1 : x - y < 9223372036854775808) : (EOp.bin .sub t X Y (.int .i64 x) (.int .i64 y)).run.run Try.prog w = .ok (.int .i64 (x - y)) w := by
  have e : IntKind.i64.wrap (x - y) = x - y := i64_id h0 h1
  simp [go_sem, e]
theorem mul_i (h0 : -9223372036854775808 ≤ x * y) (h1 : x * y < 9223372036854775808) : (EOp.bin .mul t X Y (.int .i64 x) (.int .i64 y)).run.run Try.prog w = .ok (.int .i64 (x * y)) w := by
  have e : IntKind.i64.wrap (x * y) = x * y := i64_id h0 h1
  simp [go_sem, e]
end
end Go.Proofs.Ytnjfjdfjheiocaa
