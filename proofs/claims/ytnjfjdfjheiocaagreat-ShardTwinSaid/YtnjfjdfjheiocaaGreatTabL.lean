/-
  Short steps, the world behind known by its list; comparisons and sums.
-/
import Derived.Test.YtnjfjdfjheiocaaGreatTab
import Derived.Test.YtnjfjdfjheiocaaGreatShB
set_option linter.unusedSimpArgs false
set_option linter.unusedVariables false
namespace Go.Proofs.YtnjfjdfjheiocaaGreat
open Go.RowKit
section
variable {ops : Array Oper} {Q : Exit → Act → World → Prop} {md : Region.Mode} {S : World → Prop} {l l' : List Oper} {a : Act} {w w' w0 : World} {n d fuel f i : Nat} {v : Value} {m m' m1 : List (Nat × Value)} {e : EOp} {t : TypeId} {p u : Value} {vs : List Value} {R : Ending → World → Prop} {listed : Array Bool} {K : Act → World → Prop} {L' : List Thg}
theorem uvS (N : Nat) (H : Fr a n m) (h : prunE tab ops n N l m (kV n) = some (l', m1, d, e)) (hr : e.run.run Tryz.prog w = .ok v w') (hL : LV w0 L' w') (hm : putO m1 d v = some m') (k : ∀ a' w', Fr a' n m' → LV w0 L' w' → wpList Tryz.prog ops Q l' a' w') : wpList Tryz.prog ops Q l a w := uv N H h hr hm fun a' H' => k a' w' H' hL
theorem unS (N : Nat) (H : Fr a n m) (h : prunE tab ops n N l m kN = some (l', m1, e)) (hr : e.run.run Tryz.prog w = .ok v w') (hL : LV w0 L' w') (k : ∀ a' w', Fr a' n m1 → LV w0 L' w' → wpList Tryz.prog ops Q l' a' w') : wpList Tryz.prog ops Q l a w := un N H h hr fun a' H' => k a' w' H' hL
theorem ustS (N : Nat) (H : Fr a n m) (h : prunE tab ops n N l m kS = some (l', m1, t, p, v)) (hr : (Instr.storeAt t p v).run Tryz.prog w = .ok () w') (hL : LV w0 L' w') (k : ∀ a' w', Fr a' n m1 → LV w0 L' w' → wpList Tryz.prog ops Q l' a' w') : wpList Tryz.prog ops Q l a w := ust N H h hr fun a' H' => k a' w' H' hL
theorem umuS (N : Nat) (H : Fr a n m) (h : prunE tab ops n N l m kM = some (l', m1, t, p, u, v)) (hr : (Instr.mapUpdate t p u v).run Tryz.prog w = .ok () w') (hL : LV w0 L' w') (k : ∀ a' w', Fr a' n m1 → LV w0 L' w' → wpList Tryz.prog ops Q l' a' w') : wpList Tryz.prog ops Q l a w := umu N H h hr fun a' H' => k a' w' H' hL
theorem ouS (i : Nat) (H : Fr a n m) (h : kVA ops n i m = some (m1, d, e)) (hr : e.run.run Tryz.prog w = .ok v w') (hL : LV w0 L' w') (hm : putO m1 d v = some m') (k : ∀ a' w', Fr a' n m' → LV w0 L' w' → K a' w') : wpOp Tryz.prog ops Q i K a w := o_uv i H h hr hm fun a' H' => k a' w' H' hL
theorem omuS (i : Nat) (H : Fr a n m) (h : kMA ops i m = some (t, p, u, v)) (hr : (Instr.mapUpdate t p u v).run Tryz.prog w = .ok () w') (hL : LV w0 L' w') (k : ∀ a' w', Fr a' n m → LV w0 L' w' → K a' w') : wpOp Tryz.prog ops Q i K a w := o_umu i H h hr fun a' H' => k a' w' H' hL
theorem ostS (i : Nat) (H : Fr a n m) (h : kSA ops i m = some (t, p, v)) (hr : (Instr.storeAt t p v).run Tryz.prog w = .ok () w') (hL : LV w0 L' w') (k : ∀ a' w', Fr a' n m → LV w0 L' w' → K a' w') : wpOp Tryz.prog ops Q i K a w := o_ust i H h hr fun a' H' => k a' w' H' hL
end
end Go.Proofs.YtnjfjdfjheiocaaGreat
