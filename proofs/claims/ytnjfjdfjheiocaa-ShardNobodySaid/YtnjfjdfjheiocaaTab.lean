/-
  This seat's types, as a table; the short steps over it.
-/
import Derived.Test.YtnjfjdfjheiocaaFz
set_option linter.unusedSimpArgs false
set_option linter.unusedVariables false
namespace Go.Proofs.Ytnjfjdfjheiocaa
def tab : Tab := ⟨[(7, [0, 1, 2, 3]), (8, [0, 1, 2, 3]), (13, [0, 1]), (14, [0, 1]), (18, [0]), (19, [0]), (31, [0, 1, 2, 3, 4, 5, 6, 7]), (32, [0, 1, 2, 3, 4, 5, 6, 7]), (43, [0, 1, 2, 3, 4]), (44, [0, 1, 2, 3, 4]), (45, [0, 1, 2]), (46, [0, 1, 2]), (51, [0, 1]), (52, [0, 1]), (61, [0, 1, 2]), (62, [0, 1, 2]), (65, [0, 1]), (66, [0, 1]), (70, [0, 4]), (71, [0, 4]), (85, [0]), (86, [0]), (92, [0, 1]), (93, [0, 1]), (144, [0, 1, 2, 3]), (145, [0, 1, 2, 3]), (156, [0, 1, 2, 3, 4, 5, 6, 7, 8, 9, 10]), (157, [0, 1, 2, 3, 4, 5, 6, 7, 8, 9, 10])], [22, 23, 28, 39], [9, 10, 11], [15, 16, 17, 26, 47, 49, 63, 136, 140, 153]⟩
theorem tab_ok : tab.ok Try.prog = true := by kernel_rfl
section
variable {ops : Array Oper} {Q : Exit → Act → World → Prop} {md : Region.Mode} {S : World → Prop} {l l' : List Oper} {a : Act} {w w' : World} {n d fuel f : Nat} {v : Value} {m m' m1 : List (Nat × Value)} {e : EOp} {t : TypeId} {p u : Value} {vs : List Value} {R : Ending → World → Prop} {listed : Array Bool} {K : Act → World → Prop}
theorem us (N : Nat) (H : Fr a n m) (h : prun tab ops n N l m = some (l', m')) (k : ∀ a', Fr a' n m' → wpList Try.prog ops Q l' a' w) : wpList Try.prog ops Q l a w := h_us tab_ok N H h k
theorem uv (N : Nat) (H : Fr a n m) (h : prunE tab ops n N l m (kV n) = some (l', m1, d, e)) (hr : e.run.run Try.prog w = .ok v w') (hm : putO m1 d v = some m') (k : ∀ a', Fr a' n m' → wpList Try.prog ops Q l' a' w') : wpList Try.prog ops Q l a w := h_uv tab_ok N H h hr hm k
theorem un (N : Nat) (H : Fr a n m) (h : prunE tab ops n N l m kN = some (l', m1, e)) (hr : e.run.run Try.prog w = .ok v w') (k : ∀ a', Fr a' n m1 → wpList Try.prog ops Q l' a' w') : wpList Try.prog ops Q l a w := h_un tab_ok N H h hr k
theorem ust (N : Nat) (H : Fr a n m) (h : prunE tab ops n N l m kS = some (l', m1, t, p, v)) (hr : (Instr.storeAt t p v).run Try.prog w = .ok () w') (k : ∀ a', Fr a' n m1 → wpList Try.prog ops Q l' a' w') : wpList Try.prog ops Q l a w := h_ust tab_ok N H h hr k
theorem umu (N : Nat) (H : Fr a n m) (h : prunE tab ops n N l m kM = some (l', m1, t, p, u, v)) (hr : (Instr.mapUpdate t p u v).run Try.prog w = .ok () w') (k : ∀ a', Fr a' n m1 → wpList Try.prog ops Q l' a' w') : wpList Try.prog ops Q l a w := h_umu tab_ok N H h hr k
theorem uc (N : Nat) (H : Fr a n m) (h : prunE tab ops n N l m (kC n) = some (l', m1, d, f, vs)) (hf : fnOk Try.prog f = true) (c : Calls Try.prog f vs.toArray w R)
    (k : ∀ e w', R e w' → ∃ v, e = .returned v ∧ ∃ m', putO m1 d v = some m' ∧ ∀ a', Fr a' n m' → wpList Try.prog ops Q l' a' w') : wpList Try.prog ops Q l a w := h_uc tab_ok N H h hf c k
theorem aus (N : Nat) (is : List Nat) (hN : is.length = N) (H : Fr a n m) (h : prunA tab ops n is m some = some m') (ho : (Region.noSelect ops && ordOk md ops is listed) = true) (hS : S w) (hQ : NoPan Q)
    (k : ∀ a', Fr a' n m' → wpAnyH Try.prog md ops Q S fuel (setz is listed) a' w) : wpAnyH Try.prog md ops Q S (fuel + N) listed a w := a_us tab_ok hQ is hN H h ho hS k
theorem auv (N : Nat) (is : List Nat) (i : Nat) (hN : is.length + 1 = N) (H : Fr a n m) (h : prunA tab ops n is m (kVA ops n i) = some (m1, d, e)) (ho : (Region.noSelect ops && ordOk md ops (is ++ [i]) listed) = true) (hS : S w) (hQ : NoPan Q)
    (hr : ∀ w, S w → e.run.run Try.prog w = .ok v w) (hm : putO m1 d v = some m') (k : ∀ a', Fr a' n m' → wpAnyH Try.prog md ops Q S fuel (setz (is ++ [i]) listed) a' w) : wpAnyH Try.prog md ops Q S (fuel + N) listed a w := a_uv tab_ok hQ is i hN H h ho hS hr hm k
theorem auq (N : Nat) (is : List Nat) (i : Nat) (hN : is.length + 1 = N) (H : Fr a n m) (h : prunA tab ops n is m (kCA ops n i) = some (m1, d, f, vs)) (ho : (Region.noSelect ops && ordOk md ops (is ++ [i]) listed) = true) (hS : S w) (hQ : NoPan Q) (hf : fnOk Try.prog f = true)
    (hc : ∀ w, S w → Calls Try.prog f vs.toArray w fun e w2 => e = .returned v ∧ w2 = w) (hm : putO m1 d v = some m') (k : ∀ a', Fr a' n m' → wpAnyH Try.prog md ops Q S fuel (setz (is ++ [i]) listed) a' w) : wpAnyH Try.prog md ops Q S (fuel + N) listed a w := a_uq tab_ok hQ is i hN H h ho hS hf hc hm k
end
end Go.Proofs.Ytnjfjdfjheiocaa
