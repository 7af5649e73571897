/-
  meterref04.Same where the lists' lengths differ.
-/
import Derived.Test.YtmmhchpilcjflaaMsgEq
set_option linter.unusedSimpArgs false
set_option linter.unusedVariables false
namespace Go.Proofs.Ytmmhchpilcjflaa
open Go.RowKit

section
variable {W : World} {a b : PMsg} {ao aS bo bs : Value}
set_option maxHeartbeats 16000000 in
set_option maxRecDepth 100000 in
theorem refSame_short (h1 : Rd W ao a.owner) (h2 : Rd W aS a.set) (h3 : Rd W bo b.owner) (h4 : Rd W bs b.set)
    (l1 : a.owner.length ≤ 1000000000000) (l2 : a.set.length ≤ 1000000000000) (l3 : b.owner.length ≤ 1000000000000) (l4 : b.set.length ≤ 1000000000000) (e : a.set.length ≠ b.set.length ∨ (a.set.length = b.set.length ∧ a.owner.length ≠ b.owner.length)) :
    Calls Try.prog 14 #[.agg (mcells a ao aS), .agg (mcells b bo bs)] W fun e W' => e = .returned (.bool (sameB a b)) ∧ Below W.heap.size W W' := by
  have hs : sameB a b = false := by
    rcases e with e | ⟨_, e⟩
    · have : a.set ≠ b.set := fun h => e (by rw [h])
      simp [sameB, this]
    · have : a.owner ≠ b.owner := fun h => e (by rw [h])
      simp [sameB, this]
  rw [hs]
  obtain ⟨A1, c1, rfl, n1⟩ := h1.kd (by omega)
  obtain ⟨A2, c2, rfl, n2⟩ := h2.kd (by omega)
  obtain ⟨A3, c3, rfl, n3⟩ := h3.kd (by omega)
  obtain ⟨A4, c4, rfl, n4⟩ := h4.kd (by omega)
  have hL := ((Live.init W).alloc (mcells a (.slice A1 a.owner.length c1) (.slice A2 a.set.length c2)) 29).alloc (mcells b (.slice A3 b.owner.length c3) (.slice A4 b.set.length c4)) 29
  have hs1 : ∀ (w : World) (o : Obj), (w.alloc o).heap.size = w.heap.size + 1 := fun w o => by simp
  simp only [hs1] at hL
  have a20 : ((W.alloc (.cells (mcells a (.slice A1 a.owner.length c1) (.slice A2 a.set.length c2)) 29)).alloc (.cells (mcells b (.slice A3 b.owner.length c3) (.slice A4 b.set.length c4)) 29)).cell? ⟨W.heap.size, 20, none⟩ = some (.slice A2 a.set.length c2) := hL.tail.cell 20
  have a19 : ((W.alloc (.cells (mcells a (.slice A1 a.owner.length c1) (.slice A2 a.set.length c2)) 29)).alloc (.cells (mcells b (.slice A3 b.owner.length c3) (.slice A4 b.set.length c4)) 29)).cell? ⟨W.heap.size, 19, none⟩ = some (.slice A1 a.owner.length c1) := hL.tail.cell 19
  have b20 : ((W.alloc (.cells (mcells a (.slice A1 a.owner.length c1) (.slice A2 a.set.length c2)) 29)).alloc (.cells (mcells b (.slice A3 b.owner.length c3) (.slice A4 b.set.length c4)) 29)).cell? ⟨W.heap.size + 1, 20, none⟩ = some (.slice A4 b.set.length c4) := hL.cell 20
  have b19 : ((W.alloc (.cells (mcells a (.slice A1 a.owner.length c1) (.slice A2 a.set.length c2)) 29)).alloc (.cells (mcells b (.slice A3 b.owner.length c3) (.slice A4 b.set.length c4)) 29)).cell? ⟨W.heap.size + 1, 19, none⟩ = some (.slice A3 b.owner.length c3) := hL.cell 19
  rcases e with e | ⟨e0, e⟩
  · have g1 : ((a.set.length : Int) != b.set.length) = true := bne_iff_ne.2 (by omega)
    clear h1 h2 h3 h4 l1 l2 l3 l4 n1 n2 n3 n4 e hs
    go_enter Try.func14, Try.ntmps14
    go_wp2
    go_ret
    exact ⟨rfl, hL.1⟩
  · have g1 : ((a.set.length : Int) != b.set.length) = false := by rw [e0]; simp
    have g2 : ((a.owner.length : Int) != b.owner.length) = true := bne_iff_ne.2 (by omega)
    clear h1 h2 h3 h4 l1 l2 l3 l4 n1 n2 n3 n4 e e0 hs
    go_enter Try.func14, Try.ntmps14
    go_wp2
    go_ret
    exact ⟨rfl, hL.1⟩
end
end Go.Proofs.Ytmmhchpilcjflaa
