/-
  meterlaw04.Great: a message of more than 3000 numbers, or 5000 bytes.
-/
import Derived.Test.YtmmhchpilcjflaaMsgEq
set_option linter.unusedSimpArgs false
set_option linter.unusedVariables false
namespace Go.Proofs.Ytmmhchpilcjflaa
open Go.RowKit

def greatB (m : PMsg) : Bool := decide (3000 < m.set.length) || (decide (3000 < m.owner.length) || (decide (5000 < m.data.size) || decide (5000 < m.ikey.size)))
set_option maxRecDepth 100000 in
theorem Great_any {W : World} {m : PMsg} {vo vs : Value} (h1 : Rd W vo m.owner) (h2 : Rd W vs m.set) (l1 : m.owner.length ≤ 9223372036854775807) (l2 : m.set.length ≤ 9223372036854775807) :
    Calls Try.prog 12 #[.agg (mcells m vo vs)] W fun e W' => e = .returned (.bool (greatB m)) ∧ Below W.heap.size W W' := by
  obtain ⟨A1, c1, rfl⟩ := h1.slc
  obtain ⟨A2, c2, rfl⟩ := h2.slc
  have hL := (Live.init W).alloc (mcells m (.slice A1 m.owner.length c1) (.slice A2 m.set.length c2)) 29
  have c20 : (W.alloc (.cells (mcells m (.slice A1 m.owner.length c1) (.slice A2 m.set.length c2)) 29)).cell? ⟨W.heap.size, 20, none⟩ = some (.slice A2 m.set.length c2) := hL.cell 20
  have c19 : (W.alloc (.cells (mcells m (.slice A1 m.owner.length c1) (.slice A2 m.set.length c2)) 29)).cell? ⟨W.heap.size, 19, none⟩ = some (.slice A1 m.owner.length c1) := hL.cell 19
  have c21 : (W.alloc (.cells (mcells m (.slice A1 m.owner.length c1) (.slice A2 m.set.length c2)) 29)).cell? ⟨W.heap.size, 21, none⟩ = some (.string m.data) := hL.cell 21
  have c13 : (W.alloc (.cells (mcells m (.slice A1 m.owner.length c1) (.slice A2 m.set.length c2)) 29)).cell? ⟨W.heap.size, 13, none⟩ = some (.string m.ikey) := hL.cell 13
  obtain ⟨g, hg⟩ : ∃ g, g = greatB m := ⟨_, rfl⟩
  rw [← hg]
  unfold greatB at hg
  have Hg := Lib.hid hg
  clear h1 h2 l1 l2 hg
  by_cases k0 : 3000 < m.set.length
  · have r0 : decide (((m.set.length : Nat) : Int) > 3000) = true := decide_eq_true (by omega)
    have r0' : decide (3000 < ((m.set.length : Nat) : Int)) = true := decide_eq_true (by omega)
    have q0 : decide (3000 < m.set.length) = true := decide_eq_true k0
    have Q0 := Lib.hid q0
    clear q0 k0
    go_enter Try.func12, Try.ntmps12
    go_wp2
    go_ret
    exact ⟨by rw [show g = true from Hg.out.trans (by rw [Q0.out]; rfl)]; rfl, hL.1⟩
  · have r0 : decide (((m.set.length : Nat) : Int) > 3000) = false := decide_eq_false (by omega)
    have r0' : decide (3000 < ((m.set.length : Nat) : Int)) = false := decide_eq_false (by omega)
    have q0 : decide (3000 < m.set.length) = false := decide_eq_false k0
    have Q0 := Lib.hid q0
    clear q0 k0
    by_cases k1 : 3000 < m.owner.length
    · have r1 : decide (((m.owner.length : Nat) : Int) > 3000) = true := decide_eq_true (by omega)
      have r1' : decide (3000 < ((m.owner.length : Nat) : Int)) = true := decide_eq_true (by omega)
      have q1 : decide (3000 < m.owner.length) = true := decide_eq_true k1
      have Q1 := Lib.hid q1
      clear q1 k1
      go_enter Try.func12, Try.ntmps12
      go_wp2
      go_ret
      exact ⟨by rw [show g = true from Hg.out.trans (by rw [Q0.out, Q1.out]; rfl)]; rfl, hL.1⟩
    · have r1 : decide (((m.owner.length : Nat) : Int) > 3000) = false := decide_eq_false (by omega)
      have r1' : decide (3000 < ((m.owner.length : Nat) : Int)) = false := decide_eq_false (by omega)
      have q1 : decide (3000 < m.owner.length) = false := decide_eq_false k1
      have Q1 := Lib.hid q1
      clear q1 k1
      by_cases k2 : 5000 < m.data.size
      · have r2 : decide (((m.data.size : Nat) : Int) > 5000) = true := decide_eq_true (by omega)
        have r2' : decide (5000 < ((m.data.size : Nat) : Int)) = true := decide_eq_true (by omega)
        have q2 : decide (5000 < m.data.size) = true := decide_eq_true k2
        have Q2 := Lib.hid q2
        clear q2 k2
        go_enter Try.func12, Try.ntmps12
        go_wp2
        go_ret
        exact ⟨by rw [show g = true from Hg.out.trans (by rw [Q0.out, Q1.out, Q2.out]; rfl)]; rfl, hL.1⟩
      · have r2 : decide (((m.data.size : Nat) : Int) > 5000) = false := decide_eq_false (by omega)
        have r2' : decide (5000 < ((m.data.size : Nat) : Int)) = false := decide_eq_false (by omega)
        have q2 : decide (5000 < m.data.size) = false := decide_eq_false k2
        have Q2 := Lib.hid q2
        clear q2 k2
        by_cases k3 : 5000 < m.ikey.size
        · have r3 : decide (((m.ikey.size : Nat) : Int) > 5000) = true := decide_eq_true (by omega)
          have r3' : decide (5000 < ((m.ikey.size : Nat) : Int)) = true := decide_eq_true (by omega)
          have q3 : decide (5000 < m.ikey.size) = true := decide_eq_true k3
          have Q3 := Lib.hid q3
          clear q3 k3
          go_enter Try.func12, Try.ntmps12
          go_wp2
          go_ret
          exact ⟨by rw [show g = true from Hg.out.trans (by rw [Q0.out, Q1.out, Q2.out, Q3.out]; rfl)]; rfl, hL.1⟩
        · have r3 : decide (((m.ikey.size : Nat) : Int) > 5000) = false := decide_eq_false (by omega)
          have r3' : decide (5000 < ((m.ikey.size : Nat) : Int)) = false := decide_eq_false (by omega)
          have q3 : decide (5000 < m.ikey.size) = false := decide_eq_false k3
          have Q3 := Lib.hid q3
          clear q3 k3
          go_enter Try.func12, Try.ntmps12
          go_wp2
          go_ret
          exact ⟨by rw [show g = false from Hg.out.trans (by rw [Q0.out, Q1.out, Q2.out, Q3.out]; rfl)]; rfl, hL.1⟩
end Go.Proofs.Ytmmhchpilcjflaa

/-
  meterref04.Same where the lists' lengths differ.
-/
namespace Go.Proofs.Ytmmhchpilcjflaa
open Go.RowKit

section
variable {W : World} {a b : PMsg} {ao aS bo bs : Value}
set_option maxHeartbeats 16000000 in
set_option maxRecDepth 100000 in
theorem refSame_short (h1 : Rd W ao a.owner) (h2 : Rd W aS a.set) (h3 : Rd W bo b.owner) (h4 : Rd W bs b.set)
    (l1 : a.owner.length ≤ 1000000000000) (l2 : a.set.length ≤ 1000000000000) (l3 : b.owner.length ≤ 1000000000000) (l4 : b.set.length ≤ 1000000000000) (e : a.set.length ≠ b.set.length ∨ (a.set.length = b.set.length ∧ a.owner.length ≠ b.owner.length)) :
    Calls Try.prog 14 #[.agg (mcells a ao aS), .agg (mcells b bo bs)] W fun e W' => e = .returned (.bool (sameB a b)) ∧ Below W.heap.size W W' := by
  have hs : sameB a b = false := by
    rcases e with e | ⟨_, e⟩
    · have : a.set ≠ b.set := fun h => e (by rw [h])
      simp [sameB, this]
    · have : a.owner ≠ b.owner := fun h => e (by rw [h])
      simp [sameB, this]
  rw [hs]
  obtain ⟨A1, c1, rfl, n1⟩ := h1.kd (by omega)
  obtain ⟨A2, c2, rfl, n2⟩ := h2.kd (by omega)
  obtain ⟨A3, c3, rfl, n3⟩ := h3.kd (by omega)
  obtain ⟨A4, c4, rfl, n4⟩ := h4.kd (by omega)
  have hL := ((Live.init W).alloc (mcells a (.slice A1 a.owner.length c1) (.slice A2 a.set.length c2)) 29).alloc (mcells b (.slice A3 b.owner.length c3) (.slice A4 b.set.length c4)) 29
  have hs1 : ∀ (w : World) (o : Obj), (w.alloc o).heap.size = w.heap.size + 1 := fun w o => by simp
  simp only [hs1] at hL
  have a20 : ((W.alloc (.cells (mcells a (.slice A1 a.owner.length c1) (.slice A2 a.set.length c2)) 29)).alloc (.cells (mcells b (.slice A3 b.owner.length c3) (.slice A4 b.set.length c4)) 29)).cell? ⟨W.heap.size, 20, none⟩ = some (.slice A2 a.set.length c2) := hL.tail.cell 20
  have a19 : ((W.alloc (.cells (mcells a (.slice A1 a.owner.length c1) (.slice A2 a.set.length c2)) 29)).alloc (.cells (mcells b (.slice A3 b.owner.length c3) (.slice A4 b.set.length c4)) 29)).cell? ⟨W.heap.size, 19, none⟩ = some (.slice A1 a.owner.length c1) := hL.tail.cell 19
  have b20 : ((W.alloc (.cells (mcells a (.slice A1 a.owner.length c1) (.slice A2 a.set.length c2)) 29)).alloc (.cells (mcells b (.slice A3 b.owner.length c3) (.slice A4 b.set.length c4)) 29)).cell? ⟨W.heap.size + 1, 20, none⟩ = some (.slice A4 b.set.length c4) := hL.cell 20
  have b19 : ((W.alloc (.cells (mcells a (.slice A1 a.owner.length c1) (.slice A2 a.set.length c2)) 29)).alloc (.cells (mcells b (.slice A3 b.owner.length c3) (.slice A4 b.set.length c4)) 29)).cell? ⟨W.heap.size + 1, 19, none⟩ = some (.slice A3 b.owner.length c3) := hL.cell 19
  rcases e with e | ⟨e0, e⟩
  · have g1 : ((a.set.length : Int) != b.set.length) = true := bne_iff_ne.2 (by omega)
    clear h1 h2 h3 h4 l1 l2 l3 l4 n1 n2 n3 n4 e hs
    go_enter Try.func14, Try.ntmps14
    go_wp2
    go_ret
    exact ⟨rfl, hL.1⟩
  · have g1 : ((a.set.length : Int) != b.set.length) = false := by rw [e0]; simp
    have g2 : ((a.owner.length : Int) != b.owner.length) = true := bne_iff_ne.2 (by omega)
    clear h1 h2 h3 h4 l1 l2 l3 l4 n1 n2 n3 n4 e e0 hs
    go_enter Try.func14, Try.ntmps14
    go_wp2
    go_ret
    exact ⟨rfl, hL.1⟩
end
end Go.Proofs.Ytmmhchpilcjflaa
