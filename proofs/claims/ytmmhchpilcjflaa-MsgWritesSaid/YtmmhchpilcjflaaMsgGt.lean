/-
  meterlaw04.Great: a message of more than 3000 numbers, or 5000 bytes.
-/
import Derived.Test.YtmmhchpilcjflaaMsgEq
set_option linter.unusedSimpArgs false
set_option linter.unusedVariables false
namespace Go.Proofs.Ytmmhchpilcjflaa
open Go.RowKit

def greatB (m : PMsg) : Bool := decide (3000 < m.set.length) || (decide (3000 < m.owner.length) || (decide (5000 < m.data.size) || decide (5000 < m.ikey.size)))
set_option maxRecDepth 100000 in
theorem Great_any {W : World} {m : PMsg} {vo vs : Value} (h1 : Rd W vo m.owner) (h2 : Rd W vs m.set) (l1 : m.owner.length ≤ 9223372036854775807) (l2 : m.set.length ≤ 9223372036854775807) :
    Calls Try.prog 12 #[.agg (mcells m vo vs)] W fun e W' => e = .returned (.bool (greatB m)) ∧ Below W.heap.size W W' := by
  obtain ⟨A1, c1, rfl⟩ := h1.slc
  obtain ⟨A2, c2, rfl⟩ := h2.slc
  have hL := (Live.init W).alloc (mcells m (.slice A1 m.owner.length c1) (.slice A2 m.set.length c2)) 29
  have c20 : (W.alloc (.cells (mcells m (.slice A1 m.owner.length c1) (.slice A2 m.set.length c2)) 29)).cell? ⟨W.heap.size, 20, none⟩ = some (.slice A2 m.set.length c2) := hL.cell 20
  have c19 : (W.alloc (.cells (mcells m (.slice A1 m.owner.length c1) (.slice A2 m.set.length c2)) 29)).cell? ⟨W.heap.size, 19, none⟩ = some (.slice A1 m.owner.length c1) := hL.cell 19
  have c21 : (W.alloc (.cells (mcells m (.slice A1 m.owner.length c1) (.slice A2 m.set.length c2)) 29)).cell? ⟨W.heap.size, 21, none⟩ = some (.string m.data) := hL.cell 21
  have c13 : (W.alloc (.cells (mcells m (.slice A1 m.owner.length c1) (.slice A2 m.set.length c2)) 29)).cell? ⟨W.heap.size, 13, none⟩ = some (.string m.ikey) := hL.cell 13
  obtain ⟨g, hg⟩ : ∃ g, g = greatB m := ⟨_, rfl⟩
  rw [← hg]
  unfold greatB at hg
  have Hg := Lib.hid hg
  clear h1 h2 l1 l2 hg
  by_cases k0 : 3000 < m.set.length
  · have r0 : decide (((m.set.length : Nat) : Int) > 3000) = true := decide_eq_true (by omega)
    have r0' : decide (3000 < ((m.set.length : Nat) : Int)) = true := decide_eq_true (by omega)
    have q0 : decide (3000 < m.set.length) = true := decide_eq_true k0
    have Q0 := Lib.hid q0
    clear q0 k0
    go_enter Try.func12, Try.ntmps12
    go_wp2
    go_ret
    exact ⟨by rw [show g = true from Hg.out.trans (by rw [Q0.out]; rfl)]; rfl, hL.1⟩
  · have r0 : decide (((m.set.length : Nat) : Int) > 3000) = false := decide_eq_false (by omega)
    have r0' : decide (3000 < ((m.set.length : Nat) : Int)) = false := decide_eq_false (by omega)
    have q0 : decide (3000 < m.set.length) = false := decide_eq_false k0
    have Q0 := Lib.hid q0
    clear q0 k0
    by_cases k1 : 3000 < m.owner.length
    · have r1 : decide (((m.owner.length : Nat) : Int) > 3000) = true := decide_eq_true (by omega)
      have r1' : decide (3000 < ((m.owner.length : Nat) : Int)) = true := decide_eq_true (by omega)
      have q1 : decide (3000 < m.owner.length) = true := decide_eq_true k1
      have Q1 := Lib.hid q1
      clear q1 k1
      go_enter Try.func12, Try.ntmps12
      go_wp2
      go_ret
      exact ⟨by rw [show g = true from Hg.out.trans (by rw [Q0.out, Q1.out]; rfl)]; rfl, hL.1⟩
    · have r1 : decide (((m.owner.length : Nat) : Int) > 3000) = false := decide_eq_false (by omega)
      have r1' : decide (3000 < ((m.owner.length : Nat) : Int)) = false := decide_eq_false (by omega)
      have q1 : decide (3000 < m.owner.length) = false := decide_eq_false k1
      have Q1 := Lib.hid q1
      clear q1 k1
      by_cases k2 : 5000 < m.data.size
      · have r2 : decide (((m.data.size : Nat) : Int) > 5000) = true := decide_eq_true (by omega)
        have r2' : decide (5000 < ((m.data.size : Nat) : Int)) = true := decide_eq_true (by omega)
        have q2 : decide (5000 < m.data.size) = true := decide_eq_true k2
        have Q2 := Lib.hid q2
        clear q2 k2
        go_enter Try.func12, Try.ntmps12
        go_wp2
        go_ret
        exact ⟨by rw [show g = true from Hg.out.trans (by rw [Q0.out, Q1.out, Q2.out]; rfl)]; rfl, hL.1⟩
      · have r2 : decide (((m.data.size : Nat) : Int) > 5000) = false := decide_eq_false (by omega)
        have r2' : decide (5000 < ((m.data.size : Nat) : Int)) = false := decide_eq_false (by omega)
        have q2 : decide (5000 < m.data.size) = false := decide_eq_false k2
        have Q2 := Lib.hid q2
        clear q2 k2
        by_cases k3 : 5000 < m.ikey.size
        · have r3 : decide (((m.ikey.size : Nat) : Int) > 5000) = true := decide_eq_true (by omega)
          have r3' : decide (5000 < ((m.ikey.size : Nat) : Int)) = true := decide_eq_true (by omega)
          have q3 : decide (5000 < m.ikey.size) = true := decide_eq_true k3
          have Q3 := Lib.hid q3
          clear q3 k3
          go_enter Try.func12, Try.ntmps12
          go_wp2
          go_ret
          exact ⟨by rw [show g = true from Hg.out.trans (by rw [Q0.out, Q1.out, Q2.out, Q3.out]; rfl)]; rfl, hL.1⟩
        · have r3 : decide (((m.ikey.size : Nat) : Int) > 5000) = false := decide_eq_false (by omega)
          have r3' : decide (5000 < ((m.ikey.size : Nat) : Int)) = false := decide_eq_false (by omega)
          have q3 : decide (5000 < m.ikey.size) = false := decide_eq_false k3
          have Q3 := Lib.hid q3
          clear q3 k3
          go_enter Try.func12, Try.ntmps12
          go_wp2
          go_ret
          exact ⟨by rw [show g = false from Hg.out.trans (by rw [Q0.out, Q1.out, Q2.out, Q3.out]; rfl)]; rfl, hL.1⟩
end Go.Proofs.Ytmmhchpilcjflaa
