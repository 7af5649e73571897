/-
  Frames known by what some of their slots hold: the walk's steps over them.
-/
import Derived.Test.YtnjfjdfjheiocaaGreatMsgQa
set_option linter.unusedSimpArgs false
set_option linter.unusedVariables false
namespace Go.Proofs.YtnjfjdfjheiocaaGreat
open Go.RowKit

/-- A frame of n slots that holds these, nothing deferred. -/
def Fr (a : Act) (n : Nat) (m : List (Nat × Value)) : Prop := a.defers = [] ∧ a.tmps.size = n ∧ ∀ p, p ∈ m → a.tmps[p.1]? = some p.2
def look : List (Nat × Value) → Nat → Option Value
  | [], _ => none
  | p :: t, d => bif Nat.beq p.1 d then some p.2 else look t d
def ev1 (m : List (Nat × Value)) : Operand → Option Value
  | .tmp t => look m t
  | .const v => some v
  | .global g => some (.pointer (some ⟨g, 0, none⟩))
  | .func f => some (.func (.func f) #[] #[])
inductive Picks (m : List (Nat × Value)) : List (Nat × Value) → Prop
  | nil : Picks m []
  | cons {d : Nat} {v : Value} {t : List (Nat × Value)} (h : look m d = some v) (ht : Picks m t) : Picks m ((d, v) :: t)
theorem P1 {m : List (Nat × Value)} (d0 : Nat) {v0 : Value} (h0 : look m d0 = some v0) : Picks m [(d0, v0)] := .cons h0 .nil
theorem P2 {m : List (Nat × Value)} (d0 d1 : Nat) {v0 v1 : Value} (h0 : look m d0 = some v0) (h1 : look m d1 = some v1) : Picks m [(d0, v0), (d1, v1)] := .cons h0 (.cons h1 .nil)
theorem P3 {m : List (Nat × Value)} (d0 d1 d2 : Nat) {v0 v1 v2 : Value} (h0 : look m d0 = some v0) (h1 : look m d1 = some v1) (h2 : look m d2 = some v2) : Picks m [(d0, v0), (d1, v1), (d2, v2)] := .cons h0 (.cons h1 (.cons h2 .nil))
theorem P4 {m : List (Nat × Value)} (d0 d1 d2 d3 : Nat) {v0 v1 v2 v3 : Value} (h0 : look m d0 = some v0) (h1 : look m d1 = some v1) (h2 : look m d2 = some v2) (h3 : look m d3 = some v3) : Picks m [(d0, v0), (d1, v1), (d2, v2), (d3, v3)] := .cons h0 (.cons h1 (.cons h2 (.cons h3 .nil)))
theorem P5 {m : List (Nat × Value)} (d0 d1 d2 d3 d4 : Nat) {v0 v1 v2 v3 v4 : Value} (h0 : look m d0 = some v0) (h1 : look m d1 = some v1) (h2 : look m d2 = some v2) (h3 : look m d3 = some v3) (h4 : look m d4 = some v4) : Picks m [(d0, v0), (d1, v1), (d2, v2), (d3, v3), (d4, v4)] := .cons h0 (.cons h1 (.cons h2 (.cons h3 (.cons h4 .nil))))
theorem P6 {m : List (Nat × Value)} (d0 d1 d2 d3 d4 d5 : Nat) {v0 v1 v2 v3 v4 v5 : Value} (h0 : look m d0 = some v0) (h1 : look m d1 = some v1) (h2 : look m d2 = some v2) (h3 : look m d3 = some v3) (h4 : look m d4 = some v4) (h5 : look m d5 = some v5) : Picks m [(d0, v0), (d1, v1), (d2, v2), (d3, v3), (d4, v4), (d5, v5)] := .cons h0 (.cons h1 (.cons h2 (.cons h3 (.cons h4 (.cons h5 .nil)))))
theorem P7 {m : List (Nat × Value)} (d0 d1 d2 d3 d4 d5 d6 : Nat) {v0 v1 v2 v3 v4 v5 v6 : Value} (h0 : look m d0 = some v0) (h1 : look m d1 = some v1) (h2 : look m d2 = some v2) (h3 : look m d3 = some v3) (h4 : look m d4 = some v4) (h5 : look m d5 = some v5) (h6 : look m d6 = some v6) : Picks m [(d0, v0), (d1, v1), (d2, v2), (d3, v3), (d4, v4), (d5, v5), (d6, v6)] := .cons h0 (.cons h1 (.cons h2 (.cons h3 (.cons h4 (.cons h5 (.cons h6 .nil))))))
theorem P8 {m : List (Nat × Value)} (d0 d1 d2 d3 d4 d5 d6 d7 : Nat) {v0 v1 v2 v3 v4 v5 v6 v7 : Value} (h0 : look m d0 = some v0) (h1 : look m d1 = some v1) (h2 : look m d2 = some v2) (h3 : look m d3 = some v3) (h4 : look m d4 = some v4) (h5 : look m d5 = some v5) (h6 : look m d6 = some v6) (h7 : look m d7 = some v7) : Picks m [(d0, v0), (d1, v1), (d2, v2), (d3, v3), (d4, v4), (d5, v5), (d6, v6), (d7, v7)] := .cons h0 (.cons h1 (.cons h2 (.cons h3 (.cons h4 (.cons h5 (.cons h6 (.cons h7 .nil)))))))
theorem P9 {m : List (Nat × Value)} (d0 d1 d2 d3 d4 d5 d6 d7 d8 : Nat) {v0 v1 v2 v3 v4 v5 v6 v7 v8 : Value} (h0 : look m d0 = some v0) (h1 : look m d1 = some v1) (h2 : look m d2 = some v2) (h3 : look m d3 = some v3) (h4 : look m d4 = some v4) (h5 : look m d5 = some v5) (h6 : look m d6 = some v6) (h7 : look m d7 = some v7) (h8 : look m d8 = some v8) : Picks m [(d0, v0), (d1, v1), (d2, v2), (d3, v3), (d4, v4), (d5, v5), (d6, v6), (d7, v7), (d8, v8)] := .cons h0 (.cons h1 (.cons h2 (.cons h3 (.cons h4 (.cons h5 (.cons h6 (.cons h7 (.cons h8 .nil))))))))
theorem P10 {m : List (Nat × Value)} (d0 d1 d2 d3 d4 d5 d6 d7 d8 d9 : Nat) {v0 v1 v2 v3 v4 v5 v6 v7 v8 v9 : Value} (h0 : look m d0 = some v0) (h1 : look m d1 = some v1) (h2 : look m d2 = some v2) (h3 : look m d3 = some v3) (h4 : look m d4 = some v4) (h5 : look m d5 = some v5) (h6 : look m d6 = some v6) (h7 : look m d7 = some v7) (h8 : look m d8 = some v8) (h9 : look m d9 = some v9) : Picks m [(d0, v0), (d1, v1), (d2, v2), (d3, v3), (d4, v4), (d5, v5), (d6, v6), (d7, v7), (d8, v8), (d9, v9)] := .cons h0 (.cons h1 (.cons h2 (.cons h3 (.cons h4 (.cons h5 (.cons h6 (.cons h7 (.cons h8 (.cons h9 .nil)))))))))
theorem P11 {m : List (Nat × Value)} (d0 d1 d2 d3 d4 d5 d6 d7 d8 d9 d10 : Nat) {v0 v1 v2 v3 v4 v5 v6 v7 v8 v9 v10 : Value} (h0 : look m d0 = some v0) (h1 : look m d1 = some v1) (h2 : look m d2 = some v2) (h3 : look m d3 = some v3) (h4 : look m d4 = some v4) (h5 : look m d5 = some v5) (h6 : look m d6 = some v6) (h7 : look m d7 = some v7) (h8 : look m d8 = some v8) (h9 : look m d9 = some v9) (h10 : look m d10 = some v10) : Picks m [(d0, v0), (d1, v1), (d2, v2), (d3, v3), (d4, v4), (d5, v5), (d6, v6), (d7, v7), (d8, v8), (d9, v9), (d10, v10)] := .cons h0 (.cons h1 (.cons h2 (.cons h3 (.cons h4 (.cons h5 (.cons h6 (.cons h7 (.cons h8 (.cons h9 (.cons h10 .nil))))))))))
theorem P12 {m : List (Nat × Value)} (d0 d1 d2 d3 d4 d5 d6 d7 d8 d9 d10 d11 : Nat) {v0 v1 v2 v3 v4 v5 v6 v7 v8 v9 v10 v11 : Value} (h0 : look m d0 = some v0) (h1 : look m d1 = some v1) (h2 : look m d2 = some v2) (h3 : look m d3 = some v3) (h4 : look m d4 = some v4) (h5 : look m d5 = some v5) (h6 : look m d6 = some v6) (h7 : look m d7 = some v7) (h8 : look m d8 = some v8) (h9 : look m d9 = some v9) (h10 : look m d10 = some v10) (h11 : look m d11 = some v11) : Picks m [(d0, v0), (d1, v1), (d2, v2), (d3, v3), (d4, v4), (d5, v5), (d6, v6), (d7, v7), (d8, v8), (d9, v9), (d10, v10), (d11, v11)] := .cons h0 (.cons h1 (.cons h2 (.cons h3 (.cons h4 (.cons h5 (.cons h6 (.cons h7 (.cons h8 (.cons h9 (.cons h10 (.cons h11 .nil)))))))))))
section
variable {P : Program} {ops : Array Oper} {Q : Exit → Act → World → Prop} {rest : List Oper} {o : Oper} {a : Act} {w w' : World} {n d : Nat} {v : Value} {m m' : List (Nat × Value)}
theorem look_mem : ∀ {m : List (Nat × Value)} {d : Nat} {v : Value}, look m d = some v → (d, v) ∈ m
  | p :: t, d, v, h => by
    unfold look at h
    by_cases e : Nat.beq p.1 d = true
    · rw [e] at h
      cases h
      have : p.1 = d := Nat.eq_of_beq_eq_true e
      subst this
      exact List.mem_cons_self
    · have e' : Nat.beq p.1 d = false := Bool.eq_false_iff.2 e
      rw [e'] at h
      exact List.mem_cons_of_mem _ (look_mem h)
theorem Picks.mem (h : Picks m m') : ∀ p, p ∈ m' → look m p.1 = some p.2 := by
  induction h with
  | nil => intro p hp; cases hp
  | cons h _ ih =>
    intro p hp
    rcases List.mem_cons.1 hp with rfl | hp
    · exact h
    · exact ih p hp
theorem Fr.pick (H : Fr a n m) (m' : List (Nat × Value)) (h : Picks m m') : Fr a n m' := ⟨H.1, H.2.1, fun p hp => H.2.2 _ (look_mem (h.mem p hp))⟩
theorem Fr.ev (H : Fr a n m) {x : Operand} (h : ev1 m x = some v) : a.eval x = v := by
  cases x with
  | tmp t =>
    have := H.2.2 _ (look_mem (h : look m t = some v))
    simp only at this
    simp [Act.eval, Array.getD_eq_getD_getElem?, this]
  | const u => cases h; rfl
  | global g => cases h; rfl
  | func f => cases h; rfl
theorem Fr.get (H : Fr a n m) {d : Nat} (h : look m d = some v) : a.tmps[d]? = some v := H.2.2 _ (look_mem h)
theorem Fr.getD (H : Fr a n m) {d : Nat} (h : look m d = some v) : a.tmps.getD d undef = v := by rw [Array.getD_eq_getD_getElem?, H.get h]; rfl
theorem Fr.put (H : Fr a n m) (hd : Nat.blt d n = true) (hp : Picks ((d, v) :: m) m') : Fr (a.put (some d) v) n m' := by
  have hd' : d < n := by simp [Nat.blt] at hd; omega
  have hs := H.2.1
  refine ⟨H.1, by simp [Act.put, hs], fun p hp' => ?_⟩
  have hl := hp.mem p hp'
  unfold look at hl
  by_cases e : Nat.beq d p.1 = true
  · have e2 : d = p.1 := Nat.eq_of_beq_eq_true e
    have hl' : v = p.2 := by
      simp only [e, cond_true, Option.some.injEq] at hl
      exact hl
    have h2 : p.1 < a.tmps.size := by omega
    rw [e2]
    simp [Act.put, h2, hl']
  · have e' : Nat.beq d p.1 = false := Bool.eq_false_iff.2 e
    have hne : d ≠ p.1 := fun h => e (by rw [h]; exact Nat.beq_refl _)
    simp only [e', cond_false] at hl
    simp [Act.put, Array.getElem?_setIfInBounds, hne]
    exact H.2.2 _ (look_mem hl)
theorem wn (hg : o.guard = none) : Region.wanted o (yielded ops a.tmps) = true := by unfold Region.wanted; rw [hg]
theorem Fr.wants (H : Fr a n m) {j dg : Nat} {b c : Bool} (hg : o.guard = some (j, c)) (hj : (ops[j]?).bind (·.dst) = some dg) (hl : look m dg = some (.bool b)) : Region.wanted o (yielded ops a.tmps) = (b == c) := by
  have := H.get hl
  have hy : yielded ops a.tmps j = some b := by simp [yielded, hj, this]
  unfold Region.wanted
  rw [hg]
  simp only [hy]
  cases b <;> cases c <;> rfl
/-- The guard holds. -/
theorem Fr.wt (H : Fr a n m) {j dg : Nat} {c : Bool} (hg : o.guard = some (j, c)) (hj : (ops[j]?).bind (·.dst) = some dg) (hl : look m dg = some (.bool c)) : Region.wanted o (yielded ops a.tmps) = true := by
  rw [H.wants hg hj hl]; cases c <;> rfl
/-- It does not. -/
theorem Fr.wf (H : Fr a n m) {j dg : Nat} {c : Bool} (hg : o.guard = some (j, c)) (hj : (ops[j]?).bind (·.dst) = some dg) (hl : look m dg = some (.bool (!c))) : Region.wanted o (yielded ops a.tmps) = false := by
  rw [H.wants hg hj hl]; cases c <;> rfl
/-! What an operation comes to. -/
theorem fr_v {s : Sem Value} (h : s.run P w = .ok v w') : ((do pure (.value (← s))) : Sem Next).run P w = .ok (.value v) w' := by simp [go_sem, h]
theorem fr_u {s : Sem Unit} (h : s.run P w = .ok () w') : ((do s; pure .skip) : Sem Next).run P w = .ok .skip w' := by simp [go_sem, h]
theorem R_mv {x : Operand} (H : Fr a n m) (ho : o.op = .move x) (hx : ev1 m x = some v) : (execOp a.eval o).run P w = .ok (.value v) w := by
  unfold execOp; rw [ho]; simp only [H.ev hx]; rfl
theorem R_as {x : Operand} (H : Fr a n m) (ho : o.op = .assign x) (hx : ev1 m x = some v) : (execOp a.eval o).run P w = .ok (.value v) w := by
  unfold execOp; rw [ho]; simp only [H.ev hx]; rfl
theorem R_pick {c x y : Operand} {b : Bool} (H : Fr a n m) (ho : o.op = .pick c x y) (hc : ev1 m c = some (.bool b)) (hx : ev1 m (bif b then x else y) = some v) : (execOp a.eval o).run P w = .ok (.value v) w := by
  have e1 := H.ev hc
  have e2 := H.ev hx
  unfold execOp
  rw [ho]
  generalize a.eval = ρ at *
  simp only [e1]
  cases b
  · simp only [cond_false] at e2; simp [go_sem, asBool, e2]
  · simp only [cond_true] at e2; simp [go_sem, asBool, e2]
/-- Picked of two Booleans. -/
theorem R_pickB {c x y : Operand} {b bx by' : Bool} (H : Fr a n m) (ho : o.op = .pick c x y) (hc : ev1 m c = some (.bool b)) (hx : ev1 m x = some (.bool bx)) (hy : ev1 m y = some (.bool by')) : (execOp a.eval o).run P w = .ok (.value (.bool (bif b then bx else by'))) w := by
  cases b
  · exact R_pick H ho hc hy
  · exact R_pick H ho hc hx
/-- The join of &&: what is behind it was looked at only where it counts. -/
theorem R_pickAnd {c x : Operand} {t b : Bool} (H : Fr a n m) (ho : o.op = .pick c x (.const (.bool false))) (hc : ev1 m c = some (.bool t)) (hx : ev1 m x = some (bif (t == true) then .bool b else undef)) : (execOp a.eval o).run P w = .ok (.value (.bool (t && b))) w := by
  cases t
  · exact R_pick H ho hc rfl
  · exact R_pick H ho hc hx
theorem R_pickOr {c x : Operand} {t b : Bool} (H : Fr a n m) (ho : o.op = .pick c (.const (.bool true)) x) (hc : ev1 m c = some (.bool t)) (hx : ev1 m x = some (bif (t == false) then .bool b else undef)) : (execOp a.eval o).run P w = .ok (.value (.bool (t || b))) w := by
  cases t
  · exact R_pick H ho hc hx
  · exact R_pick H ho hc rfl
theorem R_ld {t : TypeId} {x : Operand} {p : Value} (H : Fr a n m) (ho : o.op = .load t x) (hx : ev1 m x = some p) (hl : (Instr.loadAt t p).run P w = .ok v w) : (execOp a.eval o).run P w = .ok (.value v) w := by
  unfold execOp; rw [ho]; simp only [H.ev hx]; exact fr_v hl
theorem R_fa {s : TypeId} {f : Nat} {x : Operand} {p : Value} (H : Fr a n m) (ho : o.op = .fieldAddr s x f) (hx : ev1 m x = some p) (hl : (Instr.fieldAt s p f).run P w = .ok v w) : (execOp a.eval o).run P w = .ok (.value v) w := by
  unfold execOp; rw [ho]; simp only [H.ev hx]; exact fr_v hl
theorem R_bin {b : BinOp} {t u : TypeId} {x y : Operand} {vx vy : Value} (H : Fr a n m) (ho : o.op = .binOp b t x y u) (hx : ev1 m x = some vx) (hy : ev1 m y = some vy) (hl : ((do eqGuard b t x y vx vy; binOp b t vx vy) : Sem Value).run P w = .ok v w) : (execOp a.eval o).run P w = .ok (.value v) w := by
  unfold execOp; rw [ho]; simp only [H.ev hx, H.ev hy]; exact fr_v hl
theorem R_ixa {t : TypeId} {x y : Operand} {vx vy : Value} (H : Fr a n m) (ho : o.op = .indexAddr t x y) (hx : ev1 m x = some vx) (hy : ev1 m y = some vy) (hl : (Instr.indexAt t vx vy).run P w = .ok v w) : (execOp a.eval o).run P w = .ok (.value v) w := by
  unfold execOp; rw [ho]; simp only [H.ev hx, H.ev hy]; exact fr_v hl
theorem R_ix {t : TypeId} {x y : Operand} {vx vy : Value} (H : Fr a n m) (ho : o.op = .index t x y) (hx : ev1 m x = some vx) (hy : ev1 m y = some vy) (hl : (Instr.index t vx vy).run P w = .ok v w) : (execOp a.eval o).run P w = .ok (.value v) w := by
  unfold execOp; rw [ho]; simp only [H.ev hx, H.ev hy]; exact fr_v hl
theorem R_not {t : TypeId} {x : Operand} {b : Bool} (H : Fr a n m) (ho : o.op = .unOp .not t x) (hx : ev1 m x = some (.bool b)) : (execOp a.eval o).run P w = .ok (.value (.bool (!b))) w := by
  unfold execOp; rw [ho]; simp only [H.ev hx]; cases b <;> rfl
theorem R_un {u : UnOp} {t : TypeId} {x : Operand} {vx : Value} (H : Fr a n m) (ho : o.op = .unOp u t x) (hx : ev1 m x = some vx) (hl : (Op.unary u vx).run P w = .ok v w) : (execOp a.eval o).run P w = .ok (.value v) w := by
  unfold execOp; rw [ho]; simp only [H.ev hx]; exact fr_v hl
theorem R_cv {s t : TypeId} {x : Operand} {vx : Value} (H : Fr a n m) (ho : o.op = .convert s t x) (hx : ev1 m x = some vx) (hl : (convert s t vx).run P w = .ok v w) : (execOp a.eval o).run P w = .ok (.value v) w := by
  unfold execOp; rw [ho]; simp only [H.ev hx]; exact fr_v hl
theorem R_ext {x : Operand} {i : Nat} {vs : Array Value} (H : Fr a n m) (ho : o.op = .extract x i) (hx : ev1 m x = some (.tuple vs)) (hv : vs[i]? = some v) : (execOp a.eval o).run P w = .ok (.value v) w := by
  unfold execOp; rw [ho]; simp only [H.ev hx]
  refine fr_v ?_
  simp [go_sem, hv]
theorem R_box {t : TypeId} {x : Operand} {vx : Value} (H : Fr a n m) (ho : o.op = .box t x) (hx : ev1 m x = some vx) (hl : (Instr.box t vx).run P w = .ok v w') : (execOp a.eval o).run P w = .ok (.value v) w' := by
  unfold execOp; rw [ho]; simp only [H.ev hx]; exact fr_v hl
theorem R_alloc {t : TypeId} (ho : o.op = .alloc t) (hl : (Instr.alloc t true (.tuple #[])).run P w = .ok v w') : (execOp a.eval o).run P w = .ok (.value v) w' := by
  unfold execOp; rw [ho]; exact fr_v hl
theorem R_st {t : TypeId} {x y : Operand} {vx vy : Value} (H : Fr a n m) (ho : o.op = .store t x y) (hx : ev1 m x = some vx) (hy : ev1 m y = some vy) (hl : (Instr.storeAt t vx vy).run P w = .ok () w') : (execOp a.eval o).run P w = .ok .skip w' := by
  unfold execOp; rw [ho]; simp only [H.ev hx, H.ev hy]; exact fr_u hl
theorem R_len {x : Operand} {t : TypeId} {s : ByteArray} (H : Fr a n m) (ho : o.op = .call { callee := .builtin .len, args := #[x], argTypes := #[t] }) (hx : ev1 m x = some (.string s)) (ht : P.underlying t = some .string) : (execOp a.eval o).run P w = .ok (.value (.int .i64 (s.size : Nat))) w := by
  have e1 := H.ev hx
  unfold execOp
  rw [ho]
  generalize a.eval = ρ at *
  simp [resolve, invoke, go_sem, e1, Builtin.len_, run_underlying ht]
theorem R_lenS {x : Operand} {t e : TypeId} {p : Option Addr} {l c : Nat} (H : Fr a n m) (ho : o.op = .call { callee := .builtin .len, args := #[x], argTypes := #[t] }) (hx : ev1 m x = some (.slice p l c)) (ht : P.underlying t = some (.slice e)) : (execOp a.eval o).run P w = .ok (.value (.int .i64 (l : Nat))) w := by
  have e1 := H.ev hx
  unfold execOp
  rw [ho]
  generalize a.eval = ρ at *
  simp [resolve, invoke, go_sem, e1, Builtin.len_, run_underlying ht]
theorem R_call0 {f : FuncId} {ts : Array TypeId} (H : Fr a n m) (ho : o.op = .call { callee := .value (.func f), args := #[], argTypes := ts }) (hf : ∀ w : World, (callFunc f #[]).run P w = .ok (.enter f #[]) w) : (execOp a.eval o).run P w = .ok (.enter f #[]) w := by
  have e0 : a.eval (.func f) = .func (.func f) #[] #[] := rfl
  unfold execOp
  rw [ho]
  generalize a.eval = ρ at *
  simp [resolve, invoke, go_sem, e0, hf]
theorem R_call1 {f : FuncId} {ts : Array TypeId} {x1 : Operand} {v1 : Value} (H : Fr a n m) (ho : o.op = .call { callee := .value (.func f), args := #[x1], argTypes := ts }) (h1 : ev1 m x1 = some v1) (hf : ∀ w : World, (callFunc f #[v1]).run P w = .ok (.enter f #[v1]) w) : (execOp a.eval o).run P w = .ok (.enter f #[v1]) w := by
  have e0 : a.eval (.func f) = .func (.func f) #[] #[] := rfl
  have e1 := H.ev h1
  unfold execOp
  rw [ho]
  generalize a.eval = ρ at *
  simp [resolve, invoke, go_sem, e0, e1, hf]
theorem R_call2 {f : FuncId} {ts : Array TypeId} {x1 x2 : Operand} {v1 v2 : Value} (H : Fr a n m) (ho : o.op = .call { callee := .value (.func f), args := #[x1, x2], argTypes := ts }) (h1 : ev1 m x1 = some v1) (h2 : ev1 m x2 = some v2) (hf : ∀ w : World, (callFunc f #[v1, v2]).run P w = .ok (.enter f #[v1, v2]) w) : (execOp a.eval o).run P w = .ok (.enter f #[v1, v2]) w := by
  have e0 : a.eval (.func f) = .func (.func f) #[] #[] := rfl
  have e1 := H.ev h1
  have e2 := H.ev h2
  unfold execOp
  rw [ho]
  generalize a.eval = ρ at *
  simp [resolve, invoke, go_sem, e0, e1, e2, hf]
theorem R_call3 {f : FuncId} {ts : Array TypeId} {x1 x2 x3 : Operand} {v1 v2 v3 : Value} (H : Fr a n m) (ho : o.op = .call { callee := .value (.func f), args := #[x1, x2, x3], argTypes := ts }) (h1 : ev1 m x1 = some v1) (h2 : ev1 m x2 = some v2) (h3 : ev1 m x3 = some v3) (hf : ∀ w : World, (callFunc f #[v1, v2, v3]).run P w = .ok (.enter f #[v1, v2, v3]) w) : (execOp a.eval o).run P w = .ok (.enter f #[v1, v2, v3]) w := by
  have e0 : a.eval (.func f) = .func (.func f) #[] #[] := rfl
  have e1 := H.ev h1
  have e2 := H.ev h2
  have e3 := H.ev h3
  unfold execOp
  rw [ho]
  generalize a.eval = ρ at *
  simp [resolve, invoke, go_sem, e0, e1, e2, e3, hf]
theorem R_bd1 {t : TypeId} {i : Nat} {x : Operand} {vx : Value} (H : Fr a n m) (ho : o.op = .build t #[(i, x)]) (hx : ev1 m x = some vx) (hl : (Instr.build t #[(i, vx)]).run P w = .ok v w) : (execOp a.eval o).run P w = .ok (.value v) w := by
  have e1 := H.ev hx
  unfold execOp
  rw [ho]
  generalize a.eval = ρ at *
  simp only [List.map_toArray, List.map_cons, List.map_nil, e1]
  exact fr_v hl
theorem R_bd2 {t : TypeId} {i j : Nat} {x y : Operand} {vx vy : Value} (H : Fr a n m) (ho : o.op = .build t #[(i, x), (j, y)]) (hx : ev1 m x = some vx) (hy : ev1 m y = some vy) (hl : (Instr.build t #[(i, vx), (j, vy)]).run P w = .ok v w) : (execOp a.eval o).run P w = .ok (.value v) w := by
  have e1 := H.ev hx
  have e2 := H.ev hy
  unfold execOp
  rw [ho]
  generalize a.eval = ρ at *
  simp only [List.map_toArray, List.map_cons, List.map_nil, e1, e2]
  exact fr_v hl
theorem R_bd3 {t : TypeId} {i j k : Nat} {x y z : Operand} {vx vy vz : Value} (H : Fr a n m) (ho : o.op = .build t #[(i, x), (j, y), (k, z)]) (hx : ev1 m x = some vx) (hy : ev1 m y = some vy) (hz : ev1 m z = some vz) (hl : (Instr.build t #[(i, vx), (j, vy), (k, vz)]).run P w = .ok v w) : (execOp a.eval o).run P w = .ok (.value v) w := by
  have e1 := H.ev hx
  have e2 := H.ev hy
  have e3 := H.ev hz
  unfold execOp
  rw [ho]
  generalize a.eval = ρ at *
  simp only [List.map_toArray, List.map_cons, List.map_nil, e1, e2, e3]
  exact fr_v hl
theorem R_bs1 {t : TypeId} {k : Nat} {x : Operand} {vx : Value} (H : Fr a n m) (ho : o.op = .buildSlice t k #[(0, x)]) (hx : ev1 m x = some vx) (hl : (Instr.buildSlice t k #[(0, vx)]).run P w = .ok v w') : (execOp a.eval o).run P w = .ok (.value v) w' := by
  have e1 := H.ev hx
  unfold execOp
  rw [ho]
  generalize a.eval = ρ at *
  simp only [List.map_toArray, List.map_cons, List.map_nil, e1]
  exact fr_v hl
theorem R_slh {t : TypeId} {x y : Operand} {vx vy : Value} (H : Fr a n m) (ho : o.op = .slice t x none (some y) none) (hx : ev1 m x = some vx) (hy : ev1 m y = some vy) (hl : (Instr.sliceAt t vx none (some vy) none).run P w = .ok v w) : (execOp a.eval o).run P w = .ok (.value v) w := by
  have e1 := H.ev hx
  have e2 := H.ev hy
  unfold execOp
  rw [ho]
  generalize a.eval = ρ at *
  simp only [Option.map, e1, e2]
  exact fr_v hl
theorem R_sll {t : TypeId} {x y : Operand} {vx vy : Value} (H : Fr a n m) (ho : o.op = .slice t x (some y) none none) (hx : ev1 m x = some vx) (hy : ev1 m y = some vy) (hl : (Instr.sliceAt t vx (some vy) none none).run P w = .ok v w) : (execOp a.eval o).run P w = .ok (.value v) w := by
  have e1 := H.ev hx
  have e2 := H.ev hy
  unfold execOp
  rw [ho]
  generalize a.eval = ρ at *
  simp only [Option.map, e1, e2]
  exact fr_v hl
theorem R_slb {t : TypeId} {x y z : Operand} {vx vy vz : Value} (H : Fr a n m) (ho : o.op = .slice t x (some y) (some z) none) (hx : ev1 m x = some vx) (hy : ev1 m y = some vy) (hz : ev1 m z = some vz) (hl : (Instr.sliceAt t vx (some vy) (some vz) none).run P w = .ok v w) : (execOp a.eval o).run P w = .ok (.value v) w := by
  have e1 := H.ev hx
  have e2 := H.ev hy
  have e3 := H.ev hz
  unfold execOp
  rw [ho]
  generalize a.eval = ρ at *
  simp only [Option.map, e1, e2, e3]
  exact fr_v hl
/-! The steps in a region that does not draw. -/
theorem h_op (H : Fr a n m) (hd : o.dst = some d) (hg : Region.wanted o (yielded ops a.tmps) = true) (hr : (execOp a.eval o).run P w = .ok (.value v) w') (hn : Nat.blt d n = true) (hp : Picks ((d, v) :: m) m')
    (k : ∀ a', Fr a' n m' → wpList P ops Q rest a' w') : wpList P ops Q (o :: rest) a w :=
  wpList_step fun K hK => by
    rw [if_pos hg]
    unfold Oper.wp
    rw [hr]
    simp only [Oper.upon, hd]
    exact hK _ _ (k _ (H.put hn hp))
theorem h_o (H : Fr a n m) (hd : o.dst = some d) (hr : (execOp a.eval o).run P w = .ok (.value v) w') (hp : Picks ((d, v) :: m) m')
    (k : ∀ a', Fr a' n m' → wpList P ops Q rest a' w') (hg : Region.wanted o (yielded ops a.tmps) = true := by exact wn rfl) (hn : Nat.blt d n = true := by rfl) : wpList P ops Q (o :: rest) a w := h_op H hd hg hr hn hp k
theorem h_skip (H : Fr a n m) (hd : o.dst = some d) (hg : Region.wanted o (yielded ops a.tmps) = false) (hn : Nat.blt d n = true) (hp : Picks ((d, undef) :: m) m')
    (k : ∀ a', Fr a' n m' → wpList P ops Q rest a' w) : wpList P ops Q (o :: rest) a w := by
  unfold wpList
  rw [hg, hd]
  exact k _ (H.put hn hp)
/-- An operation without a slot. -/
theorem h_st (H : Fr a n m) (hd : o.dst = none) (hg : Region.wanted o (yielded ops a.tmps) = true) (hr : (execOp a.eval o).run P w = .ok .skip w')
    (k : ∀ a', Fr a' n m → wpList P ops Q rest a' w') : wpList P ops Q (o :: rest) a w :=
  wpList_step fun K hK => by
    rw [if_pos hg]
    unfold Oper.wp
    rw [hr]
    simp only [Oper.upon, hd]
    exact hK _ _ (k _ H)
theorem h_skip0 (H : Fr a n m) (hd : o.dst = none) (hg : Region.wanted o (yielded ops a.tmps) = false)
    (k : ∀ a', Fr a' n m → wpList P ops Q rest a' w) : wpList P ops Q (o :: rest) a w := by
  unfold wpList
  rw [hg, hd]
  exact k _ H
/-- A call. -/
theorem h_call {f : FuncId} {args : Array Value} (H : Fr a n m) (hd : o.dst = some d) (hg : Region.wanted o (yielded ops a.tmps) = true) (hr : (execOp a.eval o).run P w = .ok (.enter f args) w') (hn : Nat.blt d n = true)
    (hc : Calls P f args w' fun e w2 => ∃ v, e = .returned v ∧ ∀ a', (∀ m', Picks ((d, v) :: m) m' → Fr a' n m') → wpList P ops Q rest a' w2) : wpList P ops Q (o :: rest) a w :=
  wpList_step fun K hK => by
    rw [if_pos hg]
    unfold Oper.wp
    rw [hr]
    simp only [Oper.upon_enter]
    refine Calls.mono hc ?_
    rintro e w2 ⟨v, rfl, h⟩
    simp only [hd]
    exact hK _ _ (h _ fun m' hp => H.put hn hp)
theorem h_end (k : Q .normal a w) : wpList P ops Q [] a w := k
theorem wp_fr {c : Code} (H : Fr a n m) (k : ∀ a', Fr a' n m → c.wp P Q a' w) : c.wp P Q a w := k a H
theorem R_build {t : TypeId} (ho : o.op = .build t #[]) (hl : (Instr.build t #[]).run P w = .ok v w) : (execOp a.eval o).run P w = .ok (.value v) w := by
  unfold execOp; rw [ho]
  simp only [List.map_toArray, List.map_nil]
  exact fr_v hl
end
section
variable {P : Program} {a : Act} {w : World} {n : Nat} {m : List (Nat × Value)} {fn : Func} {R : Ending → World → Prop}
theorem Fr.ret0 (H : Fr a n m) (h : fn.results = #[]) (hR : R (.returned (.tuple #[])) w) : bodyPost P fn R .ret a w := ⟨H.1, _, by rw [results_none h], hR⟩
theorem Fr.ret1 {t : Nat} {v : Value} (H : Fr a n m) (h : fn.results = #[.tmp t]) (hv : look m t = some v) (hR : R (.returned v) w) : bodyPost P fn R .ret a w := ⟨H.1, v, by rw [results_tmp h, H.getD hv], hR⟩
theorem Fr.ret2 {t u : Nat} {v x : Value} (H : Fr a n m) (h : fn.results = #[.tmp t, .tmp u]) (hv : look m t = some v) (hx : look m u = some x) (hR : R (.returned (.tuple #[v, x])) w) : bodyPost P fn R .ret a w := ⟨H.1, _, by rw [results_tmp2 h, H.getD hv, H.getD hx], hR⟩
end
/-! So, the world behind it known by its live blocks alone. -/
section
variable {P : Program} {ops : Array Oper} {Q : Exit → Act → World → Prop} {rest : List Oper} {o : Oper} {a : Act} {w w' w0 : World} {n d : Nat} {v : Value} {m m' : List (Nat × Value)} {L' : List Blk}
theorem h_opL (L' : List Blk) (H : Fr a n m) (hd : o.dst = some d) (hg : Region.wanted o (yielded ops a.tmps) = true) (hr : (execOp a.eval o).run P w = .ok (.value v) w') (hL : Live w0 L' w') (hn : Nat.blt d n = true) (hp : Picks ((d, v) :: m) m')
    (k : ∀ a' w', Fr a' n m' → Live w0 L' w' → wpList P ops Q rest a' w') : wpList P ops Q (o :: rest) a w :=
  h_op H hd hg hr hn hp fun a' H' => k a' w' H' hL
theorem h_stL (L' : List Blk) (H : Fr a n m) (hd : o.dst = none) (hg : Region.wanted o (yielded ops a.tmps) = true) (hr : (execOp a.eval o).run P w = .ok .skip w') (hL : Live w0 L' w')
    (k : ∀ a' w', Fr a' n m → Live w0 L' w' → wpList P ops Q rest a' w') : wpList P ops Q (o :: rest) a w :=
  h_st H hd hg hr fun a' H' => k a' w' H' hL
end
/-! A row of operations walked by itself: its ways meet behind it. -/
section
variable {P : Program} {ops : Array Oper} {Q : Exit → Act → World → Prop} {R : Act → World → Prop} {a : Act} {w : World}
def Qn (R : Act → World → Prop) (Q : Exit → Act → World → Prop) : Exit → Act → World → Prop
  | .normal, a, w => R a w
  | e, a, w => Q e a w
theorem upon_qn {o : Oper} {K K' : Act → World → Prop} (hK : ∀ a w, K a w → K' a w) {r : Result Next} (h : o.upon P a K (Qn R Q) r) : o.upon P a K' Q r := by
  cases r with
  | ok n w' =>
    cases n with
    | value u => exact hK _ _ h
    | skip => exact hK _ _ h
    | «defer» d => exact hK _ _ h
    | enter f args =>
      refine Calls.mono h fun e w'' he => ?_
      cases e with
      | returned u => exact hK _ _ he
      | panicked c => exact he
      | outgrown => exact he
    | row row args => exact Rows.mono h fun u w'' he => hK _ _ he
    | _ => exact h.elim
  | halt x w' =>
    cases x with
    | panic u => exact h
    | _ => exact h.elim
theorem wpList_cut : ∀ (chunk : List Oper) {rest : List Oper} {a : Act} {w : World}, wpList P ops (Qn R Q) chunk a w → (∀ a' w', R a' w' → wpList P ops Q rest a' w') → wpList P ops Q (chunk ++ rest) a w
  | [], rest, a, w, h, k => k a w h
  | o :: chunk, rest, a, w, h, k => by
    rw [List.cons_append]
    unfold wpList at h ⊢
    split
    · rename_i hw
      rw [if_pos hw] at h
      rcases h with h | ⟨h, a1, w1, h2⟩
      · exact .inl (upon_qn (fun a w h => wpList_cut chunk h k) h)
      · exact .inr ⟨h, a1, w1, h2⟩
    · rename_i hw
      rw [if_neg hw] at h
      exact wpList_cut chunk h k
end
/-! The steps in a region that draws its order. -/
section
variable {P : Program} {ops : Array Oper} {Q : Exit → Act → World → Prop} {md : Region.Mode} {S : World → Prop} {o : Oper} {a : Act} {w : World} {n d fuel : Nat} {v : Value} {m m' : List (Nat × Value)} {listed : Array Bool}
theorem a_op (i : Nat) (H : Fr a n m) (hi : ops[i]? = some o) (hd : o.dst = some d) (hs : Region.noSelect ops = true) (hf : Region.free md ops listed i = true) (hr : (Region.ready md ops listed).contains i = true)
    (hQ : ∀ c a w, Q (.panic c) (a.put (some d) v) w → Q (.panic c) a w) (hg : Region.wanted o (yielded ops a.tmps) = true) (hy : ∀ w, S w → (execOp a.eval o).run P w = .ok (.value v) w) (hS : S w) (hn : Nat.blt d n = true) (hp : Picks ((d, v) :: m) m')
    (k : ∀ a', Fr a' n m' → wpAnyH P md ops Q S fuel (listed.setIfInBounds i true) a' w) : wpAnyH P md ops Q S (fuel + 1) listed a w :=
  take_at hi hd hs hf hr hQ (.inl ⟨hg, hy⟩) hS (k _ (H.put hn hp))
theorem a_opZ (i : Nat) (H : Fr a n m) (hi : ops[i]? = some o) (hd : o.dst = some d) (h3 : (Region.noSelect ops && Region.free md ops listed i && (Region.ready md ops listed).contains i) = true)
    (hg : Region.wanted o (yielded ops a.tmps) = true) (hy : ∀ w, S w → (execOp a.eval o).run P w = .ok (.value v) w) (hS : S w) (hn : Nat.blt d n = true) (hp : Picks ((d, v) :: m) m')
    (k : ∀ a', Fr a' n m' → wpAnyH P md ops Q S fuel (listed.setIfInBounds i true) a' w) (hQ : ∀ c a w, Q (.panic c) (a.put (some d) v) w → Q (.panic c) a w := by exact fun _ _ _ h => h) : wpAnyH P md ops Q S (fuel + 1) listed a w := by
  simp only [Bool.and_eq_true] at h3
  exact a_op i H hi hd h3.1.1 h3.1.2 h3.2 hQ hg hy hS hn hp k
theorem a_skip (i : Nat) (H : Fr a n m) (hi : ops[i]? = some o) (hd : o.dst = some d) (hs : Region.noSelect ops = true) (hf : Region.free md ops listed i = true) (hr : (Region.ready md ops listed).contains i = true)
    (hQ : ∀ c a w, Q (.panic c) (a.put (some d) undef) w → Q (.panic c) a w) (hg : Region.wanted o (yielded ops a.tmps) = false) (hS : S w) (hn : Nat.blt d n = true) (hp : Picks ((d, undef) :: m) m')
    (k : ∀ a', Fr a' n m' → wpAnyH P md ops Q S fuel (listed.setIfInBounds i true) a' w) : wpAnyH P md ops Q S (fuel + 1) listed a w :=
  take_at hi hd hs hf hr hQ (.inr ⟨hg, rfl⟩) hS (k _ (H.put hn hp))
/-- The one call that may come up, whatever it makes. -/
theorem a_call (i : Nat) {f : FuncId} {args : Array Value} (H : Fr a n m) (hr : Region.ready md ops listed = [i]) (hi : ops[i]? = some o) (hd : o.dst = some d) (hg : Region.wanted o (yielded ops a.tmps) = true) (hrun : (execOp a.eval o).run P w = .ok (.enter f args) w) (hn : Nat.blt d n = true)
    (hc : Calls P f args w fun e w2 => ∃ v, e = .returned v ∧ S w2 ∧ ∀ a', (∀ m', Picks ((d, v) :: m) m' → Fr a' n m') → wpAnyH P md ops Q S fuel (listed.setIfInBounds i true) a' w2) : wpAnyH P md ops Q S (fuel + 1) listed a w := by
  refine step_at hr hi hd hg fun K' hK => ?_
  unfold Oper.wp
  rw [hrun]
  simp only [Oper.upon_enter]
  refine Calls.mono hc ?_
  rintro e w2 ⟨v, rfl, hS, h⟩
  simp only [hd]
  exact hK.out _ _ hS fun _ => h _ fun m' hp => H.put hn hp
/-- A call that leaves the world alone, taken first. -/
theorem a_quiet (i : Nat) {f : FuncId} {args : Array Value} (H : Fr a n m) (hi : ops[i]? = some o) (hd : o.dst = some d) (hs : Region.noSelect ops = true) (hf : Region.free md ops listed i = true) (hr : (Region.ready md ops listed).contains i = true)
    (hQ : ∀ c a w, Q (.panic c) (a.put (some d) v) w → Q (.panic c) a w) (hg : Region.wanted o (yielded ops a.tmps) = true) (hrun : ∀ w, (execOp a.eval o).run P w = .ok (.enter f args) w)
    (hc : ∀ w, S w → Calls P f args w fun e w2 => e = .returned v ∧ w2 = w) (hS : S w) (hn : Nat.blt d n = true) (hp : Picks ((d, v) :: m) m')
    (k : ∀ a', Fr a' n m' → wpAnyH P md ops Q S fuel (listed.setIfInBounds i true) a' w) : wpAnyH P md ops Q S (fuel + 1) listed a w := by
  refine gives_at hi hd hs hf hr hQ (.inl ⟨hg, fun w hw => ?_⟩) hS (k _ (H.put hn hp))
  unfold Oper.quietAt
  rw [hrun w]
  refine ⟨rfl, (hc w hw).mono ?_⟩
  rintro e w2 ⟨rfl, rfl⟩
  exact ⟨rfl, rfl⟩
/-! Guards that are Booleans not known: both ways at once. -/
theorem a_opB (i : Nat) {j dg : Nat} {b c : Bool} (H : Fr a n m) (hi : ops[i]? = some o) (hd : o.dst = some d) (hs : Region.noSelect ops = true) (hf : Region.free md ops listed i = true) (hr : (Region.ready md ops listed).contains i = true)
    (hQ : ∀ c' a w, Q (.panic c') (a.put (some d) (bif (b == c) then v else undef)) w → Q (.panic c') a w) (hg : o.guard = some (j, c)) (hj : (ops[j]?).bind (·.dst) = some dg) (hl : look m dg = some (.bool b))
    (hy : b = c → ∀ w, S w → (execOp a.eval o).run P w = .ok (.value v) w) (hS : S w) (hn : Nat.blt d n = true) (hp : Picks ((d, bif (b == c) then v else undef) :: m) m')
    (k : ∀ a', Fr a' n m' → wpAnyH P md ops Q S fuel (listed.setIfInBounds i true) a' w) : wpAnyH P md ops Q S (fuel + 1) listed a w := by
  have hw := H.wants (ops := ops) hg hj hl
  refine take_at hi hd hs hf hr hQ ?_ hS (k _ (H.put hn hp))
  by_cases e : b = c
  · subst e
    simp only [BEq.rfl, cond_true] at hw ⊢
    exact .inl ⟨hw, hy rfl⟩
  · have e2 : (b == c) = false := by cases b <;> cases c <;> simp_all
    rw [e2] at hw ⊢
    exact .inr ⟨hw, rfl⟩
theorem a_quietB (i : Nat) {j dg : Nat} {b c : Bool} {f : FuncId} {args : Array Value} (H : Fr a n m) (hi : ops[i]? = some o) (hd : o.dst = some d) (hs : Region.noSelect ops = true) (hf : Region.free md ops listed i = true) (hr : (Region.ready md ops listed).contains i = true)
    (hQ : ∀ c' a w, Q (.panic c') (a.put (some d) (bif (b == c) then v else undef)) w → Q (.panic c') a w) (hg : o.guard = some (j, c)) (hj : (ops[j]?).bind (·.dst) = some dg) (hl : look m dg = some (.bool b))
    (hrun : b = c → ∀ w, (execOp a.eval o).run P w = .ok (.enter f args) w) (hc : ∀ w, S w → Calls P f args w fun e w2 => e = .returned v ∧ w2 = w) (hS : S w) (hn : Nat.blt d n = true) (hp : Picks ((d, bif (b == c) then v else undef) :: m) m')
    (k : ∀ a', Fr a' n m' → wpAnyH P md ops Q S fuel (listed.setIfInBounds i true) a' w) : wpAnyH P md ops Q S (fuel + 1) listed a w := by
  have hw := H.wants (ops := ops) hg hj hl
  refine gives_at hi hd hs hf hr hQ ?_ hS (k _ (H.put hn hp))
  by_cases e : b = c
  · subst e
    simp only [BEq.rfl, cond_true] at hw ⊢
    refine .inl ⟨hw, fun w hw2 => ?_⟩
    unfold Oper.quietAt
    rw [hrun rfl w]
    refine ⟨rfl, (hc w hw2).mono ?_⟩
    rintro e w2 ⟨rfl, rfl⟩
    exact ⟨rfl, rfl⟩
  · have e2 : (b == c) = false := by cases b <;> cases c <;> simp_all
    rw [e2] at hw ⊢
    exact .inr ⟨hw, rfl⟩
theorem a_callB (i : Nat) {j dg : Nat} {b c : Bool} {f : FuncId} {args : Array Value} (H : Fr a n m) (hr : Region.ready md ops listed = [i]) (hi : ops[i]? = some o) (hd : o.dst = some d) (hs : Region.noSelect ops = true) (hf : Region.free md ops listed i = true)
    (hQ : ∀ c' a w, Q (.panic c') (a.put (some d) undef) w → Q (.panic c') a w) (hg : o.guard = some (j, c)) (hj : (ops[j]?).bind (·.dst) = some dg) (hl : look m dg = some (.bool b))
    (hrun : b = c → (execOp a.eval o).run P w = .ok (.enter f args) w) (hc : Calls P f args w fun e w2 => e = .returned v ∧ S w2) (hS : S w) (hn : Nat.blt d n = true) (hp : Picks ((d, bif (b == c) then v else undef) :: m) m')
    (k : ∀ a' w', S w' → Fr a' n m' → wpAnyH P md ops Q S fuel (listed.setIfInBounds i true) a' w') : wpAnyH P md ops Q S (fuel + 1) listed a w := by
  have hw := H.wants (ops := ops) hg hj hl
  by_cases e : b = c
  · subst e
    simp only [BEq.rfl, cond_true] at hw hp
    refine step_at hr hi hd hw fun K' hK => ?_
    unfold Oper.wp
    rw [hrun rfl]
    simp only [Oper.upon_enter]
    refine Calls.mono hc ?_
    rintro e w2 ⟨rfl, hS2⟩
    simp only [hd]
    exact hK.out _ _ hS2 fun _ => k _ _ hS2 (H.put hn hp)
  · have e2 : (b == c) = false := by cases b <;> cases c <;> simp_all
    rw [e2] at hw hp
    exact take_at hi hd hs hf (by rw [hr]; simp) hQ (.inr ⟨hw, rfl⟩) hS (k _ _ hS (H.put hn hp))
end
end Go.Proofs.YtnjfjdfjheiocaaGreat
