/-
  The walk's steps in short: many plain operations at once; calls by their contracts.
-/
import Derived.Test.YtnjfjdfjheiocaaGreatFr
import Derived.Test.YtnjfjdfjheiocaaGreatMsgFk
import Derived.Deep.Cut
set_option linter.unusedSimpArgs false
set_option linter.unusedVariables false
namespace Go.Proofs.YtnjfjdfjheiocaaGreat
open Go.RowKit

def lk : List (Nat × Value) → Nat → Option Value
  | [], _ => none
  | (k, v) :: t, d => match Nat.beq k d with
    | true => some v
    | false => lk t d
theorem lk_eq : ∀ (m : List (Nat × Value)) (d : Nat), lk m d = look m d
  | [], _ => rfl
  | (k, v) :: t, d => by
    unfold lk look
    rw [lk_eq t d]
    cases Nat.beq k d <;> rfl
def evv (m : List (Nat × Value)) : Operand → Option Value
  | .tmp t => lk m t
  | .const v => some v
  | .global g => some (.pointer (some ⟨g, 0, none⟩))
  | .func f => some (.func (.func f) #[] #[])
theorem evv_eq (m : List (Nat × Value)) (x : Operand) : evv m x = ev1 m x := by
  cases x
  case tmp t => exact lk_eq m t
  all_goals rfl
/-- What is known of the types: fields' offsets, slices, texts, pointers. -/
structure Tab where
  offs : List (Nat × List Nat)
  sls : List Nat
  strs : List Nat
  ptrs : List Nat
  ones : List Nat
  rws : List (Nat × Nat)
def has : List Nat → Nat → Bool
  | [], _ => false
  | k :: l, t => match Nat.beq k t with
    | true => true
    | false => has l t
def offOf : List (Nat × List Nat) → Nat → Nat → Option Nat
  | [], _, _ => none
  | (k, l) :: r, t, i => match Nat.beq k t with
    | true => l[i]?
    | false => offOf r t i
def Tab.ok (P : Program) (T : Tab) : Bool :=
  (T.offs.all fun p => match P.underlying p.1 with
    | some (.struct fs) => (List.range p.2.length).all fun i => match fs[i]?, p.2[i]? with
      | some f, some k => Nat.beq f.offset k && (match P.info? f.type with
        | some ti => !(Nat.beq ti.size 0)
        | none => false)
      | _, _ => false
    | _ => false) &&
  (T.sls.all fun t => match P.underlying t with
    | some (.slice _) => true
    | _ => false) &&
  (T.strs.all fun t => match P.underlying t with
    | some .string => true
    | _ => false) &&
  (T.ptrs.all fun t => match P.underlying t with
    | some (.pointer _) => true
    | _ => false) &&
  (T.ones.all fun t => (match P.underlying t with
    | some (.struct _) => false
    | some (.array ..) => false
    | some _ => true
    | none => false) && (match P.info? t with
    | some i => Nat.beq i.size 1
    | none => false)) &&
  (T.rws.all fun p => (match P.underlying p.1 with
    | some (.struct _) => true
    | some (.array ..) => true
    | _ => false) && (match P.info? p.1 with
    | some i => Nat.beq i.size p.2
    | none => false))
theorem has_mem : ∀ {l : List Nat} {t : Nat}, has l t = true → t ∈ l
  | k :: l, t, h => by
    unfold has at h
    by_cases e : Nat.beq k t = true
    · have := Nat.eq_of_beq_eq_true e
      subst this
      exact List.mem_cons_self
    · have e' : Nat.beq k t = false := Bool.eq_false_iff.2 e
      rw [e'] at h
      exact List.mem_cons_of_mem _ (has_mem h)
theorem offOf_mem : ∀ {l : List (Nat × List Nat)} {t i k : Nat}, offOf l t i = some k → ∃ q, (t, q) ∈ l ∧ q[i]? = some k
  | (a, q) :: l, t, i, k, h => by
    unfold offOf at h
    by_cases e : Nat.beq a t = true
    · have := Nat.eq_of_beq_eq_true e
      subst this
      rw [e] at h
      exact ⟨q, List.mem_cons_self, h⟩
    · have e' : Nat.beq a t = false := Bool.eq_false_iff.2 e
      rw [e'] at h
      obtain ⟨q, hq, hk⟩ := offOf_mem h
      exact ⟨q, List.mem_cons_of_mem _ hq, hk⟩
section
variable {P : Program} {T : Tab}
theorem Tab.sl (h : T.ok P = true) {t : Nat} (ht : has T.sls t = true) : ∃ e, P.underlying t = some (.slice e) := by
  simp only [Tab.ok, Bool.and_eq_true, List.all_eq_true] at h
  have h2 := h.1.1.1.1.2 t (has_mem ht)
  split at h2
  · exact ⟨_, by assumption⟩
  · cases h2
theorem Tab.str (h : T.ok P = true) {t : Nat} (ht : has T.strs t = true) : P.underlying t = some .string := by
  simp only [Tab.ok, Bool.and_eq_true, List.all_eq_true] at h
  have h2 := h.1.1.1.2 t (has_mem ht)
  split at h2
  · assumption
  · cases h2
theorem Tab.ptr (h : T.ok P = true) {t : Nat} (ht : has T.ptrs t = true) : ∃ e, P.underlying t = some (.pointer e) := by
  simp only [Tab.ok, Bool.and_eq_true, List.all_eq_true] at h
  have h2 := h.1.1.2 t (has_mem ht)
  split at h2
  · exact ⟨_, by assumption⟩
  · cases h2
theorem Tab.off (h : T.ok P = true) {t i k : Nat} (ht : offOf T.offs t i = some k) (a : Addr) {w : World} : (Instr.fieldAt t (.pointer (some a)) i).run P w = .ok (.pointer (some (a.add k))) w := by
  obtain ⟨q, hq, hk⟩ := offOf_mem ht
  simp only [Tab.ok, Bool.and_eq_true, List.all_eq_true] at h
  have h2 := h.1.1.1.1.1 _ hq
  split at h2
  · rename_i fs hu
    simp only [List.all_eq_true, List.mem_range] at h2
    have h3 := h2 i (List.getElem?_eq_some_iff.1 hk).1
    split at h3
    · rename_i f k' hf hk'
      rw [hk] at hk'
      cases hk'
      simp only [Bool.and_eq_true] at h3
      have e := Nat.eq_of_beq_eq_true h3.1
      have h4 := h3.2
      split at h4
      · rename_i ti hti
        have hz : ti.size ≠ 0 := by
          intro hz
          rw [hz] at h4
          cases h4
        have hs : (sizeOf f.type).run P w = .ok ti.size w := by simp [sizeOf, typeInfo, hti, go_sem]
        simp only [Instr.fieldAt, Sem.run_bind, run_underlying hu w, Result.andThen_ok, hf, Instr.sureAddr, Sem.run_pure, fieldPlace, hs, hz, if_false, e]
      · cases h4
    · cases h3
  · cases h2
end
def rowOf : List (Nat × Nat) → Nat → Option Nat
  | [], _ => none
  | (k, n) :: r, t => match Nat.beq k t with
    | true => some n
    | false => rowOf r t
theorem rowOf_mem : ∀ {l : List (Nat × Nat)} {t k : Nat}, rowOf l t = some k → (t, k) ∈ l
  | (a, n) :: l, t, k, h => by
    unfold rowOf at h
    by_cases e : Nat.beq a t = true
    · have := Nat.eq_of_beq_eq_true e
      subst this
      rw [e] at h
      cases h
      exact List.mem_cons_self
    · have e' : Nat.beq a t = false := Bool.eq_false_iff.2 e
      rw [e'] at h
      exact List.mem_cons_of_mem _ (rowOf_mem h)
section
variable {P : Program} {T : Tab} {w : World} {a : Addr} {t k : Nat} {v : Value} {cs : Array Value}
theorem Tab.one (h : T.ok P = true) (ht : has T.ones t = true) : (∃ d, P.underlying t = some d ∧ d.isRow = false) ∧ ∃ i, P.info? t = some i ∧ i.size = 1 := by
  simp only [Tab.ok, Bool.and_eq_true, List.all_eq_true] at h
  have h2 := h.1.2 t (has_mem ht)
  constructor
  · have h3 := h2.1
    split at h3
    · cases h3
    · cases h3
    · rename_i d h5 h6 hd
      refine ⟨d, hd, ?_⟩
      cases d <;> first | rfl | exact absurd rfl (h5 _) | exact absurd rfl (h6 _ _)
    · cases h3
  · have h3 := h2.2
    split at h3
    · exact ⟨_, by assumption, Nat.eq_of_beq_eq_true h3⟩
    · cases h3
theorem Tab.row (h : T.ok P = true) (ht : rowOf T.rws t = some k) : (∃ d, P.underlying t = some d ∧ d.isRow = true) ∧ (P.info? t).map (·.size) = some k := by
  simp only [Tab.ok, Bool.and_eq_true, List.all_eq_true] at h
  have h2 := h.2 _ (rowOf_mem ht)
  constructor
  · have h3 := h2.1
    split at h3
    · exact ⟨_, by assumption, rfl⟩
    · exact ⟨_, by assumption, rfl⟩
    · cases h3
  · have h3 := h2.2
    split at h3
    · rename_i i hi
      rw [hi]
      exact congrArg some (Nat.eq_of_beq_eq_true h3)
    · cases h3
theorem run_isAgg {d : TypeDesc} (hu : P.underlying t = some d) : (isAgg t).run P w = .ok d.isRow w := by
  unfold isAgg
  rw [Sem.run_bind, run_underlying hu w]
  cases d <;> rfl
/-- One cell is read. -/
theorem z_ld (h : T.ok P = true) (ht : has T.ones t = true) (hc : w.cell? a = some v) : (Instr.loadAt t (.pointer (some a))).run P w = .ok v w := by
  obtain ⟨⟨d, hu, hd⟩, _⟩ := Tab.one h ht
  have h1 := run_isAgg (w := w) hu
  rw [hd] at h1
  have h2 : (loadVar t a).run P w = .ok v w := by
    simp [loadVar, Sem.run_bind, h1, go_sem, hc]
  simp only [Instr.loadAt, Instr.sureAddr, Sem.run_bind, Sem.run_pure, Result.andThen_ok, h2]
/-- A row of cells is read. -/
theorem z_ldr (h : T.ok P = true) (ht : rowOf T.rws t = some k) (hk : cs.size = k) (hc : ∀ (j : Nat) u, cs[j]? = some u → w.cell? (a.add j) = some u) : (Instr.loadAt t (.pointer (some a))).run P w = .ok (.agg cs) w := by
  obtain ⟨⟨d, hu, hd⟩, hi⟩ := Tab.row h ht
  have h1 := run_isAgg (w := w) hu
  rw [hd] at h1
  have hl : (loadCells a cs.size).run P w = .ok cs w :=
    run_loadCells_list (P := P) w a cs.toList (fun j v hv => hc j v (by simpa using hv))
  cases hq : P.info? t with
  | none => simp [hq] at hi
  | some i =>
    have hs : i.size = cs.size := by simp [hq] at hi; omega
    have h2 : (loadVar t a).run P w = .ok (.agg cs) w := by
      simp [loadVar, Sem.run_bind, h1, sizeOf, typeInfo, hq, hs, hl]
    simp only [Instr.loadAt, Instr.sureAddr, Sem.run_bind, Sem.run_pure, Result.andThen_ok, h2]
/-- One cell of a block is written. -/
theorem z_st {g i : Nat} {A : Array Value} {u : TypeId} (h : T.ok P = true) (ht : has T.ones t = true) (hb : w.heap[g]? = some (.cells A u (0, 0))) (hi : i < A.size) (hv : v.cells = #[v]) (h1v : v.oneCell' = true) : (Instr.storeAt t (.pointer (some ⟨g, i, none⟩)) v).run P w = .ok () (w.setCell ⟨g, i, none⟩ v) := by
  obtain ⟨_, j, hj, hs⟩ := Tab.one h ht
  have h1 : w.cell? ⟨g, i, none⟩ = some A[i] := by rw [cells_at hb]; exact Array.getElem?_eq_getElem hi
  have h2 : w.frozen? ⟨g, i, none⟩ = false := thaw_at hb i
  have h3 : (store ⟨g, i, none⟩ v).run P w = .ok () (w.setCell ⟨g, i, none⟩ v) := by
    rw [run_store P w _ _ _ h1v, h1]
    simp only [h2]
    rfl
  simp only [Instr.storeAt, storeVar, hv]
  simp [sizeOf, typeInfo, hj, hs, go_sem, h3]
end
/-- k cells on. -/
def adv (g k : Nat) : Nat → Addr
  | 0 => ⟨g, k, none⟩
  | j + 1 => ⟨g, k + (j + 1), none⟩
theorem adv_eq (g k j : Nat) : adv g k j = (⟨g, k, none⟩ : Addr).add j := by
  cases j <;> simp [adv, Addr.add]
def cmpI : BinOp → Int → Int → Option Bool
  | .eql, x, y => some (x == y)
  | .neq, x, y => some (x != y)
  | .lss, x, y => some (decide (x < y))
  | .leq, x, y => some (decide (x ≤ y))
  | .gtr, x, y => some (decide (x > y))
  | .geq, x, y => some (decide (x ≥ y))
  | _, _, _ => none
def sameK : IntKind → IntKind → Bool
  | .i8, .i8 | .i16, .i16 | .i32, .i32 | .i64, .i64 | .u8, .u8 | .u16, .u16 | .u32, .u32 | .u64, .u64 => true
  | _, _ => false
theorem sameK_eq {a b : IntKind} (h : sameK a b = true) : a = b := by
  cases a <;> cases b <;> first | rfl | cases h
/-- What a plain operation gives. -/
def pval (T : Tab) (m : List (Nat × Value)) : Op → Option Value
  | .move x => evv m x
  | .assign x => evv m x
  | .pick c x y => match evv m c with
    | some (.bool true) => evv m x
    | some (.bool false) => evv m y
    | _ => none
  | .extract x i => match evv m x with
    | some (.tuple ⟨l⟩) => l[i]?
    | _ => none
  | .unOp .not _ x => match evv m x with
    | some (.bool b) => some (.bool (!b))
    | _ => none
  | .nilCheck x => match evv m x with
    | some (.pointer (some a)) => some (.pointer (some a))
    | _ => none
  | .fieldAddr s x f => match evv m x with
    | some (.pointer (some ⟨g, k, none⟩)) => match offOf T.offs s f with
      | some j => some (.pointer (some (match j with
        | 0 => ⟨g, k, none⟩
        | j + 1 => ⟨g, k + (j + 1), none⟩)))
      | none => none
    | _ => none
  | .binOp b t x y _ => match evv m x, evv m y with
    | some (.int k x), some (.int k' y) => match sameK k k', cmpI b x y with
      | true, some r => some (.bool r)
      | _, _ => none
    | some (.pointer (some a)), some (.pointer none) => match has T.ptrs t, b with
      | true, .eql => some (.bool false)
      | true, .neq => some (.bool true)
      | _, _ => none
    | some (.pointer none), some (.pointer none) => match has T.ptrs t, b with
      | true, .eql => some (.bool true)
      | true, .neq => some (.bool false)
      | _, _ => none
    | _, _ => none
  | .call c => match c with
    | ⟨.builtin .len, ⟨[x]⟩, ⟨[t]⟩⟩ => match evv m x with
      | some (.slice _ l _) => match has T.sls t with
        | true => some (.int .i64 (l : Nat))
        | false => none
      | some (.string s) => match has T.strs t with
        | true => some (.int .i64 (s.size : Nat))
        | false => none
      | _ => none
    | _ => none
  | _ => none
section
variable {P : Program} {T : Tab} {ops : Array Oper} {Q : Exit → Act → World → Prop} {rest l l' : List Oper} {o : Oper} {a : Act} {w w' : World} {n d : Nat} {v : Value} {m m' : List (Nat × Value)}
theorem Fr.evz (H : Fr a n m) {x : Operand} (h : evv m x = some v) : a.eval x = v := H.ev ((evv_eq m x).symm.trans h)
theorem pval_run (hT : T.ok P = true) (H : Fr a n m) (h : pval T m o.op = some v) (w : World) : (execOp a.eval o).run P w = .ok (.value v) w := by
  unfold pval at h
  split at h
  · rename_i x e
    exact R_mv H e ((evv_eq m x).symm.trans h)
  · rename_i x e
    exact R_as H e ((evv_eq m x).symm.trans h)
  · rename_i c x y e
    split at h
    · rename_i hc
      exact R_pick (b := true) H e ((evv_eq m c).symm.trans hc) ((evv_eq m x).symm.trans h)
    · rename_i hc
      exact R_pick (b := false) H e ((evv_eq m c).symm.trans hc) ((evv_eq m y).symm.trans h)
    · cases h
  · rename_i x i e
    split at h
    · rename_i l hx
      exact R_ext H e ((evv_eq m x).symm.trans hx) (by simpa using h)
    · cases h
  · rename_i t x e
    split at h
    · rename_i b hx
      cases h
      exact R_not H e ((evv_eq m x).symm.trans hx)
    · cases h
  · rename_i x e
    split at h
    · rename_i p hx
      cases h
      have e1 := H.evz hx
      unfold execOp
      rw [e]
      simp only [e1]
      rfl
    · cases h
  · rename_i s x f e
    split at h
    · rename_i g k hx
      split at h
      · rename_i j hj
        cases h
        have h2 := Tab.off hT hj ⟨g, k, none⟩ (w := w)
        rw [← adv_eq] at h2
        have h3 := R_fa H e ((evv_eq m x).symm.trans hx) h2
        cases j <;> exact h3
      · cases h
    · cases h
  · rename_i b t x y u e
    split at h
    · rename_i k x0 k' y0 hx hy
      split at h
      · rename_i r hk hr
        cases h
        have hk2 := sameK_eq hk
        subst hk2
        refine R_bin H e ((evv_eq m x).symm.trans hx) ((evv_eq m y).symm.trans hy) ?_
        cases b <;> simp only [cmpI, Option.some.injEq, reduceCtorEq] at hr <;> subst hr <;> simp [go_sem]
      · cases h
    · rename_i p hx hy
      split at h
      · rename_i hp
        cases h
        obtain ⟨el, hu⟩ := Tab.ptr hT hp
        exact R_bin H e ((evv_eq m x).symm.trans hx) ((evv_eq m y).symm.trans hy) (by simp [go_sem, hu])
      · rename_i hp
        cases h
        obtain ⟨el, hu⟩ := Tab.ptr hT hp
        exact R_bin H e ((evv_eq m x).symm.trans hx) ((evv_eq m y).symm.trans hy) (by simp [go_sem, hu])
      · cases h
    · rename_i hx hy
      split at h
      · rename_i hp
        cases h
        obtain ⟨el, hu⟩ := Tab.ptr hT hp
        exact R_bin H e ((evv_eq m x).symm.trans hx) ((evv_eq m y).symm.trans hy) (by simp [go_sem, hu])
      · rename_i hp
        cases h
        obtain ⟨el, hu⟩ := Tab.ptr hT hp
        exact R_bin H e ((evv_eq m x).symm.trans hx) ((evv_eq m y).symm.trans hy) (by simp [go_sem, hu])
      · cases h
    · cases h
  · rename_i c e
    split at h
    · rename_i x t
      split at h
      · rename_i p l c hx
        split at h
        · rename_i hs
          cases h
          obtain ⟨el, hu⟩ := Tab.sl hT hs
          exact R_lenS H e ((evv_eq m x).symm.trans hx) hu
        · cases h
      · rename_i s hx
        split at h
        · rename_i hs
          cases h
          exact R_len H e ((evv_eq m x).symm.trans hx) (Tab.str hT hs)
        · cases h
      · cases h
    · cases h
  · cases h
/-- Is an operation carried out? -/
def wantz (ops : Array Oper) (m : List (Nat × Value)) (o : Oper) : Option Bool :=
  match o.guard with
  | none => some true
  | some (j, c) => match (ops[j]?).bind (·.dst) with
    | some dg => match lk m dg with
      | some (.bool b) => match b, c with
        | true, true => some true
        | false, false => some true
        | true, false => some false
        | false, true => some false
      | some (.tuple ⟨[]⟩) => some false
      | _ => none
    | none => none
theorem wantz_t (H : Fr a n m) (h : wantz ops m o = some true) : Region.wanted o (yielded ops a.tmps) = true := by
  unfold wantz at h
  split at h
  · rename_i e; exact wn e
  · rename_i j c e
    split at h
    · rename_i dg hj
      split at h
      · rename_i b hl
        rw [H.wants e hj ((lk_eq m dg).symm.trans hl)]
        cases b <;> cases c <;> first | rfl | cases h
      · cases h
      · cases h
    · cases h
theorem wantz_f (H : Fr a n m) (h : wantz ops m o = some false) : Region.wanted o (yielded ops a.tmps) = false := by
  unfold wantz at h
  split at h
  · cases h
  · rename_i j c e
    split at h
    · rename_i dg hj
      split at h
      · rename_i b hl
        rw [H.wants e hj ((lk_eq m dg).symm.trans hl)]
        cases b <;> cases c <;> first | rfl | cases h
      · rename_i hl
        have h2 := H.get ((lk_eq m dg).symm.trans hl)
        have hy : yielded ops a.tmps j = none := by simp [yielded, hj, h2]
        unfold Region.wanted
        rw [e]
        simp only [hy]
        cases c <;> rfl
      · cases h
    · cases h
/-- A slot taken out of what is known. -/
def rmvK {α : Type} : List (Nat × Value) → Nat → (List (Nat × Value) → α) → α
  | [], _, k => k []
  | (x, v) :: t, d, k => match Nat.beq x d with
    | true => rmvK t d k
    | false => rmvK t d fun r => k ((x, v) :: r)
theorem rmvK_eq {α : Type} : ∀ (m : List (Nat × Value)) (d : Nat) (k : List (Nat × Value) → α), ∃ r, rmvK m d k = k r ∧ (∀ p, p ∈ r → p ∈ m ∧ p.1 ≠ d)
  | [], d, k => ⟨[], rfl, by simp⟩
  | (x, v) :: t, d, k => by
    unfold rmvK
    by_cases e : Nat.beq x d = true
    · rw [e]
      obtain ⟨r, h1, h2⟩ := rmvK_eq t d k
      exact ⟨r, h1, fun p hp => ⟨List.mem_cons_of_mem _ (h2 p hp).1, (h2 p hp).2⟩⟩
    · have e' : Nat.beq x d = false := Bool.eq_false_iff.2 e
      rw [e']
      obtain ⟨r, h1, h2⟩ := rmvK_eq t d fun r => k ((x, v) :: r)
      refine ⟨(x, v) :: r, h1, fun p hp => ?_⟩
      rcases List.mem_cons.1 hp with rfl | hp
      · exact ⟨List.mem_cons_self, fun h => e (by rw [show x = d from h]; exact Nat.beq_refl _)⟩
      · exact ⟨List.mem_cons_of_mem _ (h2 p hp).1, (h2 p hp).2⟩
def putK {α : Type} (m : List (Nat × Value)) (d : Nat) (v : Value) (k : List (Nat × Value) → α) : α :=
  match lk m d with
  | none => k ((d, v) :: m)
  | some _ => rmvK m d fun r => k ((d, v) :: r)
theorem Fr.put1 (H : Fr a n m) (hd : Nat.blt d n = true) (hm : ∀ p, p ∈ m' → p ∈ m ∧ p.1 ≠ d) : Fr (a.put (some d) v) n ((d, v) :: m') := by
  have hd' : d < n := by simp [Nat.blt] at hd; omega
  have hs := H.2.1
  refine ⟨H.1, by simp [Act.put, hs], fun p hp' => ?_⟩
  rcases List.mem_cons.1 hp' with rfl | hp
  · have h2 : d < a.tmps.size := by omega
    simp [Act.put, h2]
  · obtain ⟨h1, h2⟩ := hm p hp
    simp [Act.put, Array.getElem?_setIfInBounds, Ne.symm h2]
    exact H.2.2 _ h1
theorem lk_none : ∀ {m : List (Nat × Value)} {d : Nat}, lk m d = none → ∀ p, p ∈ m → p.1 ≠ d
  | (x, v) :: t, d, h, p, hp => by
    unfold lk at h
    by_cases e : Nat.beq x d = true
    · rw [e] at h
      cases h
    · have e' : Nat.beq x d = false := Bool.eq_false_iff.2 e
      rw [e'] at h
      rcases List.mem_cons.1 hp with rfl | hp
      · exact fun h => e (by rw [show x = d from h]; exact Nat.beq_refl _)
      · exact lk_none h p hp
theorem Fr.putK {α : Type} (H : Fr a n m) (hd : Nat.blt d n = true) (k : List (Nat × Value) → α) : ∃ m', putK m d v k = k m' ∧ Fr (a.put (some d) v) n m' := by
  unfold Go.Proofs.YtnjfjdfjheiocaaGreat.putK
  split
  · rename_i h
    exact ⟨_, rfl, H.put1 hd fun p hp => ⟨hp, lk_none h p hp⟩⟩
  · obtain ⟨r, h1, h2⟩ := rmvK_eq m d fun r => k ((d, v) :: r)
    exact ⟨_, h1, H.put1 hd h2⟩
/-- A plain operation: the frame behind it. -/
def pstep {α : Type} (T : Tab) (ops : Array Oper) (n : Nat) (m : List (Nat × Value)) (o : Oper) (k : List (Nat × Value) → Option α) : Option α :=
  match wantz ops m o with
  | some true => match o.dst with
    | some d => match Nat.blt d n with
      | true => match pval T m o.op with
        | some v => putK m d v k
        | none => none
      | false => none
    | none => none
  | some false => match o.dst with
    | some d => match Nat.blt d n with
      | true => putK m d undef k
      | false => none
    | none => k m
  | none => none
/-- N plain operations of a row. -/
def prun (T : Tab) (ops : Array Oper) (n : Nat) : Nat → List Oper → List (Nat × Value) → Option (List Oper × List (Nat × Value))
  | 0, l, m => some (l, m)
  | N + 1, o :: l, m => pstep T ops n m o fun m1 => prun T ops n N l m1
  | _ + 1, [], _ => none
theorem h_us (hT : T.ok P = true) : ∀ (N : Nat) {l l' : List Oper} {m m' : List (Nat × Value)} {a : Act}, Fr a n m → prun T ops n N l m = some (l', m') → (∀ a', Fr a' n m' → wpList P ops Q l' a' w) → wpList P ops Q l a w
  | 0, l, l', m, m', a, H, h, k => by
    cases h
    exact k a H
  | N + 1, [], l', m, m', a, H, h, k => by cases h
  | N + 1, o :: l, l', m, m', a, H, h, k => by
    unfold prun pstep at h
    split at h
    · rename_i hw
      split at h
      · rename_i d hd
        split at h
        · rename_i hn
          split at h
          · rename_i v hv
            obtain ⟨m1, h1, H1⟩ := H.putK (v := v) hn fun m1 => prun T ops n N l m1
            rw [h1] at h
            refine wpList_step fun K hK => ?_
            rw [if_pos (wantz_t H hw)]
            unfold Oper.wp
            rw [pval_run hT H hv w]
            simp only [Oper.upon, hd]
            exact hK _ _ (h_us hT N H1 h k)
          · cases h
        · cases h
      · cases h
    · rename_i hw
      split at h
      · rename_i d hd
        split at h
        · rename_i hn
          obtain ⟨m1, h1, H1⟩ := H.putK (v := undef) hn fun m1 => prun T ops n N l m1
          rw [h1] at h
          unfold wpList
          rw [wantz_f H hw, hd]
          exact h_us hT N H1 h k
        · cases h
      · rename_i hd
        unfold wpList
        rw [wantz_f H hw, hd]
        exact h_us hT N H h k
    · cases h
/-- What is kept of a frame. -/
def kpK {α : Type} (m : List (Nat × Value)) : List Nat → (List (Nat × Value) → α) → Option α
  | [], k => some (k [])
  | d :: l, k => match lk m d with
    | some v => kpK m l fun r => k ((d, v) :: r)
    | none => none
theorem kpK_eq {α : Type} {m : List (Nat × Value)} : ∀ (l : List Nat) (k : List (Nat × Value) → α) (r : α), kpK m l k = some r → ∃ m', r = k m' ∧ Picks m m'
  | [], k, r, h => by
    cases h
    exact ⟨[], rfl, .nil⟩
  | d :: l, k, r, h => by
    unfold kpK at h
    split at h
    · rename_i v hv
      obtain ⟨m', h1, h2⟩ := kpK_eq l _ _ h
      exact ⟨_, h1, .cons ((lk_eq m d).symm.trans hv) h2⟩
    · cases h
theorem Fr.kp (H : Fr a n m) (l : List Nat) (h : kpK m l id = some m') : Fr a n m' := by
  obtain ⟨m1, h1, h2⟩ := kpK_eq l id m' h
  rw [h1]
  exact H.pick _ h2
end
/-! Other operations: what they are asked. -/
inductive EOp where
  | ld (t : TypeId) (p : Value)
  | ixa (t : TypeId) (x y : Value)
  | ix (t : TypeId) (x y : Value)
  | bin (b : BinOp) (t : TypeId) (X Y : Operand) (x y : Value)
  | un (u : UnOp) (x : Value)
  | cv (s t : TypeId) (x : Value)
  | fld (t : TypeId) (x : Value) (f : Nat)
  | fa (t : TypeId) (x : Value) (f : Nat)
  | box (t : TypeId) (x : Value)
  | al (t : TypeId)
  | bd (t : TypeId) (ps : List (Nat × Value))
  | bds (t : TypeId) (k : Nat) (ps : List (Nat × Value))
  | sl (t : TypeId) (x : Value) (lo hi : Option Value)
  | lkp (t : TypeId) (x y : Value) (ok : Bool)
  | rg (t : TypeId) (x : Value)
  | nx (x : Value) (s : Bool) (ty : TypeId)
  | en (x : Value)
  | mm (t : TypeId)
  | mfn (f : Fn) (first cap : List Value)
  | ta (x : Value) (xT t : TypeId) (ok : Bool)
  | mif (t : TypeId) (x : Value)
  | ext (x : Value) (i : Nat)
  | app (ts : Array TypeId) (ty : TypeId) (vs : List Value)
  | del (ts : Array TypeId) (ty : TypeId) (vs : List Value)
  | len (ts : Array TypeId) (ty : TypeId) (vs : List Value)
  | mn (ts : Array TypeId) (ty : TypeId) (vs : List Value)
  | mx (ts : Array TypeId) (ty : TypeId) (vs : List Value)
  | cpy (ts : Array TypeId) (ty : TypeId) (vs : List Value)
@[reducible] def EOp.run : EOp → Sem Value
  | .ld t p => Instr.loadAt t p
  | .ixa t x y => Instr.indexAt t x y
  | .ix t x y => Instr.index t x y
  | .bin b t X Y x y => do eqGuard b t X Y x y; binOp b t x y
  | .un u x => Op.unary u x
  | .cv s t x => convert s t x
  | .fld t x f => Instr.field t x f
  | .fa t x f => Instr.fieldAt t x f
  | .box t x => Instr.box t x
  | .al t => Instr.alloc t true (.tuple #[])
  | .bd t ps => Instr.build t ps.toArray
  | .bds t k ps => Instr.buildSlice t k ps.toArray
  | .sl t x lo hi => Instr.sliceAt t x lo hi none
  | .lkp t x y ok => Instr.lookup t x y ok
  | .rg t x => Instr.range t x
  | .nx x s ty => Instr.next x s ty
  | .en x => Instr.entry x
  | .mm t => Instr.makeMap t none
  | .mfn f a b => Instr.makeFunc f a.toArray b.toArray
  | .ta x xT t ok => Instr.typeAssert x xT t ok
  | .mif t x => Instr.makeInterface t x
  | .ext x i => Instr.extract x i
  | .app ts ty vs => Builtin.append_ ts ty vs.toArray
  | .del ts ty vs => Builtin.delete_ ts ty vs.toArray
  | .len ts ty vs => Builtin.len_ ts ty vs.toArray
  | .mn ts ty vs => Builtin.min_ ts ty vs.toArray
  | .mx ts ty vs => Builtin.max_ ts ty vs.toArray
  | .cpy ts ty vs => Builtin.copy_ ts ty vs.toArray
section
variable {α : Type}
def evl (m : List (Nat × Value)) : List Operand → (List Value → Option α) → Option α
  | [], k => k []
  | x :: l, k => match evv m x with
    | some v => evl m l fun r => k (v :: r)
    | none => none
def evp (m : List (Nat × Value)) : List (Nat × Operand) → (List (Nat × Value) → Option α) → Option α
  | [], k => k []
  | (i, x) :: l, k => match evv m x with
    | some v => evp m l fun r => k ((i, v) :: r)
    | none => none
def evo (m : List (Nat × Value)) : Option Operand → (Option Value → Option α) → Option α
  | none, k => k none
  | some x, k => match evv m x with
    | some v => k (some v)
    | none => none
theorem evl_eq {ρ : Operand → Value} {m : List (Nat × Value)} (hρ : ∀ x v, evv m x = some v → ρ x = v) : ∀ (l : List Operand) (k : List Value → Option α) {r : α}, evl m l k = some r → ∃ vs, k vs = some r ∧ l.map ρ = vs
  | [], k, r, h => ⟨[], h, rfl⟩
  | x :: l, k, r, h => by
    unfold evl at h
    split at h
    · rename_i v hv
      obtain ⟨vs, h1, h2⟩ := evl_eq hρ l _ h
      exact ⟨_, h1, by rw [List.map_cons, h2, hρ x v hv]⟩
    · cases h
theorem evp_eq {ρ : Operand → Value} {m : List (Nat × Value)} (hρ : ∀ x v, evv m x = some v → ρ x = v) : ∀ (l : List (Nat × Operand)) (k : List (Nat × Value) → Option α) {r : α}, evp m l k = some r → ∃ vs, k vs = some r ∧ l.map (fun p => (p.1, ρ p.2)) = vs
  | [], k, r, h => ⟨[], h, rfl⟩
  | (i, x) :: l, k, r, h => by
    unfold evp at h
    split at h
    · rename_i v hv
      obtain ⟨vs, h1, h2⟩ := evp_eq hρ l _ h
      exact ⟨_, h1, by rw [List.map_cons, h2, hρ x v hv]⟩
    · cases h
theorem evo_eq {ρ : Operand → Value} {m : List (Nat × Value)} (hρ : ∀ x v, evv m x = some v → ρ x = v) : ∀ (x : Option Operand) (k : Option Value → Option α) {r : α}, evo m x k = some r → ∃ v, k v = some r ∧ x.map ρ = v
  | none, k, r, h => ⟨none, h, rfl⟩
  | some x, k, r, h => by
    simp only [evo] at h
    split at h
    · rename_i v hv
      exact ⟨some v, h, by rw [Option.map_some, hρ x v hv]⟩
    · cases h
end
/-- What an operation asks. -/
def eop (m : List (Nat × Value)) (ty : TypeId) : Op → Option EOp
  | .load t x => match evv m x with
    | some p => some (.ld t p)
    | none => none
  | .indexAddr t x y => match evv m x, evv m y with
    | some x, some y => some (.ixa t x y)
    | _, _ => none
  | .index t x y => match evv m x, evv m y with
    | some x, some y => some (.ix t x y)
    | _, _ => none
  | .binOp b t X Y _ => match evv m X, evv m Y with
    | some x, some y => some (.bin b t X Y x y)
    | _, _ => none
  | .unOp u _ x => match evv m x with
    | some x => some (.un u x)
    | none => none
  | .convert s t x => match evv m x with
    | some x => some (.cv s t x)
    | none => none
  | .field t x f => match evv m x with
    | some x => some (.fld t x f)
    | none => none
  | .fieldAddr t x f => match evv m x with
    | some x => some (.fa t x f)
    | none => none
  | .box t x => match evv m x with
    | some x => some (.box t x)
    | none => none
  | .alloc t => some (.al t)
  | .build t ⟨ps⟩ => evp m ps fun l => some (.bd t l)
  | .buildSlice t k ⟨ps⟩ => evp m ps fun l => some (.bds t k l)
  | .slice t x lo hi none => match evv m x with
    | some x => evo m lo fun lo => evo m hi fun hi => some (.sl t x lo hi)
    | none => none
  | .lookup t x y ok => match evv m x, evv m y with
    | some x, some y => some (.lkp t x y ok)
    | _, _ => none
  | .range t x => match evv m x with
    | some x => some (.rg t x)
    | none => none
  | .next x s => match evv m x with
    | some x => some (.nx x s ty)
    | none => none
  | .entry x => match evv m x with
    | some x => some (.en x)
    | none => none
  | .makeMap t none => some (.mm t)
  | .makeFunc f ⟨a⟩ ⟨b⟩ => evl m a fun a => evl m b fun b => some (.mfn f a b)
  | .typeAssert x xT t ok => match evv m x with
    | some x => some (.ta x xT t ok)
    | none => none
  | .makeInterface t x => match evv m x with
    | some x => some (.mif t x)
    | none => none
  | .extract x i => match evv m x with
    | some x => some (.ext x i)
    | none => none
  | .call ⟨.builtin .append, ⟨xs⟩, ts⟩ => evl m xs fun vs => some (.app ts ty vs)
  | .call ⟨.builtin .delete, ⟨xs⟩, ts⟩ => evl m xs fun vs => some (.del ts ty vs)
  | .call ⟨.builtin .len, ⟨xs⟩, ts⟩ => evl m xs fun vs => some (.len ts ty vs)
  | .call ⟨.builtin .min, ⟨xs⟩, ts⟩ => evl m xs fun vs => some (.mn ts ty vs)
  | .call ⟨.builtin .max, ⟨xs⟩, ts⟩ => evl m xs fun vs => some (.mx ts ty vs)
  | .call ⟨.builtin .copy, ⟨xs⟩, ts⟩ => evl m xs fun vs => some (.cpy ts ty vs)
  | _ => none
section
variable {P : Program} {T : Tab} {ops : Array Oper} {Q : Exit → Act → World → Prop} {rest l l' : List Oper} {o : Oper} {a : Act} {w w' : World} {n d : Nat} {v : Value} {m m' m1 : List (Nat × Value)}
theorem eop_run (H : Fr a n m) {e : EOp} (h : eop m o.type o.op = some e) (hr : e.run.run P w = .ok v w') : (execOp a.eval o).run P w = .ok (.value v) w' := by
  have hρ : ∀ x v, evv m x = some v → a.eval x = v := fun x v h => H.evz h
  have hm : ∀ {xs : List Operand} {vs : List Value}, xs.map a.eval = vs → Array.map a.eval xs.toArray = vs.toArray := by
    intro xs vs h
    rw [← h]
    simp
  have hp : ∀ {xs : List (Nat × Operand)} {vs : List (Nat × Value)}, xs.map (fun p => (p.1, a.eval p.2)) = vs → Array.map (fun p => (p.1, a.eval p.2)) xs.toArray = vs.toArray := by
    intro xs vs h
    rw [← h]
    simp
  unfold eop at h
  split at h
  case h_11 t ps e0 =>
    obtain ⟨vs, h1, h2⟩ := evp_eq hρ _ _ h
    cases h1
    unfold execOp; rw [e0]
    have := hp h2
    exact fr_v (by rw [show (Array.map _ _ : Array (Nat × Value)) = _ from this]; exact hr)
  case h_12 t k ps e0 =>
    obtain ⟨vs, h1, h2⟩ := evp_eq hρ _ _ h
    cases h1
    unfold execOp; rw [e0]
    have := hp h2
    exact fr_v (by rw [show (Array.map _ _ : Array (Nat × Value)) = _ from this]; exact hr)
  case h_13 t x lo hi e0 =>
    split at h
    · rename_i vx hx
      obtain ⟨lo', h1, h2⟩ := evo_eq hρ _ _ h
      obtain ⟨hi', h3, h4⟩ := evo_eq hρ _ _ h1
      cases h3
      unfold execOp; rw [e0]
      simp only [h2, h4, hρ _ _ hx, Option.map_none]
      exact fr_v hr
    · cases h
  case h_19 f xs ys e0 =>
    obtain ⟨vs, h1, h2⟩ := evl_eq hρ _ _ h
    obtain ⟨us, h3, h4⟩ := evl_eq hρ _ _ h1
    cases h3
    unfold execOp; rw [e0]
    have e1 := hm h2
    have e2 := hm h4
    exact fr_v (by rw [show (Array.map a.eval _) = _ from e1, show (Array.map a.eval _) = _ from e2]; exact hr)
  case h_23 xs ts e0 =>
    obtain ⟨vs, h1, h2⟩ := evl_eq hρ _ _ h
    cases h1
    unfold execOp; rw [e0]
    have e1 := hm h2
    have hr2 : (Builtin.append_ ts o.type vs.toArray).run P w = .ok v w' := hr
    simp only [resolve, invoke, builtin, Sem.run_bind, Sem.run_pure, Result.andThen_ok, e1, hr2]
  case h_24 xs ts e0 =>
    obtain ⟨vs, h1, h2⟩ := evl_eq hρ _ _ h
    cases h1
    unfold execOp; rw [e0]
    have e1 := hm h2
    have hr2 : (Builtin.delete_ ts o.type vs.toArray).run P w = .ok v w' := hr
    simp only [resolve, invoke, builtin, Sem.run_bind, Sem.run_pure, Result.andThen_ok, e1, hr2]
  case h_25 xs ts e0 =>
    obtain ⟨vs, h1, h2⟩ := evl_eq hρ _ _ h
    cases h1
    unfold execOp; rw [e0]
    have e1 := hm h2
    have hr2 : (Builtin.len_ ts o.type vs.toArray).run P w = .ok v w' := hr
    simp only [resolve, invoke, builtin, Sem.run_bind, Sem.run_pure, Result.andThen_ok, e1, hr2]
  case h_26 xs ts e0 =>
    obtain ⟨vs, h1, h2⟩ := evl_eq hρ _ _ h
    cases h1
    unfold execOp; rw [e0]
    have e1 := hm h2
    have hr2 : (Builtin.min_ ts o.type vs.toArray).run P w = .ok v w' := hr
    simp only [resolve, invoke, builtin, Sem.run_bind, Sem.run_pure, Result.andThen_ok, e1, hr2]
  case h_27 xs ts e0 =>
    obtain ⟨vs, h1, h2⟩ := evl_eq hρ _ _ h
    cases h1
    unfold execOp; rw [e0]
    have e1 := hm h2
    have hr2 : (Builtin.max_ ts o.type vs.toArray).run P w = .ok v w' := hr
    simp only [resolve, invoke, builtin, Sem.run_bind, Sem.run_pure, Result.andThen_ok, e1, hr2]
  case h_28 xs ts e0 =>
    obtain ⟨vs, h1, h2⟩ := evl_eq hρ _ _ h
    cases h1
    unfold execOp; rw [e0]
    have e1 := hm h2
    have hr2 : (Builtin.copy_ ts o.type vs.toArray).run P w = .ok v w' := hr
    simp only [resolve, invoke, builtin, Sem.run_bind, Sem.run_pure, Result.andThen_ok, e1, hr2]
  case h_29 => cases h
  case h_10 t e0 =>
    cases h
    exact R_alloc e0 hr
  case h_18 t e0 =>
    cases h
    unfold execOp; rw [e0]
    exact fr_v hr
  all_goals rename_i e0
  all_goals
    split at h
    · cases h
      unfold execOp
      rw [e0]
      first
        | (rename_i hx hy; simp only [hρ _ _ hx, hρ _ _ hy]; exact fr_v hr)
        | (rename_i hx; simp only [hρ _ _ hx]; exact fr_v hr)
    · cases h
end
/-! Steps: N plain operations, and one that is not. -/
/-- N plain operations; what is asked next. -/
def prunE {α : Type} (T : Tab) (ops : Array Oper) (n : Nat) : Nat → List Oper → List (Nat × Value) → (List Oper → Oper → List (Nat × Value) → Option α) → Option α
  | 0, o :: l, m, k => match wantz ops m o with
    | some true => k l o m
    | _ => none
  | 0, [], _, _ => none
  | N + 1, o :: l, m, k => pstep T ops n m o fun m1 => prunE T ops n N l m1 k
  | _ + 1, [], _, _ => none
def dstz (n : Nat) (o : Oper) : Option Nat :=
  match o.dst with
  | some d => match Nat.blt d n with
    | true => some d
    | false => none
  | none => none
def putO (m : List (Nat × Value)) (d : Nat) (v : Value) : Option (List (Nat × Value)) := putK m d v some
section
variable {P : Program} {T : Tab} {ops : Array Oper} {Q : Exit → Act → World → Prop} {rest l l' : List Oper} {o : Oper} {a : Act} {w w' : World} {n d : Nat} {v : Value} {m m' m1 : List (Nat × Value)}
theorem dstz_eq (h : dstz n o = some d) : o.dst = some d ∧ Nat.blt d n = true := by
  unfold dstz at h
  split at h
  · rename_i d' hd
    split at h
    · rename_i hn
      cases h
      exact ⟨hd, hn⟩
    · cases h
  · cases h
theorem Fr.putO (H : Fr a n m) (hd : Nat.blt d n = true) (h : putO m d v = some m') : Fr (a.put (some d) v) n m' := by
  obtain ⟨m1, h1, h2⟩ := H.putK (v := v) hd some
  unfold Go.Proofs.YtnjfjdfjheiocaaGreat.putO at h
  rw [h1] at h
  cases h
  exact h2
theorem pstep_out {α : Type} (hT : T.ok P = true) (H : Fr a n m) {k : List (Nat × Value) → Option α} {r : α} (h : pstep T ops n m o k = some r) (j : ∀ m' a', Fr a' n m' → k m' = some r → wpList P ops Q l a' w) : wpList P ops Q (o :: l) a w := by
  unfold pstep at h
  split at h
  · rename_i hw
    split at h
    · rename_i d hd
      split at h
      · rename_i hn
        split at h
        · rename_i v hv
          obtain ⟨m1, h1, H1⟩ := H.putK (v := v) hn k
          rw [h1] at h
          refine wpList_step fun K hK => ?_
          rw [if_pos (wantz_t H hw)]
          unfold Oper.wp
          rw [pval_run hT H hv w]
          simp only [Oper.upon, hd]
          exact hK _ _ (j _ _ H1 h)
        · cases h
      · cases h
    · cases h
  · rename_i hw
    split at h
    · rename_i d hd
      split at h
      · rename_i hn
        obtain ⟨m1, h1, H1⟩ := H.putK (v := undef) hn k
        rw [h1] at h
        unfold wpList
        rw [wantz_f H hw, hd]
        exact j _ _ H1 h
      · cases h
    · rename_i hd
      unfold wpList
      rw [wantz_f H hw, hd]
      exact j _ _ H h
  · cases h
theorem prunE_out {α : Type} (hT : T.ok P = true) : ∀ (N : Nat) {l : List Oper} {m : List (Nat × Value)} {a : Act} {k : List Oper → Oper → List (Nat × Value) → Option α} {r : α}, Fr a n m → prunE T ops n N l m k = some r → (∀ l' o m' a', Fr a' n m' → k l' o m' = some r → Region.wanted o (yielded ops a'.tmps) = true → wpList P ops Q (o :: l') a' w) → wpList P ops Q l a w
  | 0, [], m, a, k, r, H, h, j => by cases h
  | 0, o :: l, m, a, k, r, H, h, j => by
    unfold prunE at h
    split at h
    · rename_i hw
      exact j _ _ _ _ H h (wantz_t H hw)
    · cases h
  | N + 1, [], m, a, k, r, H, h, j => by cases h
  | N + 1, o :: l, m, a, k, r, H, h, j => by
    unfold prunE at h
    exact pstep_out hT H h fun m1 a1 H1 h1 => prunE_out hT N H1 h1 j
def kV (n : Nat) (l : List Oper) (o : Oper) (m : List (Nat × Value)) : Option (List Oper × List (Nat × Value) × Nat × EOp) :=
  match dstz n o with
  | some d => match eop m o.type o.op with
    | some e => some (l, m, d, e)
    | none => none
  | none => none
/-- An operation that gives a value. -/
theorem h_uv (hT : T.ok P = true) (N : Nat) {e : EOp} (H : Fr a n m) (h : prunE T ops n N l m (kV n) = some (l', m1, d, e)) (hr : e.run.run P w = .ok v w') (hm : putO m1 d v = some m') (k : ∀ a', Fr a' n m' → wpList P ops Q l' a' w') : wpList P ops Q l a w := by
  refine prunE_out hT N H h fun l2 o m2 a2 H2 h2 hw => ?_
  unfold kV at h2
  split at h2
  · rename_i d' hd
    split at h2
    · rename_i e' he
      cases h2
      obtain ⟨hd1, hd2⟩ := dstz_eq hd
      refine wpList_step fun K hK => ?_
      rw [if_pos hw]
      unfold Oper.wp
      rw [eop_run H2 he hr]
      simp only [Oper.upon, hd1]
      exact hK _ _ (k _ (H2.putO hd2 hm))
    · cases h2
  · cases h2
/-- One that leaves its value nowhere. -/
def kN (l : List Oper) (o : Oper) (m : List (Nat × Value)) : Option (List Oper × List (Nat × Value) × EOp) :=
  match o.dst with
  | some _ => none
  | none => match eop m o.type o.op with
    | some e => some (l, m, e)
    | none => none
theorem h_un (hT : T.ok P = true) (N : Nat) {e : EOp} (H : Fr a n m) (h : prunE T ops n N l m kN = some (l', m1, e)) (hr : e.run.run P w = .ok v w') (k : ∀ a', Fr a' n m1 → wpList P ops Q l' a' w') : wpList P ops Q l a w := by
  refine prunE_out hT N H h fun l2 o m2 a2 H2 h2 hw => ?_
  unfold kN at h2
  split at h2
  · cases h2
  · rename_i hd
    split at h2
    · rename_i e' he
      cases h2
      refine wpList_step fun K hK => ?_
      rw [if_pos hw]
      unfold Oper.wp
      rw [eop_run H2 he hr]
      simp only [Oper.upon, hd]
      exact hK _ _ (k _ H2)
    · cases h2
def kS (l : List Oper) (o : Oper) (m : List (Nat × Value)) : Option (List Oper × List (Nat × Value) × TypeId × Value × Value) :=
  match o.dst, o.op with
  | none, .store t x y => match evv m x, evv m y with
    | some p, some v => some (l, m, t, p, v)
    | _, _ => none
  | _, _ => none
/-- A store. -/
theorem h_ust (hT : T.ok P = true) (N : Nat) {t : TypeId} {p : Value} (H : Fr a n m) (h : prunE T ops n N l m kS = some (l', m1, t, p, v)) (hr : (Instr.storeAt t p v).run P w = .ok () w') (k : ∀ a', Fr a' n m1 → wpList P ops Q l' a' w') : wpList P ops Q l a w := by
  refine prunE_out hT N H h fun l2 o m2 a2 H2 h2 hw => ?_
  unfold kS at h2
  split at h2
  · rename_i t' x y hd ho
    split at h2
    · rename_i p' v' hp hv
      cases h2
      refine wpList_step fun K hK => ?_
      rw [if_pos hw]
      unfold Oper.wp
      rw [R_st H2 ho ((evv_eq _ _).symm.trans hp) ((evv_eq _ _).symm.trans hv) hr]
      simp only [Oper.upon, hd]
      exact hK _ _ (k _ H2)
    · cases h2
  · cases h2
def kM (l : List Oper) (o : Oper) (m : List (Nat × Value)) : Option (List Oper × List (Nat × Value) × TypeId × Value × Value × Value) :=
  match o.dst, o.op with
  | none, .mapUpdate t x y z => match evv m x, evv m y, evv m z with
    | some p, some u, some v => some (l, m, t, p, u, v)
    | _, _, _ => none
  | _, _ => none
/-- A map is written. -/
theorem h_umu (hT : T.ok P = true) (N : Nat) {t : TypeId} {p u : Value} (H : Fr a n m) (h : prunE T ops n N l m kM = some (l', m1, t, p, u, v)) (hr : (Instr.mapUpdate t p u v).run P w = .ok () w') (k : ∀ a', Fr a' n m1 → wpList P ops Q l' a' w') : wpList P ops Q l a w := by
  refine prunE_out hT N H h fun l2 o m2 a2 H2 h2 hw => ?_
  unfold kM at h2
  split at h2
  · rename_i t' x y z hd ho
    split at h2
    · rename_i p' u' v' hp hu hv
      cases h2
      refine wpList_step fun K hK => ?_
      rw [if_pos hw]
      unfold Oper.wp
      have hrun : (execOp a2.eval o).run P w = .ok .skip w' := by
        unfold execOp; rw [ho]; simp only [H2.evz hp, H2.evz hu, H2.evz hv]; exact fr_u hr
      rw [hrun]
      simp only [Oper.upon, hd]
      exact hK _ _ (k _ H2)
    · cases h2
  · cases h2
/-- Functions with a body. -/
def fnOk (P : Program) (f : Nat) : Bool :=
  match P.funcs[f]? with
  | some fn => !(fn.name == "runtime.NumGoroutine") && fn.body.isSome
  | none => false
theorem fnOk_run {f : Nat} (h : fnOk P f = true) (args : Array Value) (w : World) : (callFunc f args).run P w = .ok (.enter f args) w := by
  unfold fnOk at h
  split at h
  · rename_i fn hf
    simp only [Bool.and_eq_true, Bool.not_eq_true'] at h
    have h2 : fn.body.isNone = false := by
      cases hb : fn.body
      · rw [hb] at h; exact absurd h.2 (by decide)
      · rfl
    have h3 : fn.body ≠ none := by intro e; rw [e] at h2; cases h2
    have h4 : fn.name ≠ "runtime.NumGoroutine" := by simpa using h.1
    simp [callFunc, go_sem, hf, h4, h3]
  · cases h
def kC (n : Nat) (l : List Oper) (o : Oper) (m : List (Nat × Value)) : Option (List Oper × List (Nat × Value) × Nat × Nat × List Value) :=
  match dstz n o with
  | some d => match o.op with
    | .call ⟨.value x, ⟨xs⟩, _⟩ => match evv m x with
      | some (.func (.func f) ⟨[]⟩ ⟨cs⟩) => evl m xs fun vs => some (l, m, d, f, vs ++ cs)
      | _ => none
    | _ => none
  | none => none
/-- A call. -/
theorem h_uc (hT : T.ok P = true) (N : Nat) {f : Nat} {vs : List Value} {R : Ending → World → Prop} (H : Fr a n m) (h : prunE T ops n N l m (kC n) = some (l', m1, d, f, vs)) (hf : fnOk P f = true) (c : Calls P f vs.toArray w R)
    (k : ∀ e w', R e w' → ∃ v, e = .returned v ∧ ∃ m', putO m1 d v = some m' ∧ ∀ a', Fr a' n m' → wpList P ops Q l' a' w') : wpList P ops Q l a w := by
  refine prunE_out hT N H h fun l2 o m2 a2 H2 h2 hw => ?_
  unfold kC at h2
  split at h2
  · rename_i d' hd
    obtain ⟨hd1, hd2⟩ := dstz_eq hd
    split at h2
    · rename_i x xs ts ho
      split at h2
      · rename_i f' cs hx
        obtain ⟨vs', h3, h4⟩ := evl_eq (ρ := a2.eval) (fun x v h => H2.evz h) _ _ h2
        cases h3
        have hrun : (execOp a2.eval o).run P w = .ok (.enter f (vs' ++ cs).toArray) w := by
          have e0 := H2.evz hx
          have e1 : Array.map a2.eval xs.toArray = vs'.toArray := by rw [← h4]; simp
          unfold execOp
          rw [ho]
          simp only [resolve, e0, show (Array.map a2.eval _) = _ from e1]
          simp only [Deferred.ofValue]
          simp [go_sem, invoke, fnOk_run hf]
        refine wpList_step fun K hK => ?_
        rw [if_pos hw]
        unfold Oper.wp
        rw [hrun]
        simp only [Oper.upon_enter]
        refine Calls.mono c ?_
        intro e w2 he
        obtain ⟨v, rfl, m', hm, hk⟩ := k e w2 he
        simp only [hd1]
        exact hK _ _ (hk _ (H2.putO hd2 hm))
      · cases h2
    · cases h2
  · cases h2
end
/-! Regions that draw their order. -/
def prunA {α : Type} (T : Tab) (ops : Array Oper) (n : Nat) : List Nat → List (Nat × Value) → (List (Nat × Value) → Option α) → Option α
  | [], m, k => k m
  | i :: l, m, k => match ops[i]? with
    | some o => match o.dst with
      | some _ => pstep T ops n m o fun m1 => prunA T ops n l m1 k
      | none => none
    | none => none
def ordOk (md : Region.Mode) (ops : Array Oper) : List Nat → Array Bool → Bool
  | [], _ => true
  | i :: l, L => Region.free md ops L i && ((Region.ready md ops L).contains i && ordOk md ops l (L.setIfInBounds i true))
def setz : List Nat → Array Bool → Array Bool
  | [], L => L
  | i :: l, L => setz l (L.setIfInBounds i true)
def NoPan (Q : Exit → Act → World → Prop) : Prop := ∀ c (a : Act) d v w, Q (.panic c) (a.put (some d) v) w → Q (.panic c) a w
section
variable {P : Program} {T : Tab} {ops : Array Oper} {Q : Exit → Act → World → Prop} {md : Region.Mode} {S : World → Prop} {o : Oper} {a : Act} {w w' : World} {n d fuel : Nat} {v : Value} {m m' m1 : List (Nat × Value)} {listed : Array Bool}
theorem prunA_out {α : Type} (hT : T.ok P = true) (hs : Region.noSelect ops = true) (hQ : NoPan Q) (hS : S w) : ∀ (l : List Nat) {fuel : Nat} {listed : Array Bool} {m : List (Nat × Value)} {a : Act} {k : List (Nat × Value) → Option α} {r : α}, Fr a n m → prunA T ops n l m k = some r → ordOk md ops l listed = true →
    (∀ m' a', Fr a' n m' → k m' = some r → wpAnyH P md ops Q S fuel (setz l listed) a' w) → wpAnyH P md ops Q S (fuel + l.length) listed a w
  | [], fuel, listed, m, a, k, r, H, h, ho, j => j _ _ H h
  | i :: l, fuel, listed, m, a, k, r, H, h, ho, j => by
    unfold prunA at h
    unfold ordOk at ho
    simp only [Bool.and_eq_true] at ho
    obtain ⟨ho1, ho2, ho3⟩ := ho
    split at h
    · rename_i o hi
      split at h
      · rename_i d0 hd0
        unfold pstep at h
        split at h
        · rename_i hw
          split at h
          · rename_i d hd
            split at h
            · rename_i hn
              split at h
              · rename_i v hv
                obtain ⟨m1, h1, H1⟩ := H.putK (v := v) hn fun m1 => prunA T ops n l m1 k
                rw [h1] at h
                have h9 := prunA_out hT hs hQ hS l (fuel := fuel) H1 h ho3 j
                exact take_at hi hd hs ho1 ho2 (fun c a w h => hQ c a _ _ w h) (.inl ⟨wantz_t H hw, fun w _ => pval_run hT H hv w⟩) hS h9
              · cases h
            · cases h
          · cases h
        · rename_i hw
          split at h
          · rename_i d hd
            split at h
            · rename_i hn
              obtain ⟨m1, h1, H1⟩ := H.putK (v := undef) hn fun m1 => prunA T ops n l m1 k
              rw [h1] at h
              have h9 := prunA_out hT hs hQ hS l (fuel := fuel) H1 h ho3 j
              exact take_at hi hd hs ho1 ho2 (fun c a w h => hQ c a _ _ w h) (.inr ⟨wantz_f H hw, rfl⟩) hS h9
            · cases h
          · rename_i hd
            rw [hd0] at hd
            cases hd
        · cases h
      · cases h
    · cases h
theorem a_us (hT : T.ok P = true) (hQ : NoPan Q) (l : List Nat) {N : Nat} (hN : l.length = N) (H : Fr a n m) (h : prunA T ops n l m some = some m') (ho : (Region.noSelect ops && ordOk md ops l listed) = true) (hS : S w)
    (k : ∀ a', Fr a' n m' → wpAnyH P md ops Q S fuel (setz l listed) a' w) : wpAnyH P md ops Q S (fuel + N) listed a w := by
  subst hN
  simp only [Bool.and_eq_true] at ho
  exact prunA_out hT ho.1 hQ hS l H h ho.2 fun m1 a1 H1 e => by cases e; exact k _ H1
def kVA (ops : Array Oper) (n i : Nat) (m : List (Nat × Value)) : Option (List (Nat × Value) × Nat × EOp) :=
  match ops[i]? with
  | some o => match wantz ops m o with
    | some true => match dstz n o with
      | some d => match eop m o.type o.op with
        | some e => some (m, d, e)
        | none => none
      | none => none
    | _ => none
  | none => none
theorem kVA_out {i : Nat} {e : EOp} (H : Fr a n m) (h : kVA ops n i m = some (m1, d, e)) : m1 = m ∧ ∃ o, ops[i]? = some o ∧ o.dst = some d ∧ Nat.blt d n = true ∧ Region.wanted o (yielded ops a.tmps) = true ∧ eop m o.type o.op = some e := by
  unfold kVA at h
  split at h
  · rename_i o hi
    split at h
    · rename_i hw
      split at h
      · rename_i d' hd
        split at h
        · rename_i e' he
          cases h
          obtain ⟨hd1, hd2⟩ := dstz_eq hd
          exact ⟨rfl, o, hi, hd1, hd2, wantz_t H hw, he⟩
        · cases h
      · cases h
    · cases h
  · cases h
theorem ordOk_app : ∀ (l : List Nat) {i : Nat} {listed : Array Bool}, ordOk md ops (l ++ [i]) listed = true → ordOk md ops l listed = true ∧ Region.free md ops (setz l listed) i = true ∧ (Region.ready md ops (setz l listed)).contains i = true
  | [], i, listed, h => by
    simp only [List.nil_append, ordOk, Bool.and_eq_true] at h
    exact ⟨rfl, h.1, h.2.1⟩
  | j :: l, i, listed, h => by
    simp only [List.cons_append, ordOk, Bool.and_eq_true] at h
    obtain ⟨h1, h2, h3⟩ := ordOk_app l h.2.2
    exact ⟨by simp only [ordOk, Bool.and_eq_true]; exact ⟨h.1, h.2.1, h1⟩, h2, h3⟩
/-- Plain operations, then one that looks at the world and leaves it alone. -/
theorem a_uv (hT : T.ok P = true) (hQ : NoPan Q) (l : List Nat) (i : Nat) {N : Nat} (hN : l.length + 1 = N) {e : EOp} (H : Fr a n m) (h : prunA T ops n l m (kVA ops n i) = some (m1, d, e)) (ho : (Region.noSelect ops && ordOk md ops (l ++ [i]) listed) = true) (hS : S w)
    (hr : ∀ w, S w → e.run.run P w = .ok v w) (hm : putO m1 d v = some m') (k : ∀ a', Fr a' n m' → wpAnyH P md ops Q S fuel (setz (l ++ [i]) listed) a' w) : wpAnyH P md ops Q S (fuel + N) listed a w := by
  subst hN
  simp only [Bool.and_eq_true] at ho
  obtain ⟨h1, h2, h3⟩ := ordOk_app l ho.2
  rw [show fuel + (l.length + 1) = (fuel + 1) + l.length by omega]
  refine prunA_out hT ho.1 hQ hS l H h h1 fun m2 a2 H2 e2 => ?_
  obtain ⟨rfl, o, hi, hd, hn, hw, he⟩ := kVA_out H2 e2
  have e9 : setz (l ++ [i]) listed = (setz l listed).setIfInBounds i true := by
    clear h h1 h2 h3 ho k
    induction l generalizing listed with
    | nil => rfl
    | cons j l ih => exact ih
  rw [e9] at k
  exact take_at hi hd ho.1 h2 h3 (fun c a w h => hQ c a _ _ w h) (.inl ⟨hw, fun w hw2 => eop_run H2 he (hr w hw2)⟩) hS (k _ (H2.putO hn hm))
/-- An operation whose turn it is. -/
theorem o_uv {K : Act → World → Prop} (i : Nat) {e : EOp} (H : Fr a n m) (h : kVA ops n i m = some (m1, d, e)) (hr : e.run.run P w = .ok v w') (hm : putO m1 d v = some m') (k : ∀ a', Fr a' n m' → K a' w') : wpOp P ops Q i K a w := by
  obtain ⟨rfl, o, hi, hd, hn, hw, he⟩ := kVA_out H h
  unfold wpOp
  simp only [hi, hw, if_true]
  refine .inl ?_
  unfold Oper.wp
  rw [eop_run H he hr]
  simp only [Oper.upon, hd]
  exact k _ (H.putO hn hm)
def kSA (ops : Array Oper) (i : Nat) (m : List (Nat × Value)) : Option (TypeId × Value × Value) :=
  match ops[i]? with
  | some o => match wantz ops m o with
    | some true => match kS [] o m with
      | some (_, _, r) => some r
      | none => none
    | _ => none
  | none => none
theorem o_ust {K : Act → World → Prop} (i : Nat) {t : TypeId} {p : Value} (H : Fr a n m) (h : kSA ops i m = some (t, p, v)) (hr : (Instr.storeAt t p v).run P w = .ok () w') (k : ∀ a', Fr a' n m → K a' w') : wpOp P ops Q i K a w := by
  unfold kSA at h
  split at h
  · rename_i o hi
    split at h
    · rename_i hw
      split at h
      · rename_i l1 m1 r h2
        cases h
        unfold kS at h2
        split at h2
        · rename_i t' x y hd ho
          split at h2
          · rename_i p' v' hp hv
            cases h2
            unfold wpOp
            simp only [hi, wantz_t H hw, if_true]
            refine .inl ?_
            unfold Oper.wp
            rw [R_st H ho ((evv_eq _ _).symm.trans hp) ((evv_eq _ _).symm.trans hv) hr]
            simp only [Oper.upon, hd]
            exact k _ H
          · cases h2
        · cases h2
      · cases h
    · cases h
  · cases h
def kMA (ops : Array Oper) (i : Nat) (m : List (Nat × Value)) : Option (TypeId × Value × Value × Value) :=
  match ops[i]? with
  | some o => match wantz ops m o with
    | some true => match kM [] o m with
      | some (_, _, r) => some r
      | none => none
    | _ => none
  | none => none
theorem o_umu {K : Act → World → Prop} (i : Nat) {t : TypeId} {p u : Value} (H : Fr a n m) (h : kMA ops i m = some (t, p, u, v)) (hr : (Instr.mapUpdate t p u v).run P w = .ok () w') (k : ∀ a', Fr a' n m → K a' w') : wpOp P ops Q i K a w := by
  unfold kMA at h
  split at h
  · rename_i o hi
    split at h
    · rename_i hw
      split at h
      · rename_i l1 m1 r h2
        cases h
        unfold kM at h2
        split at h2
        · rename_i t' x y z hd ho
          split at h2
          · rename_i p' u' v' hp hu hv
            cases h2
            unfold wpOp
            simp only [hi, wantz_t H hw, if_true]
            refine .inl ?_
            unfold Oper.wp
            have hrun : (execOp a.eval o).run P w = .ok .skip w' := by
              unfold execOp; rw [ho]; simp only [H.evz hp, H.evz hu, H.evz hv]; exact fr_u hr
            rw [hrun]
            simp only [Oper.upon, hd]
            exact k _ H
          · cases h2
        · cases h2
      · cases h
    · cases h
  · cases h
def kCA (ops : Array Oper) (n i : Nat) (m : List (Nat × Value)) : Option (List (Nat × Value) × Nat × Nat × List Value) :=
  match ops[i]? with
  | some o => match wantz ops m o with
    | some true => match kC n [] o m with
      | some (_, r) => some r
      | none => none
    | _ => none
  | none => none
theorem kC_run {l l' : List Oper} {f : Nat} {vs : List Value} (H : Fr a n m) (h : kC n l o m = some (l', m1, d, f, vs)) (hf : fnOk P f = true) (w : World) : l' = l ∧ m1 = m ∧ o.dst = some d ∧ Nat.blt d n = true ∧ (execOp a.eval o).run P w = .ok (.enter f vs.toArray) w := by
  unfold kC at h
  split at h
  · rename_i d' hd
    obtain ⟨hd1, hd2⟩ := dstz_eq hd
    split at h
    · rename_i x xs ts ho
      split at h
      · rename_i f' cs hx
        obtain ⟨vs', h3, h4⟩ := evl_eq (ρ := a.eval) (fun x v h => H.evz h) _ _ h
        cases h3
        refine ⟨rfl, rfl, hd1, hd2, ?_⟩
        have e0 := H.evz hx
        have e1 : Array.map a.eval xs.toArray = vs'.toArray := by rw [← h4]; simp
        unfold execOp
        rw [ho]
        simp only [resolve, e0, show (Array.map a.eval _) = _ from e1]
        simp only [Deferred.ofValue]
        simp [go_sem, invoke, fnOk_run hf]
      · cases h
    · cases h
  · cases h
theorem o_uc {K : Act → World → Prop} (i : Nat) {f : Nat} {vs : List Value} {R : Ending → World → Prop} (H : Fr a n m) (h : kCA ops n i m = some (m1, d, f, vs)) (hf : fnOk P f = true) (c : Calls P f vs.toArray w R)
    (k : ∀ e w', R e w' → ∃ v, e = .returned v ∧ ∃ m', putO m1 d v = some m' ∧ ∀ a', Fr a' n m' → K a' w') : wpOp P ops Q i K a w := by
  unfold kCA at h
  split at h
  · rename_i o hi
    split at h
    · rename_i hw
      split at h
      · rename_i l1 r h2
        cases h
        obtain ⟨rfl, rfl, hd1, hd2, hrun⟩ := kC_run H h2 hf w
        unfold wpOp
        simp only [hi, wantz_t H hw, if_true]
        refine .inl ?_
        unfold Oper.wp
        rw [hrun]
        simp only [Oper.upon_enter]
        refine Calls.mono c ?_
        intro e w2 he
        obtain ⟨v, rfl, m', hm, hk⟩ := k e w2 he
        simp only [hd1]
        exact hk _ (H.putO hd2 hm)
      · cases h
    · cases h
  · cases h
/-- Plain operations, then a call that leaves the world alone, taken first. -/
theorem a_uq (hT : T.ok P = true) (hQ : NoPan Q) (l : List Nat) (i : Nat) {N : Nat} (hN : l.length + 1 = N) {f : Nat} {vs : List Value} (H : Fr a n m) (h : prunA T ops n l m (kCA ops n i) = some (m1, d, f, vs)) (ho : (Region.noSelect ops && ordOk md ops (l ++ [i]) listed) = true) (hS : S w) (hf : fnOk P f = true)
    (hc : ∀ w, S w → Calls P f vs.toArray w fun e w2 => e = .returned v ∧ w2 = w) (hm : putO m1 d v = some m') (k : ∀ a', Fr a' n m' → wpAnyH P md ops Q S fuel (setz (l ++ [i]) listed) a' w) : wpAnyH P md ops Q S (fuel + N) listed a w := by
  subst hN
  simp only [Bool.and_eq_true] at ho
  obtain ⟨h1, h2, h3⟩ := ordOk_app l ho.2
  rw [show fuel + (l.length + 1) = (fuel + 1) + l.length by omega]
  refine prunA_out hT ho.1 hQ hS l H h h1 fun m2 a2 H2 e2 => ?_
  have e9 : setz (l ++ [i]) listed = (setz l listed).setIfInBounds i true := by
    clear h h1 h2 h3 ho k
    induction l generalizing listed with
    | nil => rfl
    | cons j l ih => exact ih
  rw [e9] at k
  unfold kCA at e2
  split at e2
  · rename_i o hi
    split at e2
    · rename_i hw
      split at e2
      · rename_i l1 r h2'
        cases e2
        obtain ⟨_, rfl, hd1, hd2, _⟩ := kC_run H2 h2' hf w
        refine gives_at hi hd1 ho.1 h2 h3 (fun c a w h => hQ c a _ _ w h) (.inl ⟨wantz_t H2 hw, fun w hw2 => ?_⟩) hS (k _ (H2.putO hd2 hm))
        unfold Oper.quietAt
        obtain ⟨_, _, _, _, hrun⟩ := kC_run H2 h2' hf w
        rw [hrun]
        refine ⟨rfl, (hc w hw2).mono ?_⟩
        rintro e w2 ⟨rfl, rfl⟩
        exact ⟨rfl, rfl⟩
      · cases e2
    · cases e2
  · cases e2
end
/-- Ways meet at the end of a statement that stands last in a block. -/
theorem wp_cutB {P : Program} {s : Code} {i : Nat} {K : Act → World → Prop} {Q' : Exit → Act → World → Prop} {a : Act} {w : World} (R : Act → World → Prop)
    (rest : ∀ a' w', R a' w' → K a' w')
    (first : ∀ (J K' : Act → World → Prop), (∀ a' w', R a' w' → J a' w') → (∀ a' w', Met J a' w' → K' a' w') → s.wp P (Exit.inBlock i (Exit.then K' Q')) a w) : s.wp P (Exit.inBlock i (Exit.then K Q')) a w := by
  refine wp_mono (first R R (fun _ _ q => q) (fun _ _ q => q)) ?_
  intro e a' w' hq
  cases e with
  | normal => exact rest _ _ hq
  | exit id =>
    simp only [Exit.inBlock] at hq ⊢
    by_cases h : id = i
    · rw [if_pos h] at hq ⊢
      exact rest _ _ hq
    · rw [if_neg h] at hq ⊢
      exact hq
  | goto l => exact hq
  | ret => exact hq
  | panic ch => exact hq
  | outgrown => exact hq
end Go.Proofs.YtnjfjdfjheiocaaGreat
