/-
  Items that come again: the plain law.
-/
import Derived.Test.YtnjfjdfjheiocaaGreatShX
set_option linter.unusedSimpArgs false
set_option linter.unusedVariables false
namespace Go.Proofs.YtnjfjdfjheiocaaGreat
open Go.RowKit
theorem codeB_put (M : Wins) (mark : Int) (key : ByteArray) (t v : Int) : codeB (lputM M mark key t v).2 = true := by
  unfold lputM
  split
  · rfl
  · split
    · rfl
    · split <;> rfl
theorem codeB_mark (M : Wins) (mark t : Int) : codeB (lmarkM M mark t).1 = true := by
  unfold lmarkM
  split
  · rfl
  · split <;> rfl
theorem codeB_do (S : PSt) (x : PItem) : codeB (doM S x).1 = true := by
  unfold doM
  split
  · exact codeB_put _ _ _ _ _
  · split
    · exact codeB_mark _ _ _
    · rfl
/-- An item that would do nothing. -/
def Sn (S : PSt) (x : PItem) : Prop := (askM S.lo S.cd x.src x.seq x.low).1 ≠ 3
theorem sn_iff {S : PSt} {x : PItem} : Sn S x ↔ badB x.src x.seq x.low = true ∨ x.seq < S.lo x.src.toNat ∨ ∃ p ∈ S.cd x.src.toNat, p.1 = x.seq := by
  unfold Sn askM
  cases hb : badB x.src x.seq x.low
  · rw [if_neg (by decide)]
    by_cases h1 : x.seq < S.lo x.src.toNat
    · simp [h1]
    · rw [if_neg h1]
      cases hl : lookC (S.cd x.src.toNat) x.seq with
      | none =>
        simp only [ne_eq, not_true_eq_false, Bool.false_eq_true, false_or, false_iff]
        rintro (h2 | ⟨p, hp, he⟩)
        · exact h1 h2
        · unfold lookC at hl
          have h3 : (S.cd x.src.toNat).find? (fun p => p.1 == x.seq) = none := by simpa using hl
          have := List.find?_eq_none.1 h3 p hp
          simp [he] at this
      | some n =>
        simp only [ne_eq, Bool.false_eq_true, false_or]
        refine ⟨fun _ => .inr ?_, fun _ => by decide⟩
        unfold lookC at hl
        cases hf : (S.cd x.src.toNat).find? (fun p => p.1 == x.seq) with
        | none => rw [hf] at hl; cases hl
        | some p => exact ⟨p, List.mem_of_find?_eq_some hf, by simpa using List.find?_some hf⟩
  · simp
theorem apply_sn {S : PSt} {x : PItem} (h : Sn S x) : (applyM S x).1.2.1 = [] ∧ (applyM S x).1.2.2 = false ∧ (applyM S x).2 = S := by
  unfold applyM
  split
  · exact ⟨rfl, rfl, rfl⟩
  · rw [if_neg h]
    exact ⟨rfl, rfl, rfl⟩
theorem apply_do {S : PSt} {x : PItem} (h : ¬ Sn S x) : applyM S x = (((doM S x).1, (doM S x).2.1, true), { (doM S x).2.2 with lo := (noteS S.lo S.cd x.src.toNat x.seq x.low (doM S x).1).1, cd := (noteS S.lo S.cd x.src.toNat x.seq x.low (doM S x).1).2 }) := by
  have h3 : (askM S.lo S.cd x.src x.seq x.low).1 = 3 := by
    by_cases e : (askM S.lo S.cd x.src x.seq x.low).1 = 3
    · exact e
    · exact absurd e h
  unfold applyM
  rw [if_neg (by rw [h3]; decide), if_pos h3]
  unfold noteSt noteM
  rw [doM_cd, doM_lo, h3, codeB_do]
  rfl
theorem fresh_iff {S : PSt} {x : PItem} : (applyM S x).1.2.2 = true ↔ ¬ Sn S x := by
  by_cases h : Sn S x
  · rw [(apply_sn h).2.1]
    simp [h]
  · rw [apply_do h]
    simp [h]
theorem noteS_cd (S : PSt) (i : Nat) (seq low c : Int) (j : Nat) : (noteS S.lo S.cd i seq low c).2 j = if j = i then (putC (S.cd i) seq c).filter fun p => !decide (p.1 < max (S.lo i) low) else S.cd j := by
  show (if j = i then _ else (if j = i then _ else S.cd j)) = _
  by_cases h : j = i
  · rw [if_pos h, if_pos h]
  · rw [if_neg h, if_neg h, if_neg h]
theorem noteS_lo (S : PSt) (i : Nat) (seq low c : Int) (j : Nat) : (noteS S.lo S.cd i seq low c).1 j = if j = i then max (S.lo i) low else S.lo j := rfl
theorem putC_mem {l : Cods} {k v : Int} {p : Int × Int} : p ∈ putC l k v ↔ p = (k, v) ∨ (p ∈ l ∧ p.1 ≠ k) := by
  unfold putC delC
  rw [insC_mem, List.mem_filter]
  simp
/-- What would do nothing does nothing later on. -/
theorem sn_keep {S : PSt} {x : PItem} (h : Sn S x) (y : PItem) : Sn (applyM S y).2 x := by
  by_cases hy : Sn S y
  · rw [(apply_sn hy).2.2]
    exact h
  · rw [apply_do hy]
    rw [sn_iff] at h ⊢
    show _ ∨ x.seq < (noteS S.lo S.cd y.src.toNat y.seq y.low (doM S y).1).1 x.src.toNat ∨ ∃ p ∈ (noteS S.lo S.cd y.src.toNat y.seq y.low (doM S y).1).2 x.src.toNat, _
    rw [noteS_lo, noteS_cd]
    rcases h with h | h | ⟨p, hp, he⟩
    · exact .inl h
    · right
      left
      split
      · rename_i e
        rw [← e]
        omega
      · exact h
    · right
      split
      · rename_i e
        by_cases hk : x.seq < max (S.lo y.src.toNat) y.low
        · exact .inl hk
        · right
          by_cases hs : x.seq = y.seq
          · exact ⟨(y.seq, _), List.mem_filter.2 ⟨putC_mem.2 (.inl rfl), by simp only [Bool.not_eq_true', decide_eq_false_iff_not]; omega⟩, hs.symm⟩
          · exact ⟨p, List.mem_filter.2 ⟨putC_mem.2 (.inr ⟨e ▸ hp, by omega⟩), by simp only [Bool.not_eq_true', decide_eq_false_iff_not]; omega⟩, he⟩
      · exact .inr ⟨p, hp, he⟩
/-- What was done would do nothing more. -/
theorem sn_self (S : PSt) (x : PItem) : Sn (applyM S x).2 x := by
  by_cases hx : Sn S x
  · exact sn_keep hx x
  · have h0 := hx
    rw [apply_do hx]
    rw [sn_iff] at h0 ⊢
    show _ ∨ x.seq < (noteS S.lo S.cd x.src.toNat x.seq x.low (doM S x).1).1 x.src.toNat ∨ ∃ p ∈ (noteS S.lo S.cd x.src.toNat x.seq x.low (doM S x).1).2 x.src.toNat, _
    rw [noteS_lo, noteS_cd, if_pos rfl, if_pos rfl]
    have hb : badB x.src x.seq x.low = false := by
      cases hb : badB x.src x.seq x.low
      · rfl
      · exact absurd (.inl hb) h0
    obtain ⟨_, _, b2, b3, _, _⟩ := badB_no hb
    have h1 : ¬ x.seq < S.lo x.src.toNat := fun h => h0 (.inr (.inl h))
    exact .inr (.inr ⟨(x.seq, _), List.mem_filter.2 ⟨putC_mem.2 (.inl rfl), by simp only [Bool.not_eq_true', decide_eq_false_iff_not]; omega⟩, rfl⟩)
end Go.Proofs.YtnjfjdfjheiocaaGreat
