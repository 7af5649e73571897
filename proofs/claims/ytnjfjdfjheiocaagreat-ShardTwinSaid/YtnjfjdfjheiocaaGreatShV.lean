/-
  What items leave of a state's bounds.
-/
import Derived.Test.YtnjfjdfjheiocaaGreatShU
set_option linter.unusedSimpArgs false
set_option linter.unusedVariables false
namespace Go.Proofs.YtnjfjdfjheiocaaGreat
open Go.RowKit
theorem putW_len (M : Wins) (k : Win) (a : A8) : (putW M k a).length ≤ M.length + 1 := by
  unfold putW delW
  rw [(insW_perm _ _).length_eq, List.length_cons]
  have := List.length_filter_le (fun p : Win × A8 => decide (p.1 ≠ k)) M
  omega
theorem putS_len (M : Wins) (key : ByteArray) (t v : Int) : (putS M key t v).1.length ≤ M.length + 1 := by
  unfold putS
  split
  · exact Nat.le_succ _
  · split
    · exact Nat.le_succ _
    · exact putW_len _ _ _
theorem lputM_len (M : Wins) (mark : Int) (key : ByteArray) (t v : Int) : (lputM M mark key t v).1.length ≤ M.length + 1 := by
  unfold lputM
  split
  · exact Nat.le_succ _
  · split
    · exact Nat.le_succ _
    · split <;> exact putS_len _ _ _ _
theorem lmarkM_len (M : Wins) (mark t : Int) : (lmarkM M mark t).2.2.1.length ≤ M.length := by
  unfold lmarkM
  split
  · exact Nat.le_refl _
  · split
    · exact Nat.le_refl _
    · exact List.length_filter_le _ _
theorem doM_len (S : PSt) (x : PItem) : (doM S x).2.2.M.length ≤ S.M.length + 1 := by
  unfold doM
  split
  · exact lputM_len _ _ _ _ _
  · split
    · exact Nat.le_succ_of_le (lmarkM_len _ _ _)
    · exact Nat.le_succ _
theorem insC_mem {x y : Int × Int} : ∀ {l : Cods}, y ∈ insC x l ↔ y = x ∨ y ∈ l
  | [] => by simp [insC]
  | z :: r => by
    unfold insC
    split
    · simp
    · rw [List.mem_cons, insC_mem, List.mem_cons]
      constructor
      · rintro (h | h | h)
        · exact .inr (.inl h)
        · exact .inl h
        · exact .inr (.inr h)
      · rintro (h | h | h)
        · exact .inr (.inl h)
        · exact .inl h
        · exact .inr (.inr h)
theorem insC_rise {x : Int × Int} : ∀ {l : Cods}, l.Pairwise (fun p q => p.1 < q.1) → (∀ p ∈ l, p.1 ≠ x.1) → (insC x l).Pairwise fun p q => p.1 < q.1
  | [], _, _ => List.pairwise_singleton _ _
  | y :: r, h, hn => by
    obtain ⟨h1, h2⟩ := List.pairwise_cons.1 h
    have h3 := hn y List.mem_cons_self
    unfold insC
    split
    · rename_i hb
      refine List.pairwise_cons.2 ⟨fun q hq => ?_, h⟩
      rcases List.mem_cons.1 hq with rfl | hq
      · exact hb
      · have := h1 q hq
        omega
    · rename_i hb
      refine List.pairwise_cons.2 ⟨fun q hq => ?_, insC_rise h2 fun p hp => hn p (List.mem_cons_of_mem _ hp)⟩
      rcases insC_mem.1 hq with rfl | hq
      · omega
      · exact h1 q hq
/-- A state within bounds. -/
structure SOk (n : Nat) (S : PSt) : Prop where
  ml : S.M.length ≤ n
  cl : ∀ i, (S.cd i).length ≤ n
  rise : ∀ i, (S.cd i).Pairwise fun p q => p.1 < q.1
  lo : ∀ i, ∀ p ∈ S.cd i, 0 ≤ p.1 ∧ p.1 ≤ 1099511627776
theorem SOk.cd {n : Nat} {S : PSt} (h : SOk n S) (hn : n < 100000) (i : Nat) : CdOk (S.cd i) := ⟨h.rise i, Nat.lt_of_le_of_lt (h.cl i) hn, h.lo i⟩
theorem SOk.mono {n m : Nat} {S : PSt} (h : SOk n S) (hm : n ≤ m) : SOk m S := ⟨Nat.le_trans h.ml hm, fun i => Nat.le_trans (h.cl i) hm, h.rise, h.lo⟩
theorem sok_new : SOk 0 newM := ⟨Nat.le_refl _, fun _ => Nat.le_refl _, fun _ => List.Pairwise.nil, fun _ p hp => by cases hp⟩
theorem noteC_ok {l : Cods} {n : Nat} {seq c z : Int} (h1 : l.length ≤ n) (h2 : l.Pairwise fun p q => p.1 < q.1) (h3 : ∀ p ∈ l, 0 ≤ p.1 ∧ p.1 ≤ 1099511627776) (h4 : 0 ≤ seq) (h5 : seq ≤ 1099511627776) :
    ((putC l seq c).filter fun p => !decide (p.1 < z)).length ≤ n + 1 ∧ ((putC l seq c).filter fun p => !decide (p.1 < z)).Pairwise (fun p q => p.1 < q.1) ∧ ∀ p ∈ (putC l seq c).filter fun p => !decide (p.1 < z), 0 ≤ p.1 ∧ p.1 ≤ 1099511627776 := by
  refine ⟨?_, ?_, fun p hp => ?_⟩
  · have := List.length_filter_le (fun p : Int × Int => !decide (p.1 < z)) (putC l seq c)
    have := putC_len l seq c
    omega
  · refine List.Pairwise.filter _ (insC_rise (h2.filter _) fun p hp => ?_)
    have := (List.mem_filter.1 hp).2
    simpa using this
  · rcases insC_mem.1 (List.mem_filter.1 hp).1 with rfl | hp2
    · exact ⟨h4, h5⟩
    · exact h3 p (List.mem_filter.1 hp2).1
theorem apply_ok {n : Nat} {S : PSt} (x : PItem) (h : SOk n S) : SOk (n + 1) (applyM S x).2 := by
  unfold applyM
  split
  · exact h.mono (Nat.le_succ _)
  · rename_i h0
    split
    · have hb := badB_no (askM_no (fun e => h0 (by simpa using e)))
      have hd := doM_len S x
      have hm := h.ml
      unfold noteSt noteM
      rw [doM_cd, doM_lo]
      have hsame : SOk (n + 1) { (doM S x).2.2 with lo := S.lo, cd := S.cd } := ⟨by show (doM S x).2.2.M.length ≤ _; omega, (h.mono (Nat.le_succ _)).cl, h.rise, h.lo⟩
      split
      · exact hsame
      · split
        · exact hsame
        · split
          · exact hsame
          · have hc : ∀ i, ((upd (upd S.cd x.src.toNat (putC (S.cd x.src.toNat) x.seq (doM S x).1)) x.src.toNat ((putC (S.cd x.src.toNat) x.seq (doM S x).1).filter fun p => !decide (p.1 < max (S.lo x.src.toNat) x.low))) i).length ≤ n + 1 ∧ ((upd (upd S.cd x.src.toNat (putC (S.cd x.src.toNat) x.seq (doM S x).1)) x.src.toNat ((putC (S.cd x.src.toNat) x.seq (doM S x).1).filter fun p => !decide (p.1 < max (S.lo x.src.toNat) x.low))) i).Pairwise (fun p q => p.1 < q.1) ∧ ∀ p ∈ (upd (upd S.cd x.src.toNat (putC (S.cd x.src.toNat) x.seq (doM S x).1)) x.src.toNat ((putC (S.cd x.src.toNat) x.seq (doM S x).1).filter fun p => !decide (p.1 < max (S.lo x.src.toNat) x.low))) i, 0 ≤ p.1 ∧ p.1 ≤ 1099511627776 := by
              intro i
              by_cases hi : i = x.src.toNat
              · subst hi
                rw [upd_at]
                exact noteC_ok (h.cl _) (h.rise _) (h.lo _) (by omega) (by omega)
              · have e : (upd (upd S.cd x.src.toNat (putC (S.cd x.src.toNat) x.seq (doM S x).1)) x.src.toNat ((putC (S.cd x.src.toNat) x.seq (doM S x).1).filter fun p => !decide (p.1 < max (S.lo x.src.toNat) x.low))) i = S.cd i := by
                  unfold upd
                  rw [if_neg hi, if_neg hi]
                rw [e]
                exact ⟨Nat.le_succ_of_le (h.cl i), h.rise i, h.lo i⟩
            exact ⟨by show (doM S x).2.2.M.length ≤ _; omega, fun i => (hc i).1, fun i => (hc i).2.1, fun i => (hc i).2.2⟩
    · exact h.mono (Nat.le_succ _)
/-! The chapter's first examples. -/
def keyA : ByteArray := { data := #[97] }
def wkX : PItem := ⟨0, 1, 1, 1, keyA, 0, 3, 5⟩
def wkY : PItem := ⟨0, 2, 1, 2, .empty, 0, 15, 0⟩
def wk1 : (Int × Wins × Bool) × PSt := applyM newM wkX
def wk2 : (Int × Wins × Bool) × PSt := applyM wk1.2 wkX
def wk3 : (Int × Wins × Bool) × PSt := applyM wk2.2 wkY
theorem wk1_is : wk1.1 = (1, [], true) := by kernel_rfl
theorem wk2_is : wk2.1 = (1, [], false) := by kernel_rfl
theorem wk3_is : wk3.1.1 = 1 ∧ wk3.1.2.2 = true ∧ wk3.1.2.1 = [((0, keyA), ⟨1, 5, 5, 5, wk3.1.2.1.head!.2.h0, wk3.1.2.1.head!.2.h1, wk3.1.2.1.head!.2.h2, wk3.1.2.1.head!.2.h3⟩)] ∧ wk3.2.mark = 15 := ⟨by kernel_rfl, by kernel_rfl, by kernel_rfl, by kernel_rfl⟩
end Go.Proofs.YtnjfjdfjheiocaaGreat
