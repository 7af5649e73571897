/-
  Plain laws: the sum of small values is the true one; what the law AggRight needs.
-/
import Derived.Test.YtoiakejagmeliaaAggPure
import Derived.Test.YtoiakejagmeliaaAggW
import Derived.Lib.Hide
set_option linter.unusedSimpArgs false
set_option linter.unusedVariables false
namespace Go.Proofs.Ytoiakejagmeliaa

def smallB (l : List Int) : Bool := l.all fun v => decide (-1099511627776 < v) && decide (v < 1099511627776)
theorem smallB_cons (v : Int) (l : List Int) : smallB (v :: l) = (decide (-1099511627776 < v) && decide (v < 1099511627776) && smallB l) := rfl
theorem smallB_mem {l : List Int} (h : smallB l = true) : ∀ v, v ∈ l → -1099511627776 < v ∧ v < 1099511627776 := fun v hv => by
  have := List.all_eq_true.1 h v hv
  simpa using this

theorem fold_s (l : List Int) : ∀ a : A8, (l.foldl put8 a).s = l.foldl plusW a.s := by
  induction l with
  | nil => exact fun _ => rfl
  | cons v l ih => exact fun a => ih (put8 a v)
def sumZ : List Int → Int
  | [] => 0
  | v :: l => v + sumZ l
theorem sumZ_append (l m : List Int) : sumZ (l ++ m) = sumZ l + sumZ m := by
  induction l with
  | nil => simp [sumZ]
  | cons v l ih => simp only [List.cons_append, sumZ, ih]; omega
theorem sumZ_reverse (l : List Int) : sumZ l.reverse = sumZ l := by
  induction l with
  | nil => rfl
  | cons v l ih => rw [List.reverse_cons, sumZ_append, ih]; simp only [sumZ]; omega
theorem plusW_mid {a b : Int} (h1 : -4611686018427387904 < a + b) (h2 : a + b < 4611686018427387904) (h3 : -4611686018427387904 < a) (h4 : a < 4611686018427387904) (h5 : -4611686018427387904 < b) (h6 : b < 4611686018427387904) : plusW a b = a + b := by
  unfold plusW RowKit.wrap64; rw [if_neg (by omega), if_neg (by omega)]; omega
theorem fold_small (l : List Int) : ∀ s : Int, (∀ v, v ∈ l → -1099511627776 < v ∧ v < 1099511627776) → l.length ≤ 1000000 → -(1000000 - (l.length : Int)) * 1099511627776 ≤ s → s ≤ (1000000 - (l.length : Int)) * 1099511627776 →
    l.foldl plusW s = s + sumZ l := by
  induction l with
  | nil => intro s _ _ _ _; simp [sumZ]
  | cons v l ih =>
    intro s hv hl h1 h2
    have hv0 := hv v (by simp)
    simp only [List.length_cons] at hl h1 h2
    have e : plusW s v = s + v := plusW_mid (by omega) (by omega) (by omega) (by omega) (by omega) (by omega)
    simp only [List.foldl_cons, sumZ]
    rw [e, ih (s + v) (fun x hx => hv x (by simp [hx])) (by omega) (by omega) (by omega)]
    omega
theorem of8_s {l : List Int} (h : ∀ v, v ∈ l → -1099511627776 < v ∧ v < 1099511627776) (hl : l.length ≤ 1000) : (of8 l).s = sumZ l := by
  unfold of8
  rw [fold_s, fold_small l _ h (by omega) (by show _ ≤ (0 : Int); omega) (by show (0 : Int) ≤ _; omega)]
  show (0 : Int) + _ = _
  omega
theorem sumZ_bound {l : List Int} (h : ∀ v, v ∈ l → -1099511627776 < v ∧ v < 1099511627776) : -(l.length : Int) * 1099511627776 ≤ sumZ l ∧ sumZ l ≤ (l.length : Int) * 1099511627776 := by
  induction l with
  | nil => simp [sumZ]
  | cons v l ih =>
    have := ih fun x hx => h x (by simp [hx])
    have := h v (by simp)
    simp only [sumZ, List.length_cons]
    omega

/-- What the law asks of the list's aggregate a, of the turned one's b, and of that joined at K, c. -/
theorem agg_right_facts {l : List Int} {K : Nat} {a b c1 c2 c : A8} (ha : of8 l = a) (hb : of8 l.reverse = b) (h1 : of8 (l.take K) = c1) (h2 : of8 (l.drop K) = c2) (hc : join8 c1 c2 = c) (hl : l.length ≤ 1000) :
    rightB a = true ∧ a.c = l.length ∧ (a.c = b.c ∧ a.mn = b.mn ∧ a.mx = b.mx ∧ a.h0 = b.h0 ∧ a.h1 = b.h1 ∧ a.h2 = b.h2 ∧ a.h3 = b.h3) ∧
    (a.c = c.c ∧ a.mn = c.mn ∧ a.mx = c.mx ∧ a.h0 = c.h0 ∧ a.h1 = c.h1 ∧ a.h2 = c.h2 ∧ a.h3 = c.h3) ∧ (smallB l = true → a.s = b.s ∧ a.s = c.s) := by
  have Ia : IsOf l a := ha ▸ isOf_of8 l (by omega)
  have Ib : IsOf l.reverse b := hb ▸ isOf_of8 l.reverse (by simp; omega)
  have I1 : IsOf (l.take K) c1 := h1 ▸ isOf_of8 (l.take K) (by simp; omega)
  have I2 : IsOf (l.drop K) c2 := h2 ▸ isOf_of8 (l.drop K) (by simp; omega)
  have Ic : IsOf (l.take K ++ l.drop K) c := hc ▸ I1.join I2 (by simp; omega)
  rw [List.take_append_drop] at Ic
  refine ⟨right_isOf Ia (by omega) (fun e => by rw [← ha, e]; rfl), Ia.1, Ia.same Ib (List.reverse_perm l).symm, Ia.same Ic (List.Perm.refl _), fun hs => ?_⟩
  have hv := smallB_mem hs
  have ea : a.s = sumZ l := by rw [← ha]; exact of8_s hv hl
  have eb : b.s = sumZ l := by rw [← hb, of8_s (fun v hm => hv v (List.mem_reverse.1 hm)) (by simpa using hl), sumZ_reverse]
  have v1 : ∀ v, v ∈ l.take K → -1099511627776 < v ∧ v < 1099511627776 := fun v hm => hv v (List.mem_of_mem_take hm)
  have v2 : ∀ v, v ∈ l.drop K → -1099511627776 < v ∧ v < 1099511627776 := fun v hm => hv v (List.mem_of_mem_drop hm)
  have e1 : c1.s = sumZ (l.take K) := by rw [← h1]; exact of8_s v1 (by simp; omega)
  have e2 : c2.s = sumZ (l.drop K) := by rw [← h2]; exact of8_s v2 (by simp; omega)
  have b1 := sumZ_bound v1
  have b2 := sumZ_bound v2
  have n1 : (l.take K).length ≤ 1000 := by simp; omega
  have n2 : (l.drop K).length ≤ 1000 := by simp; omega
  have ec : c.s = sumZ (l.take K) + sumZ (l.drop K) := by
    rw [← hc]
    show plusW c1.s c2.s = _
    rw [e1, e2]
    exact plusW_mid (by omega) (by omega) (by omega) (by omega) (by omega) (by omega)
  rw [← sumZ_append, List.take_append_drop] at ec
  exact ⟨ea.trans eb.symm, ea.trans ec.symm⟩
end Go.Proofs.Ytoiakejagmeliaa
