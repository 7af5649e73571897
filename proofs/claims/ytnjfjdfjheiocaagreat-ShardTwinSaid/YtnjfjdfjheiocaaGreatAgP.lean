/-
  Plain laws of aggregates: what a list adds up to is right.
-/
import Derived.Test.YtnjfjdfjheiocaaGreatAgC
import Derived.KernelRfl
set_option linter.unusedSimpArgs false
set_option linter.unusedVariables false
namespace Go.Proofs.YtnjfjdfjheiocaaGreat
open Go.RowKit
def mn4 (a0 a1 a2 a3 : Int) : Int := mnI (mnI (mnI a0 a1) a2) a3
def idx4 (v a0 a1 a2 a3 : Int) : Int := if v = a0 then 0 else if v = a1 then 1 else if v = a2 then 2 else if v = a3 then 3 else -1

def sumK (a : A8) : Nat → Int
  | 0 => 0
  | k + 1 => plusW (sumK a k) (a.h k)
def lowK (a : A8) : Nat → Int
  | 0 => 4
  | k + 1 => if 0 < a.h k then mnI (lowK a k) k else lowK a k
def highK (a : A8) : Nat → Int
  | 0 => -1
  | k + 1 => if 0 < a.h k then k else highK a k
/-- What Right answers. -/
def rightB (a : A8) : Bool :=
  if a.c = 0 then decide (a.s = 0 ∧ a.mn = 0 ∧ a.mx = 0 ∧ a.h0 = 0 ∧ a.h1 = 0 ∧ a.h2 = 0 ∧ a.h3 = 0)
  else if a.c < 0 ∨ a.mx < a.mn ∨ mn4 a.h0 a.h1 a.h2 a.h3 < 0 then false
  else if 0 ≤ idx4 9223372036854775807 a.h0 a.h1 a.h2 a.h3 then true
  else decide (sumK a 4 = a.c ∧ lowK a 4 = bucketW a.mn ∧ highK a 4 = bucketW a.mx)

theorem plusW_small {a b : Int} (ha : 0 ≤ a) (hb : 0 ≤ b) (h : a + b < 4611686018427387904) : plusW a b = a + b := by
  unfold plusW RowKit.wrap64; rw [if_neg (by omega), if_neg (by omega)]; omega

/-- How many values of a list lie in bucket k. -/
def cntB (k : Int) (l : List Int) : Nat := (l.filter fun v => bucketW v == k).length
theorem cntB_le (k : Int) (l : List Int) : cntB k l ≤ l.length := List.length_filter_le _ _
theorem cntB_append (k : Int) (l m : List Int) : cntB k (l ++ m) = cntB k l + cntB k m := by simp [cntB]
theorem cntB_perm {l m : List Int} (k : Int) (h : l.Perm m) : cntB k l = cntB k m := (h.filter _).length_eq
theorem cntB_one (k v : Int) : (cntB k [v] : Int) = hI v k := by
  by_cases h : bucketW v = k <;> simp [cntB, hI, h]
theorem cntB_sum : ∀ l : List Int, cntB 0 l + cntB 1 l + cntB 2 l + cntB 3 l = l.length
  | [] => rfl
  | v :: l => by
    have ih := cntB_sum l
    have e : ∀ k, cntB k (v :: l) = cntB k [v] + cntB k l := fun k => cntB_append k [v] l
    rw [e 0, e 1, e 2, e 3]
    rcases bucket_cases v with h | h | h | h <;> simp [cntB, h] at ih ⊢ <;> omega
theorem cntB_pos {k : Int} {l : List Int} {v : Int} (hv : v ∈ l) (h : bucketW v = k) : 0 < cntB k l := by
  unfold cntB
  exact List.length_pos_of_mem (List.mem_filter.2 ⟨hv, by simp [h]⟩)
theorem cntB_has {k : Int} {l : List Int} (h : 0 < cntB k l) : ∃ v ∈ l, bucketW v = k := by
  unfold cntB at h
  obtain ⟨v, hv⟩ := List.exists_mem_of_length_pos h
  rw [List.mem_filter] at hv
  exact ⟨v, hv.1, by simpa using hv.2⟩

/-- The aggregate is that of a list, but for the sum. -/
def IsOf (l : List Int) (a : A8) : Prop :=
  a.c = l.length ∧ a.h0 = cntB 0 l ∧ a.h1 = cntB 1 l ∧ a.h2 = cntB 2 l ∧ a.h3 = cntB 3 l ∧
  (l = [] → a.mn = 0 ∧ a.mx = 0) ∧ (l ≠ [] → a.mn ∈ l ∧ a.mx ∈ l ∧ ∀ x ∈ l, a.mn ≤ x ∧ x ≤ a.mx)

theorem IsOf.zero : IsOf [] A8.zero := ⟨rfl, rfl, rfl, rfl, rfl, fun _ => ⟨rfl, rfl⟩, fun h => absurd rfl h⟩

theorem IsOf.join {l m : List Int} {a b : A8} (ha : IsOf l a) (hb : IsOf m b) (hlen : l.length + m.length < 4611686018427387904) : IsOf (l ++ m) (join8 a b) := by
  obtain ⟨a1, a2, a3, a4, a5, a6, a7⟩ := ha
  obtain ⟨b1, b2, b3, b4, b5, b6, b7⟩ := hb
  have cl := fun k => cntB_le k l
  have cm := fun k => cntB_le k m
  have hcount : ∀ k : Int, plusW (cntB k l) (cntB k m) = cntB k (l ++ m) := fun k => by
    have := cl k; have := cm k
    rw [plusW_small (by omega) (by omega) (by omega), cntB_append]; omega
  refine ⟨?_, ?_, ?_, ?_, ?_, ?_, ?_⟩
  · show plusW a.c b.c = _
    rw [a1, b1, plusW_small (by omega) (by omega) (by omega)]; simp
  · show plusW a.h0 b.h0 = _
    rw [a2, b2]; exact hcount 0
  · show plusW a.h1 b.h1 = _
    rw [a3, b3]; exact hcount 1
  · show plusW a.h2 b.h2 = _
    rw [a4, b4]; exact hcount 2
  · show plusW a.h3 b.h3 = _
    rw [a5, b5]; exact hcount 3
  · intro h
    obtain ⟨rfl, rfl⟩ := List.append_eq_nil_iff.1 h
    have ac : a.c = 0 := by rw [a1]; rfl
    have bc : b.c = 0 := by rw [b1]; rfl
    exact ⟨by show jmn a.c b.c a.mn b.mn = 0; unfold jmn; rw [if_pos ac, if_pos bc], by show jmx a.c b.c a.mx b.mx = 0; unfold jmx; rw [if_pos ac, if_pos bc]⟩
  · intro h
    show jmn a.c b.c a.mn b.mn ∈ l ++ m ∧ jmx a.c b.c a.mx b.mx ∈ l ++ m ∧ ∀ x ∈ l ++ m, jmn a.c b.c a.mn b.mn ≤ x ∧ x ≤ jmx a.c b.c a.mx b.mx
    by_cases hl : l = []
    · have ac : a.c = 0 := by rw [a1, hl]; rfl
      have hm : m ≠ [] := fun e => h (by rw [hl, e]; rfl)
      have bc : ¬ b.c = 0 := by rw [b1]; have := List.length_pos_iff.2 hm; omega
      unfold jmn jmx
      rw [if_pos ac, if_neg bc, if_pos ac, if_neg bc, hl]
      simpa using b7 hm
    · have ac : ¬ a.c = 0 := by rw [a1]; have := List.length_pos_iff.2 hl; omega
      by_cases hm : m = []
      · have bc : b.c = 0 := by rw [b1, hm]; rfl
        unfold jmn jmx
        rw [if_neg ac, if_pos bc, if_neg ac, if_pos bc, hm]
        simpa using a7 hl
      · have bc : ¬ b.c = 0 := by rw [b1]; have := List.length_pos_iff.2 hm; omega
        unfold jmn jmx
        rw [if_neg ac, if_neg bc, if_neg ac, if_neg bc]
        obtain ⟨p1, p2, p3⟩ := a7 hl
        obtain ⟨q1, q2, q3⟩ := b7 hm
        refine ⟨?_, ?_, fun x hx => ?_⟩
        · unfold mnI; split
          · exact List.mem_append_right _ q1
          · exact List.mem_append_left _ p1
        · unfold mxI; split
          · exact List.mem_append_right _ q2
          · exact List.mem_append_left _ p2
        · unfold mnI mxI
          rcases List.mem_append.1 hx with hx | hx
          · have := p3 x hx; split <;> split <;> omega
          · have := q3 x hx; split <;> split <;> omega

theorem IsOf.one (v s : Int) : IsOf [v] ⟨1, s, v, v, hI v 0, hI v 1, hI v 2, hI v 3⟩ :=
  ⟨rfl, (cntB_one 0 v).symm, (cntB_one 1 v).symm, (cntB_one 2 v).symm, (cntB_one 3 v).symm, (by intro h; cases h), fun _ => ⟨by simp, by simp, fun x hx => by simp at hx; rw [hx]; exact ⟨Int.le_refl _, Int.le_refl _⟩⟩⟩
theorem IsOf.put {l : List Int} {a : A8} (ha : IsOf l a) (v : Int) (hlen : l.length < 4611686018427387903) : IsOf (l ++ [v]) (put8 a v) := by
  rw [put8_join]
  exact ha.join (IsOf.one v v) (by simp; omega)
theorem bucket_mono {v w : Int} (h : v ≤ w) : bucketW v ≤ bucketW w := by
  unfold bucketW; split <;> split <;> (try split) <;> (try split) <;> (try split) <;> omega

theorem sum4 {n0 n1 n2 n3 : Int} (h0 : 0 ≤ n0) (h1 : 0 ≤ n1) (h2 : 0 ≤ n2) (h3 : 0 ≤ n3) (h : n0 + n1 + n2 + n3 < 4611686018427387904) :
    plusW (plusW (plusW (plusW 0 n0) n1) n2) n3 = n0 + n1 + n2 + n3 := by
  have e0 : plusW 0 n0 = n0 := by rw [plusW_small (by omega) h0 (by omega)]; omega
  have e1 : plusW n0 n1 = n0 + n1 := plusW_small h0 h1 (by omega)
  have e2 : plusW (n0 + n1) n2 = n0 + n1 + n2 := plusW_small (by omega) h2 (by omega)
  have e3 : plusW (n0 + n1 + n2) n3 = n0 + n1 + n2 + n3 := plusW_small (by omega) h3 (by omega)
  rw [e0, e1, e2, e3]
def Lo (b n0 n1 n2 n3 : Int) : Prop := (b = 0 ∧ 0 < n0) ∨ (b = 1 ∧ 0 < n1 ∧ n0 ≤ 0) ∨ (b = 2 ∧ 0 < n2 ∧ n0 ≤ 0 ∧ n1 ≤ 0) ∨ (b = 3 ∧ 0 < n3 ∧ n0 ≤ 0 ∧ n1 ≤ 0 ∧ n2 ≤ 0)
theorem low4 {c s mn mx n0 n1 n2 n3 b : Int} (h : Lo b n0 n1 n2 n3) : lowK ⟨c, s, mn, mx, n0, n1, n2, n3⟩ 4 = b := by
  have e : lowK ⟨c, s, mn, mx, n0, n1, n2, n3⟩ 4 = if 0 < n0 then 0 else if 0 < n1 then 1 else if 0 < n2 then 2 else if 0 < n3 then 3 else 4 := by
    simp only [lowK, A8.h, mnI]
    by_cases k0 : 0 < n0 <;> by_cases k1 : 0 < n1 <;> by_cases k2 : 0 < n2 <;> by_cases k3 : 0 < n3 <;> simp [k0, k1, k2, k3]
  rw [e]
  rcases h with ⟨rfl, h⟩ | ⟨rfl, h, h0⟩ | ⟨rfl, h, h0, h1⟩ | ⟨rfl, h, h0, h1, h2⟩
  · rw [if_pos h]
  · rw [if_neg (by omega), if_pos h]
  · rw [if_neg (by omega), if_neg (by omega), if_pos h]
  · rw [if_neg (by omega), if_neg (by omega), if_neg (by omega), if_pos h]
theorem high4 {c s mn mx n0 n1 n2 n3 b : Int} (h : Lo (3 - b) n3 n2 n1 n0) : highK ⟨c, s, mn, mx, n0, n1, n2, n3⟩ 4 = b := by
  have e : highK ⟨c, s, mn, mx, n0, n1, n2, n3⟩ 4 = if 0 < n3 then 3 else if 0 < n2 then 2 else if 0 < n1 then 1 else if 0 < n0 then 0 else -1 := by
    simp only [highK, A8.h]; rfl
  rw [e]
  rcases h with ⟨e, h⟩ | ⟨e, h, h0⟩ | ⟨e, h, h0, h1⟩ | ⟨e, h, h0, h1, h2⟩
  · rw [if_pos h]; omega
  · rw [if_neg (by omega), if_pos h]; omega
  · rw [if_neg (by omega), if_neg (by omega), if_pos h]; omega
  · rw [if_neg (by omega), if_neg (by omega), if_neg (by omega), if_pos h]; omega
theorem idx_none {v n0 n1 n2 n3 : Int} (h0 : n0 < v) (h1 : n1 < v) (h2 : n2 < v) (h3 : n3 < v) : ¬ 0 ≤ idx4 v n0 n1 n2 n3 := by
  unfold idx4; rw [if_neg (by omega), if_neg (by omega), if_neg (by omega), if_neg (by omega)]; omega
theorem mn4_ok {n0 n1 n2 n3 : Int} (h0 : 0 ≤ n0) (h1 : 0 ≤ n1) (h2 : 0 ≤ n2) (h3 : 0 ≤ n3) : ¬ mn4 n0 n1 n2 n3 < 0 := by
  unfold mn4 mnI; split <;> split <;> split <;> omega

theorem right_isOf {l : List Int} {a : A8} (ha : IsOf l a) (hlen : l.length < 4611686018427387904) (hz : l = [] → a.s = 0) : rightB a = true := by
  obtain ⟨c, s, mn, mx, n0, n1, n2, n3⟩ := a
  obtain ⟨a1, a2, a3, a4, a5, a6, a7⟩ := ha
  dsimp only at a1 a2 a3 a4 a5 a6 a7 hz
  have cs := cntB_sum l
  have c0 := cntB_le 0 l
  have c1 := cntB_le 1 l
  have c2 := cntB_le 2 l
  have c3 := cntB_le 3 l
  unfold rightB
  dsimp only
  by_cases hl : l = []
  · have hc : c = 0 := by rw [a1, hl]; rfl
    rw [if_pos hc, (a6 hl).1, (a6 hl).2, hz hl, a2, a3, a4, a5, hl]
    simp [cntB]
  · obtain ⟨p1, p2, p3⟩ := a7 hl
    have hpos := List.length_pos_iff.2 hl
    have hx := p3 mx p2
    have b1 := bucket_mono hx.1
    have hmn := cntB_pos p1 rfl
    have hmx := cntB_pos p2 rfl
    have lo : ∀ k : Int, 0 < cntB k l → bucketW mn ≤ k ∧ k ≤ bucketW mx := fun k hk => by
      obtain ⟨v, hv, e⟩ := cntB_has hk
      have := p3 v hv
      rw [← e]
      exact ⟨bucket_mono this.1, bucket_mono this.2⟩
    have l0 := lo 0
    have l1 := lo 1
    have l2 := lo 2
    have l3 := lo 3
    have bmn := bucket_cases mn
    have bmx := bucket_cases mx
    have k0 : 0 ≤ n0 := by omega
    have k1 : 0 ≤ n1 := by omega
    have k2 : 0 ≤ n2 := by omega
    have k3 : 0 ≤ n3 := by omega
    have hlo : Lo (bucketW mn) n0 n1 n2 n3 := by
      unfold Lo
      rcases bmn with h | h | h | h <;> rw [h] at hmn <;> omega
    have hhi : Lo (3 - bucketW mx) n3 n2 n1 n0 := by
      unfold Lo
      rcases bmx with h | h | h | h <;> rw [h] at hmx <;> omega
    have hsum : sumK ⟨c, s, mn, mx, n0, n1, n2, n3⟩ 4 = c := by
      show plusW (plusW (plusW (plusW 0 n0) n1) n2) n3 = c
      rw [sum4 k0 k1 k2 k3 (by omega)]; omega
    have hm := mn4_ok k0 k1 k2 k3
    have hi := idx_none (v := 9223372036854775807) (n0 := n0) (n1 := n1) (n2 := n2) (n3 := n3) (by omega) (by omega) (by omega) (by omega)
    rw [if_neg (by omega), if_neg (by simp [hm]; omega), if_neg hi, decide_eq_true_eq]
    exact ⟨hsum, low4 hlo, high4 hhi⟩
theorem plusW_range (a b : Int) : -9223372036854775808 ≤ plusW a b ∧ plusW a b < 9223372036854775808 := by
  unfold plusW RowKit.wrap64
  split
  · omega
  · split <;> omega
/-- An aggregate lies within its numbers. -/
def A8.In (a : A8) : Prop := (-9223372036854775808 ≤ a.s ∧ a.s < 9223372036854775808) ∧ (-9223372036854775808 ≤ a.mn ∧ a.mn < 9223372036854775808) ∧ -9223372036854775808 ≤ a.mx ∧ a.mx < 9223372036854775808
theorem put8_in {a : A8} {v : Int} (h : a.In) (h0 : -9223372036854775808 ≤ v) (h1 : v < 9223372036854775808) : (put8 a v).In := by
  obtain ⟨r1, r2, r3⟩ := h
  refine ⟨plusW_range _ _, ?_, ?_⟩
  · show _ ≤ jmn a.c 1 a.mn v ∧ jmn a.c 1 a.mn v < _
    unfold jmn mnI
    split
    · rw [if_neg (by decide)]; exact ⟨h0, h1⟩
    · rw [if_neg (by decide)]
      split
      · exact ⟨h0, h1⟩
      · exact r2
  · show _ ≤ jmx a.c 1 a.mx v ∧ jmx a.c 1 a.mx v < _
    unfold jmx mxI
    split
    · rw [if_neg (by decide)]; exact ⟨h0, h1⟩
    · rw [if_neg (by decide)]
      split
      · exact ⟨h0, h1⟩
      · exact r3
theorem zero_in : A8.zero.In := ⟨⟨by decide, by decide⟩, ⟨by decide, by decide⟩, by decide, by decide⟩
end Go.Proofs.YtnjfjdfjheiocaaGreat
