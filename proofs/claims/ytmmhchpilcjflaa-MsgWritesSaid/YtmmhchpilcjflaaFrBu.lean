/-
  A frame in which bits are turned within 32 that follow one another is not read.
-/
import Derived.Test.YtmmhchpilcjflaaFrLaw
set_option linter.unusedSimpArgs false
set_option linter.unusedVariables false
namespace Go.Proofs.Ytmmhchpilcjflaa
open Go.RowKit

/-- A row of bytes as a number, the lowest first. -/
def vl : List Nat → Nat
  | [] => 0
  | b :: l => b ^^^ 2 ^ 8 * vl l
theorem pow_xor (k a b : Nat) : 2 ^ k * (a ^^^ b) = 2 ^ k * a ^^^ 2 ^ k * b := by
  apply Nat.eq_of_testBit_eq
  intro i
  simp only [Nat.testBit_xor, Nat.testBit_two_pow_mul]
  by_cases h : k ≤ i <;> simp [h]
theorem xor_left_eq {a b c : Nat} (h : a ^^^ b = a ^^^ c) : b = c := by
  have := congrArg (a ^^^ ·) h
  simpa only [← Nat.xor_assoc, Nat.xor_self, Nat.zero_xor] using this
theorem xor_eq {a b c : Nat} (h : a = b ^^^ c) : b ^^^ a = c := by
  rw [h, ← Nat.xor_assoc, Nat.xor_self, Nat.zero_xor]
theorem crcR_vl : ∀ (l : List Nat) (c : Nat), crcR c l = sbN (8 * l.length) (c ^^^ vl l)
  | [], c => by simp [crcR, vl, sbN]
  | b :: l, c => by
    have e : 8 * (b :: l).length = 8 + 8 * l.length := by simp only [List.length_cons]; omega
    show crcR (sbyte c b) l = _
    rw [crcR_vl l, e, sbN_add, vl, ← Nat.xor_assoc, sbN_xor 8 (c ^^^ b), sbN_shift]
    rfl
theorem vl_app : ∀ (a b : List Nat), vl (a ++ b) = vl a ^^^ 2 ^ (8 * a.length) * vl b
  | [], b => by simp [vl]
  | x :: a, b => by
    have e : 8 * (x :: a).length = 8 + 8 * a.length := by simp only [List.length_cons]; omega
    show x ^^^ 2 ^ 8 * vl (a ++ b) = _
    rw [vl_app a b, pow_xor, e, Nat.pow_add, vl, Nat.xor_assoc, Nat.mul_assoc]
theorem vl_lt : ∀ {l : List Nat}, (∀ x ∈ l, x < 256) → vl l < 2 ^ (8 * l.length)
  | [], _ => by simp [vl]
  | b :: l, h => by
    have h1 := vl_lt (l := l) fun x hx => h x (by simp [hx])
    have h2 := h b (by simp)
    have e : 8 * (b :: l).length = 8 + 8 * l.length := by simp only [List.length_cons]; omega
    rw [e]
    unfold vl
    refine Nat.xor_lt_two_pow ?_ ?_
    · exact Nat.lt_of_lt_of_le (show b < 2 ^ 8 by omega) (Nat.pow_le_pow_right (by decide) (by omega))
    · rw [Nat.pow_add]
      exact (Nat.mul_lt_mul_left (by decide)).2 h1
theorem low_xor {b v k : Nat} (hb : b < 2 ^ k) : (b ^^^ 2 ^ k * v) % 2 ^ k = b ∧ (b ^^^ 2 ^ k * v) / 2 ^ k = v := by
  constructor
  · rw [Nat.xor_mod_two_pow, Nat.mul_mod_right, Nat.xor_zero, Nat.mod_eq_of_lt hb]
  · apply Nat.eq_of_testBit_eq
    intro i
    rw [Nat.testBit_div_two_pow, Nat.testBit_xor, Nat.testBit_two_pow_mul]
    have : b.testBit (i + k) = false := Nat.testBit_lt_two_pow (Nat.lt_of_lt_of_le hb (Nat.pow_le_pow_right (by decide) (by omega)))
    simp [this]
theorem vl_inj : ∀ {a b : List Nat}, a.length = b.length → (∀ x ∈ a, x < 256) → (∀ x ∈ b, x < 256) → vl a = vl b → a = b
  | [], [], _, _, _, _ => rfl
  | [], _ :: _, h, _, _, _ => by cases h
  | _ :: _, [], h, _, _, _ => by cases h
  | x :: a, y :: b, h, ha, hb, hv => by
    have hx : x < 2 ^ 8 := ha x (by simp)
    have hy : y < 2 ^ 8 := hb y (by simp)
    have e1 : (vl (x :: a)) % 2 ^ 8 = x := (low_xor hx).1
    have e2 : (vl (y :: b)) % 2 ^ 8 = y := (low_xor hy).1
    have f1 : (vl (x :: a)) / 2 ^ 8 = vl a := (low_xor hx).2
    have f2 : (vl (y :: b)) / 2 ^ 8 = vl b := (low_xor hy).2
    have h1 : x = y := by rw [← e1, ← e2, hv]
    have h2 : vl a = vl b := by rw [← f1, ← f2, hv]
    rw [h1, vl_inj (by simpa using h) (fun z hz => ha z (by simp [hz])) (fun z hz => hb z (by simp [hz])) h2]
/-- A bit turned. -/
theorem vl_turn : ∀ (l : List Nat) (k j : Nat), k < l.length → vl (l.set k (l.getD k 0 ^^^ 2 ^ j)) = vl l ^^^ 2 ^ (8 * k + j)
  | [], _, _, h => by simp at h
  | b :: l, 0, j, _ => by
    show (b ^^^ 2 ^ j) ^^^ 2 ^ 8 * vl l = (b ^^^ 2 ^ 8 * vl l) ^^^ 2 ^ (8 * 0 + j)
    rw [Nat.xor_assoc, Nat.xor_assoc, Nat.xor_comm (2 ^ j), Nat.mul_zero, Nat.zero_add]
  | b :: l, k + 1, j, h => by
    have e : 8 * (k + 1) + j = 8 + (8 * k + j) := by omega
    show b ^^^ 2 ^ 8 * vl (l.set k (l.getD k 0 ^^^ 2 ^ j)) = (b ^^^ 2 ^ 8 * vl l) ^^^ 2 ^ (8 * (k + 1) + j)
    rw [vl_turn l k j (by simpa using h), pow_xor, e, Nat.pow_add 2 8, Nat.xor_assoc]
theorem sb_zero {c : Nat} (h : c < 4294967296) (hz : sb c = 0) : c = 0 := by
  unfold sb at hz
  split at hz
  · have h1 : c / 2 < 2 ^ 31 := by omega
    have h2 : (c / 2 ^^^ 2197175160).testBit 31 = true := by
      rw [Nat.testBit_xor, Nat.testBit_lt_two_pow h1]
      decide
    rw [hz] at h2
    simp at h2
  · omega
theorem sbN_zero : ∀ (n : Nat) {c : Nat}, c < 4294967296 → sbN n c = 0 → c = 0
  | 0, _, _, h => h
  | n + 1, _, h, hz => sb_zero h (sbN_zero n (sb_lt h) hz)
/-- A burst of 32 bits is seen. -/
theorem burst {n p q : Nat} (hq : q < 4294967296) (hp : p ≤ n) (h : sbN n (2 ^ p * q) = 0) : q = 0 := by
  have e : n = p + (n - p) := by omega
  rw [e, sbN_add, sbN_shift] at h
  exact sbN_zero _ hq h
theorem vl_cons {b : Nat} {l : List Nat} (h : b < 256) : vl (b :: l) = b + 256 * vl l := by
  have hb : b < 2 ^ 8 := h
  have e1 : (vl (b :: l)) % 2 ^ 8 = b := (low_xor hb).1
  have e2 : (vl (b :: l)) / 2 ^ 8 = vl l := (low_xor hb).2
  omega
theorem le4_vl {c : Nat} (h : c < 4294967296) : vl (le4 c) = c := by
  unfold le4
  rw [vl_cons (by omega), vl_cons (by omega), vl_cons (by omega), vl_cons (by omega)]
  simp only [vl]
  omega
/-- A text with its sum behind comes to one and the same register. -/
theorem sum_const (l : List Nat) (hl : ∀ x ∈ l, x < 256) : crcR 4294967295 (l ++ le4 (crcM l)) = sbN 32 4294967295 := by
  have h1 : crcR 4294967295 (l ++ le4 (crcM l)) = crcR (crcR 4294967295 l) (le4 (crcM l)) := by
    unfold crcR
    rw [List.foldl_append]
  have h2 := crcR_lt l 4294967295 (by decide) hl
  rw [h1, crcR_vl, le4_vl crcM_lt]
  unfold crcM
  rw [← not_xor h2, ← Nat.xor_assoc, Nat.xor_self, Nat.zero_xor]
  rfl
theorem list4 : ∀ (l : List Nat), 4 ≤ l.length → l.take 4 = [l.getD 0 0, l.getD 1 0, l.getD 2 0, l.getD 3 0]
  | [], h => by simp at h
  | [_], h => by simp at h
  | [_, _], h => by simp at h
  | [_, _, _], h => by simp at h
  | a :: b :: c :: d :: l, _ => by simp
theorem le4_get4 {l : List Nat} (h : 4 ≤ l.length) (hl : ∀ x ∈ l, x < 256) : l.take 4 = le4 (get4 l 0) := by
  have b : ∀ i, i < 4 → l.getD i 0 < 256 := fun i hi => by
    rw [List.getD_eq_getElem?_getD, List.getElem?_eq_getElem (by omega)]
    exact hl _ (List.getElem_mem _)
  have b0 := b 0 (by decide)
  have b1 := b 1 (by decide)
  have b2 := b 2 (by decide)
  have b3 := b 3 (by decide)
  rw [list4 l h]
  unfold get4 le4
  generalize l.getD 0 0 = x0 at *
  generalize l.getD 1 0 = x1 at *
  generalize l.getD 2 0 = x2 at *
  generalize l.getD 3 0 = x3 at *
  simp only [Nat.zero_add, List.cons.injEq, and_true]
  omega
theorem get4_drop {l : List Nat} {k : Nat} : get4 l k = get4 (l.drop k) 0 := by
  unfold get4
  simp only [List.getD_eq_getElem?_getD, List.getElem?_drop, Nat.add_zero, Nat.zero_add]
theorem drop_lt {l : List Nat} {k : Nat} (h : ∀ x ∈ l, x < 256) : ∀ x ∈ l.drop k, x < 256 := fun x hx => h x (List.mem_of_mem_drop hx)
theorem take_lt {l : List Nat} {k : Nat} (h : ∀ x ∈ l, x < 256) : ∀ x ∈ l.take k, x < 256 := fun x hx => h x (List.mem_of_mem_take hx)
/-- What a text that is a frame with a body of n bytes looks like. -/
theorem whole_shape {d b : ByteArray} (h : wholeM d = .ok b) {n : Nat} (hz : d.size = 12 + n) : ∃ t : List Nat, bytesOf d = headL n ++ t ∧ t.length = n + 4 ∧ crcR 4294967295 t = sbN 32 4294967295 := by
  unfold wholeM at h
  split at h
  · rename_i x hx
    split at h
    · cases h
    · rename_i hz2
      cases h
      unfold nextM at hx
      split at hx
      · cases hx
      · split at hx
        · cases hx
        · split at hx
          · cases hx
          · split at hx
            · cases hx
            · split at hx
              · cases hx
              · rename_i c1 c2 c3 c4 c5
                cases hx
                have hz3 : 8 + get4 (bytesOf d) 0 + 4 = d.size := Classical.not_not.1 hz2
                have hn : get4 (bytesOf d) 0 = n := by omega
                have hlen : (bytesOf d).length = 12 + n := by rw [bytes_size, hz]
                have hall : ∀ x ∈ bytesOf d, x < 256 := bytesOf_lt
                rw [hn] at c5
                have d2 := Classical.not_not.1 c2
                have d5 := Classical.not_not.1 c5
                rw [ext_bytes] at d2 d5
                have e0 : (bytesOf d).take 4 = le4 n := by rw [← hn]; exact le4_get4 (by omega) hall
                have e4 : ((bytesOf d).drop 4).take 4 = le4 (crcM (le4 n)) := by
                  rw [le4_get4 (by rw [List.length_drop]; omega) (drop_lt hall), ← get4_drop, d2, ← e0]
                  rfl
                have e8 : ((bytesOf d).drop 8).drop n = le4 (crcM (((bytesOf d).drop 8).take n)) := by
                  have q := le4_get4 (l := (bytesOf d).drop (8 + n)) (by rw [List.length_drop]; omega) (drop_lt hall)
                  rw [List.take_of_length_le (by rw [List.length_drop]; omega), ← get4_drop, d5] at q
                  rw [List.drop_drop, q, Nat.add_sub_cancel_left]
                refine ⟨(bytesOf d).drop 8, ?_, by rw [List.length_drop]; omega, ?_⟩
                · have s1 : bytesOf d = (bytesOf d).take 4 ++ (bytesOf d).drop 4 := (List.take_append_drop 4 _).symm
                  have s2 : (bytesOf d).drop 4 = ((bytesOf d).drop 4).take 4 ++ (bytesOf d).drop 8 := by
                    have := (List.take_append_drop 4 ((bytesOf d).drop 4)).symm
                    rwa [List.drop_drop] at this
                  rw [e4] at s2
                  rw [e0, s2, ← List.append_assoc] at s1
                  exact s1
                · have s3 : (bytesOf d).drop 8 = ((bytesOf d).drop 8).take n ++ ((bytesOf d).drop 8).drop n := (List.take_append_drop n _).symm
                  rw [e8] at s3
                  rw [s3]
                  have e : ((((bytesOf d).drop 8).take n ++ le4 (crcM (((bytesOf d).drop 8).take n)))) = ((bytesOf d).drop 8) := s3.symm
                  exact sum_const _ (take_lt (drop_lt hall))
  · cases h
/-- The law: of a frame and what it becomes by a burst of 32 bits, not both are frames. -/
theorem burst_bad {d d' b : ByteArray} (h : wholeM d = .ok b) (hz : d'.size = d.size) {p q : Nat} (hq : q < 4294967296) (hv : vl (bytesOf d') = vl (bytesOf d) ^^^ 2 ^ p * q) (h0 : q ≠ 0) : ∃ f, wholeM d' = .error f := by
  cases hw : wholeM d' with
  | error f => exact ⟨f, rfl⟩
  | ok b' =>
    exfalso
    have h12 : 12 ≤ d.size := by
      have hh := h
      unfold wholeM at hh
      split at hh
      · rename_i x hx
        split at hh
        · cases hh
        · rename_i hz2
          unfold nextM at hx
          repeat' split at hx
          all_goals cases hx
          have hz3 : 8 + get4 (bytesOf d) 0 + 4 = d.size := Classical.not_not.1 hz2
          omega
      · cases hh
    obtain ⟨n, hn⟩ : ∃ n, d.size = 12 + n := ⟨d.size - 12, by omega⟩
    obtain ⟨t, e1, e2, e3⟩ := whole_shape h hn
    obtain ⟨t', f1, f2, f3⟩ := whole_shape hw (n := n) (by omega)
    rw [e1, f1, vl_app, vl_app, Nat.xor_assoc] at hv
    have hk := xor_left_eq hv
    have e64 : 8 * (headL n).length = 64 := rfl
    rw [e64] at hk
    have hx : 2 ^ 64 * (vl t ^^^ vl t') = 2 ^ p * q := by
      rw [pow_xor]
      exact xor_eq hk
    have hs : sbN (8 * (n + 4)) (vl t ^^^ vl t') = 0 := by
      have g1 := crcR_vl t 4294967295
      have g2 := crcR_vl t' 4294967295
      rw [e3, e2, sbN_xor] at g1
      rw [f3, f2, sbN_xor] at g2
      rw [sbN_xor, xor_left_eq (g1.symm.trans g2), Nat.xor_self]
    have ht : ∀ x ∈ t, x < 256 := fun x hx => bytesOf_lt (s := d) x (by rw [e1]; exact List.mem_append_right _ hx)
    have ht' : ∀ x ∈ t', x < 256 := fun x hx => bytesOf_lt (s := d') x (by rw [f1]; exact List.mem_append_right _ hx)
    have hlt : vl t ^^^ vl t' < 2 ^ (8 * (n + 4)) := by
      refine Nat.xor_lt_two_pow ?_ ?_
      · have := vl_lt ht
        rwa [e2] at this
      · have := vl_lt ht'
        rwa [f2] at this
    generalize vl t ^^^ vl t' = X at hx hs hlt
    have hX : X ≠ 0 := by
      intro hX
      rw [hX, Nat.mul_zero] at hx
      rcases Nat.mul_eq_zero.1 hx.symm with hh | hh
      · exact absurd hh (Nat.pos_iff_ne_zero.1 (Nat.two_pow_pos p))
      · exact h0 hh
    by_cases hp : 64 ≤ p
    · obtain ⟨p', rfl⟩ : ∃ p', p = 64 + p' := ⟨p - 64, by omega⟩
      rw [Nat.pow_add, Nat.mul_assoc] at hx
      have hXe : X = 2 ^ p' * q := Nat.eq_of_mul_eq_mul_left (Nat.two_pow_pos 64) hx
      have hp2 : p' ≤ 8 * (n + 4) := by
        refine Nat.le_of_not_lt fun hlt2 => ?_
        have : 2 ^ (8 * (n + 4)) ≤ 2 ^ p' * q := Nat.le_trans (Nat.pow_le_pow_right (by decide) (by omega)) (Nat.le_mul_of_pos_right _ (Nat.pos_of_ne_zero h0))
        omega
      rw [hXe] at hs
      exact h0 (burst hq hp2 hs)
    · have hXe : X < 4294967296 := by
        obtain ⟨r, hr⟩ : ∃ r, 64 = p + r := ⟨64 - p, by omega⟩
        rw [hr, Nat.pow_add, Nat.mul_assoc] at hx
        have h2 : 2 ^ r * X = q := Nat.eq_of_mul_eq_mul_left (Nat.two_pow_pos p) hx
        have h3 : X ≤ 2 ^ r * X := Nat.le_mul_of_pos_left _ (Nat.two_pow_pos r)
        omega
      exact hX (sbN_zero _ hXe hs)
end Go.Proofs.Ytmmhchpilcjflaa
