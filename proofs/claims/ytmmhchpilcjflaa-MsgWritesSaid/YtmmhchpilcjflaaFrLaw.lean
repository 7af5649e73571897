/-
  A frame is read back; a frame cut is too short.
-/
import Derived.Test.YtmmhchpilcjflaaFrWrap
import Derived.Test.YtmmhchpilcjflaaMsgEm
set_option linter.unusedSimpArgs false
set_option linter.unusedVariables false
namespace Go.Proofs.Ytmmhchpilcjflaa
open Go.RowKit

theorem get4_le4 {xs ys : List Nat} {n k : Nat} (hk : k = xs.length) (hn : n < 4294967296) : get4 (xs ++ (le4 n ++ ys)) k = n := by
  subst hk
  have e : ∀ j, j < 4 → (xs ++ (le4 n ++ ys)).getD (xs.length + j) 0 = (le4 n).getD j 0 := fun j hj => by
    rw [List.getD_eq_getElem?_getD, List.getD_eq_getElem?_getD, List.getElem?_append_right (by omega), Nat.add_sub_cancel_left, List.getElem?_append_left (by rw [le4_len]; exact hj)]
  unfold get4
  have e0 := e 0 (by decide)
  rw [Nat.add_zero] at e0
  rw [e0, e 1 (by decide), e 2 (by decide), e 3 (by decide)]
  simp [le4]
  omega
theorem ext_bytes {s : ByteArray} {i j : Nat} : bytesOf (s.extract i j) = ((bytesOf s).drop i).take (j - i) := by
  simp [bytesOf, ByteArray.data_extract, List.map_take, List.map_drop]
theorem bytes_size (s : ByteArray) : (bytesOf s).length = s.size := by simp [bytesOf]
theorem mid_take {a b c : List Nat} {i j : Nat} (hi : i = a.length) (hj : j = a.length + b.length) : ((a ++ (b ++ c)).drop i).take (j - i) = b := by
  subst hi hj
  rw [List.drop_left, Nat.add_sub_cancel_left, List.take_left]
section
variable {s b : ByteArray}
/-- What a text begins with a frame's head and body comes to. -/
theorem next_of {rest : List Nat} (hs : s.size ≤ 16384) (hb : bytesOf b = headL s.size ++ (bytesOf s ++ (le4 (crcM (bytesOf s)) ++ rest))) : nextM b = .ok (s, 8 + s.size + 4) := by
  have hlen : b.size = 12 + s.size + rest.length := by
    have := congrArg List.length hb
    rw [bytes_size] at this
    simp only [List.length_append, bytes_size, le4_len] at this
    have e : (headL s.size).length = 8 := rfl
    omega
  have hb2 : bytesOf b = [] ++ (le4 s.size ++ (le4 (crcM (le4 s.size)) ++ (bytesOf s ++ (le4 (crcM (bytesOf s)) ++ rest)))) := by
    rw [hb]
    simp [headL]
  have hb3 : bytesOf b = le4 s.size ++ (le4 (crcM (le4 s.size)) ++ (bytesOf s ++ (le4 (crcM (bytesOf s)) ++ rest))) := hb2
  have hb4 : bytesOf b = (headL s.size ++ bytesOf s) ++ (le4 (crcM (bytesOf s)) ++ rest) := by rw [hb]; simp
  have g4 : get4 (bytesOf b) 4 = crcM (le4 s.size) := by rw [hb3]; exact get4_le4 rfl crcM_lt
  have g0 : get4 (bytesOf b) 0 = s.size := by rw [hb2]; exact get4_le4 rfl (by omega)
  have g8 : get4 (bytesOf b) (8 + s.size) = crcM (bytesOf s) := by
    rw [hb4]
    refine get4_le4 ?_ crcM_lt
    rw [List.length_append, bytes_size]
    rfl
  have x0 : bytesOf (b.extract 0 4) = le4 s.size := by rw [ext_bytes, hb2]; exact mid_take rfl rfl
  have x8 : bytesOf (b.extract 8 (8 + s.size)) = bytesOf s := by
    rw [ext_bytes, hb]
    refine mid_take rfl ?_
    rw [bytes_size]
    rfl
  unfold nextM
  rw [if_neg (by omega), g4, x0, if_neg (by simp), g0, if_neg (by omega), if_neg (by omega), g8, x8, if_neg (by simp), bytes_inj x8]
theorem whole_put (hs : s.size ≤ 16384) : wholeM (packL (frameL s)) = .ok s := by
  have hb := packL_bytes (frameL_all s)
  have hn := next_of (rest := []) hs (b := packL (frameL s)) (by rw [hb]; simp [frameL])
  unfold wholeM
  rw [hn]
  have hz : (packL (frameL s)).size = 8 + s.size + 4 := by
    rw [packL_size]
    simp only [frameL, List.length_append, bytes_size, le4_len]
    rfl
  simp [hz]
/-- A frame cut is too short. -/
theorem whole_cut {k : Nat} (hs : s.size ≤ 16384) (hk : k < 12 + s.size) : wholeM ((packL (frameL s)).extract 0 k) = .error 7 := by
  have hb := packL_bytes (frameL_all s)
  have hz : (packL (frameL s)).size = 12 + s.size := by
    rw [packL_size]
    simp only [frameL, List.length_append, bytes_size, le4_len]
    have e : (headL s.size).length = 8 := rfl
    omega
  have hc : bytesOf ((packL (frameL s)).extract 0 k) = (frameL s).take k := by rw [ext_bytes, hb]; simp
  have hcz : ((packL (frameL s)).extract 0 k).size = k := by
    rw [ByteArray.size_extract, hz]
    omega
  have hN : nextM ((packL (frameL s)).extract 0 k) = .error 7 := by
    unfold nextM
    by_cases h8 : k < 8
    · rw [if_pos (by rw [hcz]; exact h8)]
    · rw [if_neg (by rw [hcz]; exact h8)]
      have e8 : (headL s.size).length = 8 := rfl
      have ht : (frameL s).take k = headL s.size ++ (bytesOf s ++ le4 (crcM (bytesOf s))).take (k - 8) := by
        unfold frameL
        rw [List.append_assoc, List.take_append, e8, List.take_of_length_le (by omega)]
      generalize (bytesOf s ++ le4 (crcM (bytesOf s))).take (k - 8) = r at ht
      have hb2 : bytesOf ((packL (frameL s)).extract 0 k) = [] ++ (le4 s.size ++ (le4 (crcM (le4 s.size)) ++ r)) := by rw [hc, ht]; simp [headL]
      have hb3 : bytesOf ((packL (frameL s)).extract 0 k) = le4 s.size ++ (le4 (crcM (le4 s.size)) ++ r) := hb2
      have g4 : get4 (bytesOf ((packL (frameL s)).extract 0 k)) 4 = crcM (le4 s.size) := by rw [hb3]; exact get4_le4 rfl crcM_lt
      have g0 : get4 (bytesOf ((packL (frameL s)).extract 0 k)) 0 = s.size := by rw [hb2]; exact get4_le4 rfl (by omega)
      have x0 : bytesOf (((packL (frameL s)).extract 0 k).extract 0 4) = le4 s.size := by rw [ext_bytes, hb2]; exact mid_take rfl rfl
      rw [g4, x0, if_neg (by simp), g0, if_neg (by omega), if_pos (by rw [hcz]; omega)]
  unfold wholeM
  rw [hN]
end
end Go.Proofs.Ytmmhchpilcjflaa
