/-
  What is read lies within its types.
-/
import Derived.Test.YtmmhchpilcjflaaMsgQj
import Derived.Test.YtmmhchpilcjflaaFrA
set_option linter.unusedSimpArgs false
set_option linter.unusedVariables false
namespace Go.Proofs.Ytmmhchpilcjflaa
open Go.RowKit

def FitK (m : PMsg) : Prop := m.Fits ∧ m.kind < 256 ∧ m.ikind < 256
section
variable {b : ByteArray}
def FitS (b : ByteArray) (s : Nat × PMsg) : Prop := s.1 ≤ b.size ∧ FitK s.2
theorem mostR_just {n m v n' : Nat} (hn : n ≤ b.size) (h : mostR b n m = .ok (v, n')) : v ≤ m ∧ n' ≤ b.size := by
  obtain ⟨h1, h2⟩ := mostR_num h
  obtain ⟨_, _, h3, _⟩ := numR_just hn h2
  exact ⟨h1, h3⟩
theorem rNum_just {n n' : Nat} {x : Int} (hn : n ≤ b.size) (h : rNum b n = .ok (x, n')) : n' ≤ b.size := by
  unfold rNum at h
  split at h
  · cases h
  · rename_i v n2 hx
    cases h
    exact (mostR_just hn hx).2
theorem st_num_fit {g : PMsg → Int} {u : PMsg → Int → PMsg} (hu : ∀ m v, FitK m → FitK (u m v)) : Keeps (K := rSem b) (FitS b) (st_num (rSem b) g u) := by
  rintro ⟨(n : Nat), m0⟩ ⟨(n2 : Nat), m1⟩ ⟨h1, h2⟩ h
  unfold st_num at h
  split at h
  · rename_i x hx
    obtain ⟨v, (k : Nat)⟩ := x
    cases h
    exact ⟨rNum_just h1 hx, hu _ _ h2⟩
  · cases h
theorem st_byte_fit {g : PMsg → Nat} {u : PMsg → Nat → PMsg} (hu : ∀ m v, v < 256 → FitK m → FitK (u m v)) : Keeps (K := rSem b) (FitS b) (st_byte (rSem b) g u) := by
  rintro ⟨(n : Nat), m0⟩ ⟨(n2 : Nat), m1⟩ ⟨h1, h2⟩ h
  unfold st_byte at h
  split at h
  · rename_i x hx
    obtain ⟨v, (k : Nat)⟩ := x
    cases h
    have hx' : rByte b n = .ok (v, k) := hx
    unfold rByte at hx'
    split at hx'
    · rename_i hlt
      cases hx'
      exact ⟨hlt, hu _ _ byte_lt h2⟩
    · cases hx'
  · cases h
theorem st_i64_fit {g : PMsg → Int} {u : PMsg → Int → PMsg} (hu : ∀ m v, -9223372036854775808 ≤ v → v < 9223372036854775808 → FitK m → FitK (u m v)) : Keeps (K := rSem b) (FitS b) (st_i64 (rSem b) g u) := by
  rintro ⟨(n : Nat), m0⟩ ⟨(n2 : Nat), m1⟩ ⟨h1, h2⟩ h
  unfold st_i64 at h
  split at h
  · rename_i x hx
    obtain ⟨v, (k : Nat)⟩ := x
    cases h
    have hx' : rI64 b n = .ok (v, k) := hx
    unfold rI64 at hx'
    split at hx'
    · cases hx'
    · rename_i y n3 hy
      cases hx'
      obtain ⟨h3, _, h5, _⟩ := numR_just h1 hy
      exact ⟨h5, hu _ _ (by unfold zag; split <;> omega) (by unfold zag; split <;> omega) h2⟩
  · cases h
theorem st_u64_fit {g : PMsg → Nat} {u : PMsg → Nat → PMsg} (hu : ∀ m v, v < 18446744073709551616 → FitK m → FitK (u m v)) : Keeps (K := rSem b) (FitS b) (st_u64 (rSem b) g u) := by
  rintro ⟨(n : Nat), m0⟩ ⟨(n2 : Nat), m1⟩ ⟨h1, h2⟩ h
  unfold st_u64 at h
  split at h
  · rename_i x hx
    obtain ⟨v, (k : Nat)⟩ := x
    cases h
    obtain ⟨h3, _, h5, _⟩ := numR_just h1 hx
    exact ⟨h5, hu _ _ h3 h2⟩
  · cases h
theorem st_text_fit {g : PMsg → ByteArray} {u : PMsg → ByteArray → PMsg} {most : Int} (hm : most ≤ 1024) (hu : ∀ (m : PMsg) (v : ByteArray), v.size ≤ 1024 → FitK m → FitK (u m v)) : Keeps (K := rSem b) (FitS b) (st_text (rSem b) g u most) := by
  rintro ⟨(n : Nat), m0⟩ ⟨(n2 : Nat), m1⟩ ⟨h1, h2⟩ h
  unfold st_text at h
  split at h
  · rename_i x hx
    obtain ⟨v, (k : Nat)⟩ := x
    cases h
    have hx' : textR b n most.toNat = .ok (v, k) := hx
    unfold textR at hx'
    split at hx'
    · cases hx'
    · rename_i y n3 hy
      split at hx'
      · rename_i hle
        cases hx'
        obtain ⟨h3, h4⟩ := mostR_just h1 hy
        exact ⟨by omega, hu _ _ (by rw [ByteArray.size_extract]; omega) h2⟩
      · cases hx'
  · cases h
theorem loop_fit : ∀ (l : List Int) (n n' : Nat) (vs : List Int), loopM (rSem b) n l = .ok (vs, n') → n ≤ b.size → n' ≤ b.size
  | [], n, n', vs, h, hn => by cases h; exact hn
  | x :: l, n, n', vs, h, hn => by
    obtain ⟨v, (st : Nat), vs2, hx, hl, rfl⟩ := loopM_inv h
    exact loop_fit l st n' vs2 hl (rNum_just hn hx)
theorem nums_fit {l vs : List Int} {n n' : Nat} {m : Int} (h : (numsM (rSem b) n l m : Except Int (List Int × Nat)) = .ok (vs, n')) (hn : n ≤ b.size) : n' ≤ b.size := by
  unfold numsM at h
  split at h
  · cases h
  · rename_i c st hx
    have hx' : rCount b n m = .ok (c, st) := hx
    unfold rCount at hx'
    split at hx'
    · cases hx'
    · rename_i y n3 hy
      cases hx'
      exact loop_fit _ _ _ _ h (mostR_just hn hy).2
theorem owner_fit : Keeps (K := rSem b) (FitS b) (s_owner (rSem b)) := by
  rintro ⟨(n : Nat), m0⟩ ⟨(n2 : Nat), m1⟩ ⟨h1, h2⟩ h
  unfold s_owner at h
  split at h
  · rename_i x hx
    obtain ⟨v, (k : Nat)⟩ := x
    cases h
    exact ⟨nums_fit hx h1, ⟨⟨h2.1.digest, h2.1.at0, h2.1.at1, h2.1.iat0, h2.1.iat1, h2.1.iN0, h2.1.iN1, h2.1.key, h2.1.data⟩, h2.2⟩⟩
  · cases h
theorem set_fit : Keeps (K := rSem b) (FitS b) (s_set (rSem b)) := by
  rintro ⟨(n : Nat), m0⟩ ⟨(n2 : Nat), m1⟩ ⟨h1, h2⟩ h
  unfold s_set at h
  split at h
  · rename_i x hx
    obtain ⟨v, (k : Nat)⟩ := x
    cases h
    exact ⟨nums_fit hx h1, ⟨⟨h2.1.digest, h2.1.at0, h2.1.at1, h2.1.iat0, h2.1.iat1, h2.1.iN0, h2.1.iN1, h2.1.key, h2.1.data⟩, h2.2⟩⟩
  · cases h
theorem walk_fit {m m' : PMsg} {n n' : Nat} (hn : n ≤ b.size) (hm : FitK m) (h : (walkM (rSem b) (n, m) : Except Int (Nat × PMsg)) = .ok (n', m')) : FitS b (n', m') :=
  walkM_keeps (K := rSem b) (FitS b)
    (st_byte_fit fun m v hv h => ⟨⟨h.1.digest, h.1.at0, h.1.at1, h.1.iat0, h.1.iat1, h.1.iN0, h.1.iN1, h.1.key, h.1.data⟩, hv, h.2.2⟩)
    (st_num_fit fun m v h => ⟨⟨h.1.digest, h.1.at0, h.1.at1, h.1.iat0, h.1.iat1, h.1.iN0, h.1.iN1, h.1.key, h.1.data⟩, h.2.1, h.2.2⟩)
    (st_num_fit fun m v h => ⟨⟨h.1.digest, h.1.at0, h.1.at1, h.1.iat0, h.1.iat1, h.1.iN0, h.1.iN1, h.1.key, h.1.data⟩, h.2.1, h.2.2⟩)
    (st_num_fit fun m v h => ⟨⟨h.1.digest, h.1.at0, h.1.at1, h.1.iat0, h.1.iat1, h.1.iN0, h.1.iN1, h.1.key, h.1.data⟩, h.2.1, h.2.2⟩)
    (st_num_fit fun m v h => ⟨⟨h.1.digest, h.1.at0, h.1.at1, h.1.iat0, h.1.iat1, h.1.iN0, h.1.iN1, h.1.key, h.1.data⟩, h.2.1, h.2.2⟩)
    (st_num_fit fun m v h => ⟨⟨h.1.digest, h.1.at0, h.1.at1, h.1.iat0, h.1.iat1, h.1.iN0, h.1.iN1, h.1.key, h.1.data⟩, h.2.1, h.2.2⟩)
    (st_num_fit fun m v h => ⟨⟨h.1.digest, h.1.at0, h.1.at1, h.1.iat0, h.1.iat1, h.1.iN0, h.1.iN1, h.1.key, h.1.data⟩, h.2.1, h.2.2⟩)
    (st_u64_fit fun m v hv h => ⟨⟨hv, h.1.at0, h.1.at1, h.1.iat0, h.1.iat1, h.1.iN0, h.1.iN1, h.1.key, h.1.data⟩, h.2.1, h.2.2⟩)
    (st_i64_fit fun m v h0 h1 h => ⟨⟨h.1.digest, h0, h1, h.1.iat0, h.1.iat1, h.1.iN0, h.1.iN1, h.1.key, h.1.data⟩, h.2.1, h.2.2⟩)
    (st_num_fit fun m v h => ⟨⟨h.1.digest, h.1.at0, h.1.at1, h.1.iat0, h.1.iat1, h.1.iN0, h.1.iN1, h.1.key, h.1.data⟩, h.2.1, h.2.2⟩)
    (st_num_fit fun m v h => ⟨⟨h.1.digest, h.1.at0, h.1.at1, h.1.iat0, h.1.iat1, h.1.iN0, h.1.iN1, h.1.key, h.1.data⟩, h.2.1, h.2.2⟩)
    (st_num_fit fun m v h => ⟨⟨h.1.digest, h.1.at0, h.1.at1, h.1.iat0, h.1.iat1, h.1.iN0, h.1.iN1, h.1.key, h.1.data⟩, h.2.1, h.2.2⟩)
    (st_byte_fit fun m v hv h => ⟨⟨h.1.digest, h.1.at0, h.1.at1, h.1.iat0, h.1.iat1, h.1.iN0, h.1.iN1, h.1.key, h.1.data⟩, h.2.1, hv⟩)
    (st_text_fit (by decide) fun m v hv h => ⟨⟨h.1.digest, h.1.at0, h.1.at1, h.1.iat0, h.1.iat1, h.1.iN0, h.1.iN1, Nat.lt_of_le_of_lt hv (by decide), h.1.data⟩, h.2.1, h.2.2⟩)
    (st_num_fit fun m v h => ⟨⟨h.1.digest, h.1.at0, h.1.at1, h.1.iat0, h.1.iat1, h.1.iN0, h.1.iN1, h.1.key, h.1.data⟩, h.2.1, h.2.2⟩)
    (st_i64_fit fun m v h0 h1 h => ⟨⟨h.1.digest, h.1.at0, h.1.at1, h0, h1, h.1.iN0, h.1.iN1, h.1.key, h.1.data⟩, h.2.1, h.2.2⟩)
    (st_i64_fit fun m v h0 h1 h => ⟨⟨h.1.digest, h.1.at0, h.1.at1, h.1.iat0, h.1.iat1, h0, h1, h.1.key, h.1.data⟩, h.2.1, h.2.2⟩)
    (st_num_fit fun m v h => ⟨⟨h.1.digest, h.1.at0, h.1.at1, h.1.iat0, h.1.iat1, h.1.iN0, h.1.iN1, h.1.key, h.1.data⟩, h.2.1, h.2.2⟩)
    (st_num_fit fun m v h => ⟨⟨h.1.digest, h.1.at0, h.1.at1, h.1.iat0, h.1.iat1, h.1.iN0, h.1.iN1, h.1.key, h.1.data⟩, h.2.1, h.2.2⟩)
    (st_text_fit (by decide) fun m v hv h => ⟨⟨h.1.digest, h.1.at0, h.1.at1, h.1.iat0, h.1.iat1, h.1.iN0, h.1.iN1, h.1.key, Nat.lt_of_le_of_lt hv (by decide)⟩, h.2.1, h.2.2⟩)
    owner_fit set_fit (s := (n, m)) (s' := (n', m')) ⟨hn, hm⟩ h
theorem zero_fit : FitK PMsg.zero := ⟨zero_fits, by decide, by decide⟩
theorem read_fit {m : PMsg} (h : readM b = .ok m) : FitK m := by
  unfold readM readEnd at h
  split at h
  · cases h
  · rename_i n m' hx
    split at h
    · cases h
    · cases h
      exact (walk_fit (Nat.zero_le _) zero_fit hx).2
theorem back_fit : FitK (backM b) := by
  unfold backM
  split
  · rename_i m hm
    exact read_fit hm
  · exact zero_fit
end
end Go.Proofs.Ytmmhchpilcjflaa
