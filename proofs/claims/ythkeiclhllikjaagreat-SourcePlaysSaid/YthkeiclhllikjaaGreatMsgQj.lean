/-
  What is written is read back: numbers.
-/
import Derived.Test.YthkeiclhllikjaaGreatMsgQi
set_option linter.unusedSimpArgs false
set_option linter.unusedVariables false
namespace Go.Proofs.YthkeiclhllikjaaGreat
open Go.RowKit
theorem rd_vbytes : ∀ (n : Nat) (x i acc : Nat) (t : List Nat), x ≤ n → i ≤ 9 → x * 2 ^ (7 * i) < 18446744073709551616 → (x = 0 → i = 0) →
  rd i acc (vbytes x ++ t) = .ok (acc + x * 2 ^ (7 * i), i + (vbytes x).length) := by
 intro n
 induction n with
 | zero =>
  intro x i acc t hx hi hfit h0
  have : x = 0 := by omega
  subst this
  have hi0 := h0 rfl
  subst hi0
  rw [vbytes_small (by decide)]
  simp [rd]
 | succ n ih =>
  intro x i acc t hx hi hfit h0
  by_cases hs : x < 128
  ·rw [vbytes_small hs]
   simp only [List.cons_append, List.nil_append, rd, List.length_cons, List.length_nil]
   have h9 : ¬ (i = 9 ∧ 1 < x) := by
    rintro ⟨rfl, h1⟩
    have h2 : 2 * 2 ^ (7 * 9) ≤ x * 2 ^ (7 * 9) := Nat.mul_le_mul_right _ h1
    have h3 : 2 * 2 ^ (7 * 9) = 18446744073709551616 := by decide
    omega
   have hz : ¬ (x = 0 ∧ 0 < i) := fun ⟨h1, h2⟩ => by have := h0 h1; omega
   rw [if_neg (by omega), if_neg h9, if_pos hs, if_neg hz]
  ·rw [vbytes_big (by omega)]
   simp only [List.cons_append, rd]
   have hi8 : i ≤ 8 := by
    rcases Nat.lt_or_ge i 9 with h | h
    ·omega
    ·have : i = 9 := by omega
     subst this
     have h2 : 128 * 2 ^ (7 * 9) ≤ x * 2 ^ (7 * 9) := Nat.mul_le_mul_right _ (by omega)
     have h3 : 128 * 2 ^ (7 * 9) = 1180591620717411303424 := by decide
     omega
   have hdm : x = 128 * (x / 128) + x % 128 := (Nat.div_add_mod x 128).symm
   have hpow : (2 : Nat) ^ (7 * (i + 1)) = 128 * 2 ^ (7 * i) := by rw [show 7 * (i + 1) = 7 * i + 7 by omega, Nat.pow_add]; omega
   have hmul : x / 128 * 2 ^ (7 * (i + 1)) = 128 * (x / 128) * 2 ^ (7 * i) := by rw [hpow, ← Nat.mul_assoc, Nat.mul_comm (x / 128) 128]
   have hsum : x * 2 ^ (7 * i) = x / 128 * 2 ^ (7 * (i + 1)) + x % 128 * 2 ^ (7 * i) := by
    rw [hmul, ← Nat.add_mul, ← hdm]
   rw [if_neg (by omega), if_neg (by omega), if_neg (by omega), ih (x / 128) (i + 1) _ t (by omega) (by omega) (by omega) (by omega)]
   rw [show (x % 128 + 128) % 128 = x % 128 by omega]
   congr 1
   refine Prod.ext ?_ ?_
   ·show acc + x % 128 * 2 ^ (7 * i) + x / 128 * 2 ^ (7 * (i + 1)) = acc + x * 2 ^ (7 * i)
    omega
   ·show i + 1 + (vbytes (x / 128)).length = i + ((vbytes (x / 128)).length + 1)
    omega
theorem rd_back {x : Nat} (hx : x < 18446744073709551616) (t : List Nat) : rd 0 0 (vbytes x ++ t) = .ok (x, (vbytes x).length) := by
 have := rd_vbytes x x 0 0 t (Nat.le_refl _) (by decide) (by simpa using hx) (fun _ => rfl)
 simpa using this
theorem rd_canon : ∀ (l : List Nat) (i acc v z : Nat), i ≤ 9 → (∀ b ∈ l, b < 256) → rd i acc l = .ok (v, z) →
  ∃ x, v = acc + x * 2 ^ (7 * i) ∧ (x = 0 → i = 0) ∧ z = i + (vbytes x).length ∧ l.take (z - i) = vbytes x
 | [], i, acc, v, z, hi, hb, h => by simp [rd] at h
 | c :: t, i, acc, v, z, hi, hb, h => by
  rw [rd, if_neg (by omega)] at h
  by_cases h9 : i = 9 ∧ 1 < c
  ·rw [if_pos h9] at h; cases h
  rw [if_neg h9] at h
  by_cases hc : c < 128
  ·rw [if_pos hc] at h
   by_cases hz : c = 0 ∧ 0 < i
   ·rw [if_pos hz] at h; cases h
   ·rw [if_neg hz] at h
    cases h
    refine ⟨c, rfl, fun h0 => by omega, by rw [vbytes_small hc]; rfl, ?_⟩
    rw [vbytes_small hc, show i + 1 - i = 1 by omega]
    rfl
  ·rw [if_neg hc] at h
   have hcb : c < 256 := hb c (by simp)
   by_cases hi9 : i = 9
   ·omega
   ·obtain ⟨x, hv, hx0, hz, ht⟩ := rd_canon t (i + 1) _ v z (by omega) (fun b hb' => hb b (by simp [hb'])) h
    have hx1 : x ≠ 0 := fun h0 => by have := hx0 h0; omega
    have hbig : 128 ≤ 128 * x + c % 128 := by omega
    have e1 : (128 * x + c % 128) % 128 + 128 = c := by omega
    have e2 : (128 * x + c % 128) / 128 = x := by omega
    refine ⟨128 * x + c % 128, ?_, fun h0 => by omega, ?_, ?_⟩
    ·have hpow : (2 : Nat) ^ (7 * (i + 1)) = 128 * 2 ^ (7 * i) := by rw [show 7 * (i + 1) = 7 * i + 7 by omega, Nat.pow_add]; omega
     rw [hv, hpow, Nat.add_mul]
     have : x * (128 * 2 ^ (7 * i)) = 128 * x * 2 ^ (7 * i) := by rw [← Nat.mul_assoc, Nat.mul_comm x 128]
     omega
    ·rw [vbytes_big hbig, e1, e2, List.length_cons, hz]
     omega
    ·rw [vbytes_big hbig, e1, e2, show z - i = (z - (i + 1)) + 1 by omega, List.take_succ_cons, ht]
theorem rd_just {l : List Nat} {v z : Nat} (hb : ∀ b ∈ l, b < 256) (h : rd 0 0 l = .ok (v, z)) : z = (vbytes v).length ∧ l.take z = vbytes v := by
 obtain ⟨x, hv, _, hz, ht⟩ := rd_canon l 0 0 v z (by decide) hb h
 have : v = x := by simpa using hv
 subst this
 exact ⟨by simpa using hz, by simpa using ht⟩
theorem zag_zig (n : Int) : zag (zig n) = n := by
 unfold zig zag
 split
 ·rw [if_pos (by omega)]; omega
 ·rw [if_neg (by omega)]; omega
theorem zig_zag (x : Nat) : zig (zag x) = x := by
 unfold zag
 split
 ·unfold zig; rw [if_pos (by omega)]; omega
 ·unfold zig; rw [if_neg (by omega)]; omega
end Go.Proofs.YthkeiclhllikjaaGreat
/-
 What a walk writes is read back: step by step, and over a whole message.
-/
namespace Go.Proofs.YthkeiclhllikjaaGreat
open Go.RowKit
structure Pr where
 w : List Nat × PMsg → Except Int (List Nat × PMsg)
 r : ByteArray → Nat × PMsg → Except Int (Nat × PMsg)
 u : PMsg → PMsg → PMsg
def Fwd (m : PMsg) (p : Pr) : Prop := ∀ xs ys m', p.w (xs, m) = .ok (ys, m') → m' = m ∧ (∃ e, ys = xs ++ e) ∧ ∀ b rest mr, bytesOf b = ys ++ rest → p.r b (xs.length, mr) = .ok (ys.length, p.u m mr)
def runL {σ : Type} : List (σ × PMsg → Except Int (σ × PMsg)) → σ × PMsg → Except Int (σ × PMsg)
 | [], s => .ok s
 | f :: fs, s => match f s with
  | .ok s' => runL fs s'
  | .error e => .error e
theorem runS_runL (K : WSem) : ∀ (fs : List (Stp K)) (s : K.σ × PMsg), runS K fs s = runL fs s
 | [], s => rfl
 | f :: fs, s => by
  rw [runS, runL]
  cases f s with
  | ok s' => exact runS_runL K fs s'
  | error e => rfl
def updL (m : PMsg) : List Pr → PMsg → PMsg
 | [], mr => mr
 | p :: ps, mr => updL m ps (p.u m mr)
theorem drop_mid {b : ByteArray} {xs e rest : List Nat} (h : bytesOf b = xs ++ e ++ rest) : (bytesOf b).drop xs.length = e ++ rest := by
 rw [h, List.append_assoc, List.drop_left]
theorem numR_back {b : ByteArray} {xs rest : List Nat} {x : Nat} (hx : x < 18446744073709551616) (h : bytesOf b = xs ++ vbytes x ++ rest) : numR b xs.length = .ok (x, (xs ++ vbytes x).length) := by
 unfold numR
 rw [drop_mid h, rd_back hx]
 simp
theorem mostR_back {b : ByteArray} {xs rest : List Nat} {x m : Nat} (hm : x ≤ m) (hm2 : m < 18446744073709551616) (h : bytesOf b = xs ++ vbytes x ++ rest) : mostR b xs.length m = .ok (x, (xs ++ vbytes x).length) := by
 unfold mostR
 rw [drop_mid h, rd_back (by omega)]
 simp [hm]
theorem size_of {b : ByteArray} {l : List Nat} (h : bytesOf b = l) : b.size = l.length := by rw [← h, bytes_len]
theorem extract_eq {b s : ByteArray} {xs rest : List Nat} (h : bytesOf b = xs ++ bytesOf s ++ rest) : b.extract xs.length (xs.length + s.size) = s := by
 have h1 : bytesOf (b.extract xs.length (xs.length + s.size)) = bytesOf s := by
  have e : bytesOf (b.extract xs.length (xs.length + s.size)) = ((bytesOf b).drop xs.length).take s.size := by
   simp only [bytesOf, ByteArray.data_extract, Array.toList_extract, List.extract_eq_take_drop, List.map_take, List.map_drop]
   rw [show xs.length + s.size - xs.length = s.size by omega]
  rw [e, drop_mid h, ← bytes_len s, List.take_left]
 have h2 : ∀ (x y : List UInt8), x.map (·.toNat) = y.map (·.toNat) → x = y := by
  intro x
  induction x with
  | nil => intro y hy; cases y with
   | nil => rfl
   | cons _ _ => simp at hy
  | cons a x ih =>
   intro y hy
   cases y with
   | nil => simp at hy
   | cons c y =>
    simp only [List.map_cons, List.cons.injEq] at hy
    rw [UInt8.toNat_inj.1 hy.1, ih y hy.2]
 have h3 := h2 _ _ h1
 cases hb : b.extract xs.length (xs.length + s.size) with
 | mk d =>
  cases s with
  | mk d2 =>
   rw [hb] at h3
   simp only at h3
   rw [Array.toList_inj.1 h3]
theorem st_num_ok {K : WSem} {g : PMsg → Int} {u : PMsg → Int → PMsg} {s : K.σ × PMsg} {x : Int × K.σ} (h : K.num s.1 (g s.2) = .ok x) : st_num K g u s = .ok (x.2, u s.2 x.1) := by
 unfold st_num
 rw [h]
theorem st_byte_ok {K : WSem} {g : PMsg → Nat} {u : PMsg → Nat → PMsg} {s : K.σ × PMsg} {x : Nat × K.σ} (h : K.byte s.1 (g s.2) = .ok x) : st_byte K g u s = .ok (x.2, u s.2 x.1) := by
 unfold st_byte
 rw [h]
theorem st_i64_ok {K : WSem} {g : PMsg → Int} {u : PMsg → Int → PMsg} {s : K.σ × PMsg} {x : Int × K.σ} (h : K.i64 s.1 (g s.2) = .ok x) : st_i64 K g u s = .ok (x.2, u s.2 x.1) := by
 unfold st_i64
 rw [h]
theorem st_u64_ok {K : WSem} {g : PMsg → Nat} {u : PMsg → Nat → PMsg} {s : K.σ × PMsg} {x : Nat × K.σ} (h : K.u64 s.1 (g s.2) = .ok x) : st_u64 K g u s = .ok (x.2, u s.2 x.1) := by
 unfold st_u64
 rw [h]
theorem st_text_ok {K : WSem} {g : PMsg → ByteArray} {u : PMsg → ByteArray → PMsg} {most : Int} {s : K.σ × PMsg} {x : ByteArray × K.σ} (h : K.text s.1 (g s.2) most = .ok x) : st_text K g u most s = .ok (x.2, u s.2 x.1) := by
 unfold st_text
 rw [h]
theorem fwd_num {m : PMsg} {g : PMsg → Int} {u : PMsg → Int → PMsg} (hu : u m (g m) = m) : Fwd m ⟨st_num wSem g u, fun b => st_num (rSem b) g u, fun m mr => u mr (g m)⟩ := by
 intro xs ys m' h
 change st_num wSem g u (xs, m) = _ at h
 unfold st_num at h
 split at h
 rotate_left
 ·cases h
 rename_i x hx
 obtain ⟨v, (zs : List Nat)⟩ := x
 cases h
 obtain ⟨rfl, h0, h1, rfl⟩ := wNum_ok (hx : wNum xs _ = _)
 refine ⟨hu, ⟨_, rfl⟩, fun b rest mr hb => ?_⟩
 replace h0 : 0 ≤ g m := h0
 replace h1 : g m ≤ 2147483647 := h1
 replace hb : bytesOf b = xs ++ vbytes (g m).toNat ++ rest := hb
 have hr := mostR_back (m := 2147483647) (x := (g m).toNat) (by omega) (by decide) hb
 have hr2 : rNum b xs.length = .ok (g m, (xs ++ vbytes (g m).toNat).length) := by
  rw [rNum, hr]
  simp only [Int.toNat_of_nonneg h0]
 exact st_num_ok (K := rSem b) (s := (xs.length, mr)) hr2
theorem fwd_byte {m : PMsg} {g : PMsg → Nat} {u : PMsg → Nat → PMsg} (hu : u m (g m) = m) : Fwd m ⟨st_byte wSem g u, fun b => st_byte (rSem b) g u, fun m mr => u mr (g m)⟩ := by
 intro xs ys m' h
 change st_byte wSem g u (xs, m) = _ at h
 unfold st_byte at h
 split at h
 rotate_left
 ·cases h
 rename_i x hx
 obtain ⟨v, (zs : List Nat)⟩ := x
 cases h
 cases hx
 refine ⟨hu, ⟨_, rfl⟩, fun b rest mr hb => ?_⟩
 have hs := size_of hb
 simp only [List.length_append, List.length_cons, List.length_nil] at hs
 have hd := drop_mid hb
 have hg : (bytesOf b).getD xs.length 0 = g m := by
  rw [hb]
  simp [List.getD]
 have hr2 : rByte b xs.length = .ok (g m, (xs ++ [g m]).length) := by
  rw [rByte, if_pos (by omega), hg]
  simp
 exact st_byte_ok (K := rSem b) (s := (xs.length, mr)) hr2
theorem fwd_i64 {m : PMsg} {g : PMsg → Int} {u : PMsg → Int → PMsg} (hu : u m (g m) = m) (h0 : -9223372036854775808 ≤ g m) (h1 : g m < 9223372036854775808) : Fwd m ⟨st_i64 wSem g u, fun b => st_i64 (rSem b) g u, fun m mr => u mr (g m)⟩ := by
 intro xs ys m' h
 change st_i64 wSem g u (xs, m) = _ at h
 unfold st_i64 at h
 split at h
 rotate_left
 ·cases h
 rename_i x hx
 obtain ⟨v, (zs : List Nat)⟩ := x
 cases h
 cases hx
 refine ⟨hu, ⟨_, rfl⟩, fun b rest mr hb => ?_⟩
 replace hb : bytesOf b = xs ++ vbytes (zig (g m)) ++ rest := hb
 have hr2 : rI64 b xs.length = .ok (g m, (xs ++ vbytes (zig (g m))).length) := by
  rw [rI64, numR_back (by unfold zig; split <;> omega) hb]
  simp only [zag_zig]
 exact st_i64_ok (K := rSem b) (s := (xs.length, mr)) hr2
theorem fwd_u64 {m : PMsg} {g : PMsg → Nat} {u : PMsg → Nat → PMsg} (hu : u m (g m) = m) (h1 : g m < 18446744073709551616) : Fwd m ⟨st_u64 wSem g u, fun b => st_u64 (rSem b) g u, fun m mr => u mr (g m)⟩ := by
 intro xs ys m' h
 change st_u64 wSem g u (xs, m) = _ at h
 unfold st_u64 at h
 split at h
 rotate_left
 ·cases h
 rename_i x hx
 obtain ⟨v, (zs : List Nat)⟩ := x
 cases h
 cases hx
 refine ⟨hu, ⟨_, rfl⟩, fun b rest mr hb => ?_⟩
 exact st_u64_ok (K := rSem b) (s := (xs.length, mr)) (numR_back h1 hb)
theorem fwd_text {m : PMsg} {g : PMsg → ByteArray} {u : PMsg → ByteArray → PMsg} {most : Int} (hu : u m (g m) = m) (hm : most < 18446744073709551616) : Fwd m ⟨st_text wSem g u most, fun b => st_text (rSem b) g u most, fun m mr => u mr (g m)⟩ := by
 intro xs ys m' h
 change st_text wSem g u most (xs, m) = _ at h
 unfold st_text at h
 split at h
 rotate_left
 ·cases h
 rename_i x hx
 obtain ⟨v, (zs : List Nat)⟩ := x
 cases h
 obtain ⟨rfl, h1, rfl⟩ := wText_ok (hx : wText xs _ _ = _)
 refine ⟨hu, ⟨_, List.append_assoc _ _ _⟩, fun b rest mr hb => ?_⟩
 replace h1 : ((g m).size : Int) ≤ most := h1
 replace hb : bytesOf b = xs ++ vbytes (g m).size ++ bytesOf (g m) ++ rest := hb
 have hb1 : bytesOf b = xs ++ vbytes (g m).size ++ (bytesOf (g m) ++ rest) := by rw [hb]; simp
 have hs := size_of hb
 simp only [List.length_append, bytesOf_len] at hs
 have hr2 : textR b xs.length most.toNat = .ok (g m, (xs ++ vbytes (g m).size ++ bytesOf (g m)).length) := by
  unfold textR
  rw [mostR_back (x := (g m).size) (by omega) (by omega) hb1]
  simp only
  rw [if_pos (by simp only [List.length_append]; omega), extract_eq hb]
  simp [bytesOf_len, Nat.add_assoc]
 exact st_text_ok (K := rSem b) (s := (xs.length, mr)) hr2
end Go.Proofs.YthkeiclhllikjaaGreat
/-
 Lists, and whole messages, that are written are read back.
-/
namespace Go.Proofs.YthkeiclhllikjaaGreat
open Go.RowKit
theorem pad_self (l : List Int) : (List.range l.length).map (fun j => l.getD j 0) = l := by
 apply List.ext_getElem
 ·simp
 ·intro i h1 h2
  simp at h1
  simp [h1]
theorem loopM_cons {K : WSem} {st st' st2 : K.σ} {x v : Int} {xs vs : List Int} (h : K.num st x = .ok (v, st')) (h2 : loopM K st' xs = .ok (vs, st2)) : loopM K st (x :: xs) = .ok (v :: vs, st2) := by
 rw [loopM, h]
 simp only
 rw [h2]
theorem loop_fwd : ∀ (l : List Int) (xs ys : wSem.σ) (vs : List Int), loopM wSem xs l = .ok (vs, ys) →
  vs = l ∧ (∃ e, (ys : List Nat) = List.append xs e) ∧ ∀ (b : ByteArray) (rest : List Nat) (l' : List Int), l'.length = l.length → bytesOf b = List.append ys rest → loopM (rSem b) (List.length xs) l' = .ok (l, List.length ys)
 | [], xs, ys, vs, h => by
  cases h
  exact ⟨rfl, ⟨[], (List.append_nil _).symm⟩, fun b rest l' hl hb => by
   have : l' = [] := List.eq_nil_of_length_eq_zero (by simpa using hl)
   subst this
   rfl⟩
 | x :: l, xs, ys, vs, h => by
  rw [loopM] at h
  split at h
  ·cases h
  ·rename_i v st' hx
   obtain ⟨hvx, h0, h1, (rfl : (st' : List Nat) = _)⟩ := wNum_ok (hx : wNum xs _ = _)
   split at h
   ·cases h
   ·rename_i vs2 st2 hy
    cases h
    obtain ⟨rfl, ⟨e, (he : (ys : List Nat) = _)⟩, hr⟩ := loop_fwd l _ ys _ hy
    refine ⟨by rw [hvx], ⟨vbytes x.toNat ++ e, by rw [he]; exact List.append_assoc xs (vbytes x.toNat) e⟩, fun b rest l' hl hb => ?_⟩
    match l', hl with
    | y :: l', hl =>
     have hb1 : bytesOf b = List.append xs (vbytes x.toNat) ++ (e ++ rest) := by rw [hb, he]; exact List.append_assoc _ e rest
     have hn : rNum b (List.length xs) = .ok (x, (List.append xs (vbytes x.toNat)).length) := by
      rw [rNum, mostR_back (m := 2147483647) (x := x.toNat) (by omega) (by decide) hb1]
      simp only [Int.toNat_of_nonneg h0]
      rfl
     have hn2 : (rSem b).num (List.length xs) y = .ok (x, (List.append xs (vbytes x.toNat)).length) := hn
     exact loopM_cons (K := rSem b) hn2 (hr b rest l' (by simpa using hl) hb)
theorem nums_fwd {l vs : List Int} {xs ys : List Nat} {most : Int} (hm : most ≤ 1024) (h : (numsM wSem xs l most : Except Int (List Int × List Nat)) = .ok (vs, ys)) :
  vs = l ∧ (∃ e, ys = xs ++ e) ∧ ∀ (b : ByteArray) (rest : List Nat), bytesOf b = ys ++ rest → (numsM (rSem b) xs.length [] most : Except Int (List Int × Nat)) = .ok (l, ys.length) := by
 unfold numsM at h
 split at h
 ·cases h
 ·rename_i v st' hx
  obtain ⟨rfl, h1, (rfl : (st' : List Nat) = _)⟩ := wCount_ok (hx : wCount xs _ _ = _)
  rw [Int.toNat_natCast, pad_self] at h
  obtain ⟨rfl, ⟨e, he⟩, hr⟩ := loop_fwd _ _ _ _ h
  refine ⟨rfl, ⟨vbytes vs.length ++ e, by rw [he]; exact List.append_assoc _ _ _⟩, fun b rest hb => ?_⟩
  have hb1 : bytesOf b = xs ++ vbytes vs.length ++ (e ++ rest) := by rw [hb, he]; exact List.append_assoc _ e rest
  have hc : (rSem b).count xs.length (([] : List Int).length : Int) most = .ok ((vs.length : Int), (xs ++ vbytes vs.length).length) := by
   show rCount b xs.length most = _
   rw [rCount, mostR_back (x := vs.length) (by omega) (by omega) hb1]
   rfl
  unfold numsM
  rw [hc]
  simp only [Int.toNat_natCast]
  exact hr b rest _ (by simp) hb
theorem owner_ok {K : WSem} {s : K.σ × PMsg} {x : List Int × K.σ} (h : numsM K s.1 s.2.owner 64 = .ok x) : s_owner K s = .ok (x.2, { s.2 with owner := x.1 }) := by
 unfold s_owner
 rw [h]
theorem fwd_owner (m : PMsg) : ∀ (xs ys : List Nat) (m' : PMsg), s_owner wSem (xs, m) = .ok (ys, m') → m' = m ∧ (∃ e, ys = xs ++ e) ∧ ∀ (b : ByteArray) (rest : List Nat) (mr : PMsg), mr.owner = [] → bytesOf b = ys ++ rest → s_owner (rSem b) (xs.length, mr) = .ok (ys.length, { mr with owner := m.owner }) := by
 intro xs ys m' h
 unfold s_owner at h
 split at h
 rotate_left
 ·cases h
 rename_i x hx
 obtain ⟨v, (zs : List Nat)⟩ := x
 cases h
 obtain ⟨rfl, he, hr⟩ := nums_fwd (most := 64) (by decide) hx
 refine ⟨rfl, he, fun b rest mr hm hb => ?_⟩
 have h2 := hr b rest hb
 rw [← hm] at h2
 exact owner_ok (K := rSem b) (s := (xs.length, mr)) (x := (m.owner, _)) h2
theorem set_ok {K : WSem} {s : K.σ × PMsg} {x : List Int × K.σ} (h : numsM K s.1 s.2.set 1024 = .ok x) : s_set K s = .ok (x.2, { s.2 with set := x.1 }) := by
 unfold s_set
 rw [h]
theorem fwd_set (m : PMsg) : ∀ (xs ys : List Nat) (m' : PMsg), s_set wSem (xs, m) = .ok (ys, m') → m' = m ∧ (∃ e, ys = xs ++ e) ∧ ∀ (b : ByteArray) (rest : List Nat) (mr : PMsg), mr.set = [] → bytesOf b = ys ++ rest → s_set (rSem b) (xs.length, mr) = .ok (ys.length, { mr with set := m.set }) := by
 intro xs ys m' h
 unfold s_set at h
 split at h
 rotate_left
 ·cases h
 rename_i x hx
 obtain ⟨v, (zs : List Nat)⟩ := x
 cases h
 obtain ⟨rfl, he, hr⟩ := nums_fwd (most := 1024) (by decide) hx
 refine ⟨rfl, he, fun b rest mr hm hb => ?_⟩
 have h2 := hr b rest hb
 rw [← hm] at h2
 exact set_ok (K := rSem b) (s := (xs.length, mr)) (x := (m.set, _)) h2
end Go.Proofs.YthkeiclhllikjaaGreat
/-
 A message that is written is read back, with the fields of its kind.
-/
namespace Go.Proofs.YthkeiclhllikjaaGreat
open Go.RowKit
def FwdE (m : PMsg) (p : Pr) : Prop := Fwd m p ∧ ∀ mr, (p.u m mr).owner = mr.owner ∧ (p.u m mr).set = mr.set
def FwdL (m : PMsg) (q : Pr) : Prop := ∀ (xs ys : List Nat) (m' : PMsg), q.w (xs, m) = .ok (ys, m') → m' = m ∧ (∃ e, ys = xs ++ e) ∧ ∀ (b : ByteArray) (rest : List Nat) (mr : PMsg), mr.owner = [] → mr.set = [] → bytesOf b = ys ++ rest → q.r b (xs.length, mr) = .ok (ys.length, q.u m mr)
theorem Fwd.l {m : PMsg} {p : Pr} (h : Fwd m p) : FwdL m p := fun xs ys m' hw => by
 obtain ⟨h1, h2, h3⟩ := h xs ys m' hw
 exact ⟨h1, h2, fun b rest mr _ _ hb => h3 b rest mr hb⟩
def Row (m : PMsg) : List Pr → Prop
 | [] => True
 | [q] => FwdL m q
 | p :: ps => FwdE m p ∧ Row m ps
theorem fwd_row {m : PMsg} : ∀ (ps : List Pr), Row m ps → ∀ xs ys m', runL (ps.map (·.w)) (xs, m) = .ok (ys, m') →
  m' = m ∧ (∃ e, ys = xs ++ e) ∧ ∀ b rest mr, mr.owner = [] → mr.set = [] → bytesOf b = ys ++ rest → runL (ps.map (fun p => p.r b)) (xs.length, mr) = .ok (ys.length, updL m ps mr)
 | [], _, xs, ys, m', h => by
  cases h
  exact ⟨rfl, ⟨[], by simp⟩, fun b rest mr _ _ hb => rfl⟩
 | [q], hq, xs, ys, m', h => by
  simp only [List.map_cons, List.map_nil, runL] at h
  cases hc : q.w (xs, m) with
  | error e => rw [hc] at h; cases h
  | ok s1 =>
   obtain ⟨zs, m1⟩ := s1
   rw [hc] at h
   cases h
   obtain ⟨rfl, he, hr⟩ := hq _ _ _ hc
   refine ⟨rfl, he, fun b rest mr ho hs hb => ?_⟩
   simp only [List.map_cons, List.map_nil, runL]
   rw [hr b rest mr ho hs hb]
   rfl
 | p :: p2 :: ps, hp, xs, ys, m', h => by
  obtain ⟨⟨hf, hk⟩, hrest⟩ := hp
  simp only [List.map_cons, runL] at h
  cases hc : p.w (xs, m) with
  | error e => rw [hc] at h; cases h
  | ok s1 =>
   obtain ⟨zs, m1⟩ := s1
   rw [hc] at h
   obtain ⟨rfl, ⟨e1, rfl⟩, hr1⟩ := hf _ _ _ hc
   obtain ⟨rfl, ⟨e2, rfl⟩, hr2⟩ := fwd_row (p2 :: ps) hrest _ _ _ h
   refine ⟨rfl, ⟨e1 ++ e2, by simp⟩, fun b rest mr ho hs hb => ?_⟩
   have h1 := hr1 b (e2 ++ rest) mr (by rw [hb]; simp)
   have h2 := hr2 b rest (p.u m' mr) (by rw [(hk mr).1]; exact ho) (by rw [(hk mr).2]; exact hs) hb
   simp only [List.map_cons, runL]
   rw [h1]
   exact h2
def pr_kind : Pr := ⟨s_kind wSem, fun b => s_kind (rSem b), fun m mr => { mr with kind := m.kind }⟩
def pr_move : Pr := ⟨s_move wSem, fun b => s_move (rSem b), fun m mr => { mr with move := m.move }⟩
def pr_part : Pr := ⟨s_part wSem, fun b => s_part (rSem b), fun m mr => { mr with part := m.part }⟩
def pr_to : Pr := ⟨s_to wSem, fun b => s_to (rSem b), fun m mr => { mr with «to» := m.«to» }⟩
def pr_n : Pr := ⟨s_n wSem, fun b => s_n (rSem b), fun m mr => { mr with n := m.n }⟩
def pr_count : Pr := ⟨s_count wSem, fun b => s_count (rSem b), fun m mr => { mr with count := m.count }⟩
def pr_code : Pr := ⟨s_code wSem, fun b => s_code (rSem b), fun m mr => { mr with code := m.code }⟩
def pr_digest : Pr := ⟨s_digest wSem, fun b => s_digest (rSem b), fun m mr => { mr with digest := m.digest }⟩
def pr_at_ : Pr := ⟨s_at_ wSem, fun b => s_at_ (rSem b), fun m mr => { mr with at_ := m.at_ }⟩
def pr_isrc : Pr := ⟨s_isrc wSem, fun b => s_isrc (rSem b), fun m mr => { mr with isrc := m.isrc }⟩
def pr_iseq : Pr := ⟨s_iseq wSem, fun b => s_iseq (rSem b), fun m mr => { mr with iseq := m.iseq }⟩
def pr_ilow : Pr := ⟨s_ilow wSem, fun b => s_ilow (rSem b), fun m mr => { mr with ilow := m.ilow }⟩
def pr_ikind : Pr := ⟨s_ikind wSem, fun b => s_ikind (rSem b), fun m mr => { mr with ikind := m.ikind }⟩
def pr_ikey : Pr := ⟨s_ikey wSem, fun b => s_ikey (rSem b), fun m mr => { mr with ikey := m.ikey }⟩
def pr_ipart : Pr := ⟨s_ipart wSem, fun b => s_ipart (rSem b), fun m mr => { mr with ipart := m.ipart }⟩
def pr_iat : Pr := ⟨s_iat wSem, fun b => s_iat (rSem b), fun m mr => { mr with iat := m.iat }⟩
def pr_iN : Pr := ⟨s_iN wSem, fun b => s_iN (rSem b), fun m mr => { mr with iN := m.iN }⟩
def pr_epoch : Pr := ⟨s_epoch wSem, fun b => s_epoch (rSem b), fun m mr => { mr with epoch := m.epoch }⟩
def pr_nodes : Pr := ⟨s_nodes wSem, fun b => s_nodes (rSem b), fun m mr => { mr with nodes := m.nodes }⟩
def pr_data : Pr := ⟨s_data wSem, fun b => s_data (rSem b), fun m mr => { mr with data := m.data }⟩
def pr_owner : Pr := ⟨s_owner wSem, fun b => s_owner (rSem b), fun m mr => { mr with owner := m.owner }⟩
def pr_set : Pr := ⟨s_set wSem, fun b => s_set (rSem b), fun m mr => { mr with set := m.set }⟩
section
variable {m : PMsg}
theorem e_kind (hf : m.Fits) : FwdE m pr_kind := ⟨fwd_byte rfl, fun mr => ⟨rfl, rfl⟩⟩
theorem e_move (hf : m.Fits) : FwdE m pr_move := ⟨fwd_num rfl, fun mr => ⟨rfl, rfl⟩⟩
theorem e_part (hf : m.Fits) : FwdE m pr_part := ⟨fwd_num rfl, fun mr => ⟨rfl, rfl⟩⟩
theorem e_to (hf : m.Fits) : FwdE m pr_to := ⟨fwd_num rfl, fun mr => ⟨rfl, rfl⟩⟩
theorem e_n (hf : m.Fits) : FwdE m pr_n := ⟨fwd_num rfl, fun mr => ⟨rfl, rfl⟩⟩
theorem e_count (hf : m.Fits) : FwdE m pr_count := ⟨fwd_num rfl, fun mr => ⟨rfl, rfl⟩⟩
theorem e_code (hf : m.Fits) : FwdE m pr_code := ⟨fwd_num rfl, fun mr => ⟨rfl, rfl⟩⟩
theorem e_digest (hf : m.Fits) : FwdE m pr_digest := ⟨fwd_u64 rfl hf.digest, fun mr => ⟨rfl, rfl⟩⟩
theorem e_at_ (hf : m.Fits) : FwdE m pr_at_ := ⟨fwd_i64 rfl hf.at0 hf.at1, fun mr => ⟨rfl, rfl⟩⟩
theorem e_isrc (hf : m.Fits) : FwdE m pr_isrc := ⟨fwd_num rfl, fun mr => ⟨rfl, rfl⟩⟩
theorem e_iseq (hf : m.Fits) : FwdE m pr_iseq := ⟨fwd_num rfl, fun mr => ⟨rfl, rfl⟩⟩
theorem e_ilow (hf : m.Fits) : FwdE m pr_ilow := ⟨fwd_num rfl, fun mr => ⟨rfl, rfl⟩⟩
theorem e_ikind (hf : m.Fits) : FwdE m pr_ikind := ⟨fwd_byte rfl, fun mr => ⟨rfl, rfl⟩⟩
theorem e_ikey (hf : m.Fits) : FwdE m pr_ikey := ⟨fwd_text rfl (by decide), fun mr => ⟨rfl, rfl⟩⟩
theorem e_ipart (hf : m.Fits) : FwdE m pr_ipart := ⟨fwd_num rfl, fun mr => ⟨rfl, rfl⟩⟩
theorem e_iat (hf : m.Fits) : FwdE m pr_iat := ⟨fwd_i64 rfl hf.iat0 hf.iat1, fun mr => ⟨rfl, rfl⟩⟩
theorem e_iN (hf : m.Fits) : FwdE m pr_iN := ⟨fwd_i64 rfl hf.iN0 hf.iN1, fun mr => ⟨rfl, rfl⟩⟩
theorem e_epoch (hf : m.Fits) : FwdE m pr_epoch := ⟨fwd_num rfl, fun mr => ⟨rfl, rfl⟩⟩
theorem e_nodes (hf : m.Fits) : FwdE m pr_nodes := ⟨fwd_num rfl, fun mr => ⟨rfl, rfl⟩⟩
theorem e_data (hf : m.Fits) : FwdE m pr_data := ⟨fwd_text rfl (by decide), fun mr => ⟨rfl, rfl⟩⟩
theorem l_owner : FwdL m pr_owner := fun xs ys m' h => by
 obtain ⟨h1, h2, h3⟩ := fwd_owner m xs ys m' h
 exact ⟨h1, h2, fun b rest mr ho _ hb => h3 b rest mr ho hb⟩
theorem l_set : FwdL m pr_set := fun xs ys m' h => by
 obtain ⟨h1, h2, h3⟩ := fwd_set m xs ys m' h
 exact ⟨h1, h2, fun b rest mr _ hs hb => h3 b rest mr hs hb⟩
def prs (c : Nat) : List Pr :=
 match c with
 | 1 => [pr_isrc, pr_iseq, pr_ilow, pr_ikind, pr_ikey, pr_ipart, pr_iat, pr_iN]
 | 2 => [pr_isrc, pr_iseq, pr_code]
 | 3 => [pr_isrc, pr_iseq, pr_epoch, pr_nodes, pr_owner]
 | 4 => [pr_move, pr_part, pr_to]
 | 5 => [pr_move, pr_part, pr_n, pr_count, pr_data]
 | 6 => [pr_move, pr_part, pr_n, pr_set]
 | 7 => [pr_move, pr_part, pr_n, pr_isrc, pr_iseq, pr_ilow, pr_ikind, pr_ikey, pr_ipart, pr_iat, pr_iN]
 | 8 => [pr_move, pr_part, pr_n]
 | 9 => [pr_move, pr_part, pr_n, pr_at_, pr_digest]
 | 10 => [pr_move, pr_part, pr_code]
 | 11 => [pr_move, pr_part, pr_epoch, pr_nodes, pr_owner]
 | 12 => [pr_move, pr_part]
 | 13 => [pr_move, pr_part]
 | 14 => [pr_epoch, pr_nodes, pr_owner]
 | _ => []
theorem prs_row (hf : m.Fits) (c : Nat) : Row m (prs c) := by
 unfold prs
 split
 ·exact ⟨e_isrc hf, e_iseq hf, e_ilow hf, e_ikind hf, e_ikey hf, e_ipart hf, e_iat hf, (e_iN hf).1.l⟩
 ·exact ⟨e_isrc hf, e_iseq hf, (e_code hf).1.l⟩
 ·exact ⟨e_isrc hf, e_iseq hf, e_epoch hf, e_nodes hf, l_owner⟩
 ·exact ⟨e_move hf, e_part hf, (e_to hf).1.l⟩
 ·exact ⟨e_move hf, e_part hf, e_n hf, e_count hf, (e_data hf).1.l⟩
 ·exact ⟨e_move hf, e_part hf, e_n hf, l_set⟩
 ·exact ⟨e_move hf, e_part hf, e_n hf, e_isrc hf, e_iseq hf, e_ilow hf, e_ikind hf, e_ikey hf, e_ipart hf, e_iat hf, (e_iN hf).1.l⟩
 ·exact ⟨e_move hf, e_part hf, (e_n hf).1.l⟩
 ·exact ⟨e_move hf, e_part hf, e_n hf, e_at_ hf, (e_digest hf).1.l⟩
 ·exact ⟨e_move hf, e_part hf, (e_code hf).1.l⟩
 ·exact ⟨e_move hf, e_part hf, e_epoch hf, e_nodes hf, l_owner⟩
 ·exact ⟨e_move hf, (e_part hf).1.l⟩
 ·exact ⟨e_move hf, (e_part hf).1.l⟩
 ·exact ⟨e_epoch hf, e_nodes hf, l_owner⟩
 ·trivial
theorem prs_w : ∀ c : Nat, (prs c).map (·.w) = walkS wSem c
 | 0 => rfl
 | 1 => rfl
 | 2 => rfl
 | 3 => rfl
 | 4 => rfl
 | 5 => rfl
 | 6 => rfl
 | 7 => rfl
 | 8 => rfl
 | 9 => rfl
 | 10 => rfl
 | 11 => rfl
 | 12 => rfl
 | 13 => rfl
 | 14 => rfl
 | n + 15 => rfl
theorem prs_r (b : ByteArray) : ∀ c : Nat, (prs c).map (fun p => p.r b) = walkS (rSem b) c
 | 0 => rfl
 | 1 => rfl
 | 2 => rfl
 | 3 => rfl
 | 4 => rfl
 | 5 => rfl
 | 6 => rfl
 | 7 => rfl
 | 8 => rfl
 | 9 => rfl
 | 10 => rfl
 | 11 => rfl
 | 12 => rfl
 | 13 => rfl
 | 14 => rfl
 | n + 15 => rfl
def onlyM (m : PMsg) : PMsg := updL m (prs m.kind) { PMsg.zero with kind := m.kind }
theorem write_read {xs : List Nat} {m' : PMsg} (hf : m.Fits) (h : (walkM wSem (([] : List Nat), m) : Except Int (List Nat × PMsg)) = .ok (xs, m')) :
  1 ≤ m.kind ∧ m.kind ≤ 14 ∧ ∀ b, bytesOf b = xs → readM b = .ok (onlyM m) := by
 unfold walkM at h
 split at h
 ·cases h
 rename_i s1 hs1
 obtain ⟨(zs : List Nat), m1⟩ := s1
 obtain ⟨hm1, ⟨e, he⟩, hr⟩ := (e_kind hf).1 [] zs m1 hs1
 subst hm1
 split at h
 rotate_left
 ·cases h
 rename_i hk
 have h2 : runL ((prs m1.kind).map (·.w)) (zs, m1) = .ok (xs, m') := by
  rw [prs_w]
  exact (runS_runL wSem (walkS wSem m1.kind) (zs, m1)).symm.trans h
 obtain ⟨rfl, ⟨e2, he2⟩, hr2⟩ := fwd_row _ (prs_row hf _) _ _ _ h2
 refine ⟨hk.1, hk.2, fun b hb => ?_⟩
 have k1 := hr b e2 .zero (by rw [hb, he2])
 have k2 := hr2 b [] { PMsg.zero with kind := m'.kind } rfl rfl (by rw [hb]; simp)
 have k3 : s_kind (rSem b) ((0 : Nat), PMsg.zero) = .ok ((zs.length : Nat), { PMsg.zero with kind := m'.kind }) := k1
 have hw : walkM (rSem b) ((0 : Nat), PMsg.zero) = .ok ((xs.length : Nat), onlyM m') := by
  unfold walkM
  rw [k3]
  simp only
  rw [if_pos hk]
  have k4 : runL (walkS (rSem b) m'.kind) ((zs.length : Nat), { PMsg.zero with kind := m'.kind }) = .ok ((xs.length : Nat), onlyM m') := by
   rw [← prs_r]
   exact k2
  exact (runS_runL (rSem b) (walkS (rSem b) m'.kind) ((zs.length : Nat), { PMsg.zero with kind := m'.kind })).trans k4
 unfold readM
 rw [hw]
 show (if xs.length < b.size then (Except.error 8 : Except Int PMsg) else .ok (onlyM m')) = _
 rw [if_neg (by rw [size_of hb]; omega)]
end
end Go.Proofs.YthkeiclhllikjaaGreat
/-
 What is read is what would be written: step by step.
-/
namespace Go.Proofs.YthkeiclhllikjaaGreat
open Go.RowKit
def view (i : Nat) (m : PMsg) : List Int :=
 match i with
 | 0 => [(m.kind : Int)]
 | 1 => [m.move]
 | 2 => [m.part]
 | 3 => [m.«to»]
 | 4 => [m.n]
 | 5 => [m.count]
 | 6 => [m.code]
 | 7 => [(m.digest : Int)]
 | 8 => [m.at_]
 | 9 => [m.isrc]
 | 10 => [m.iseq]
 | 11 => [m.ilow]
 | 12 => [(m.ikind : Int)]
 | 13 => (bytesOf m.ikey).map Int.ofNat
 | 14 => [m.ipart]
 | 15 => [m.iat]
 | 16 => [m.iN]
 | 17 => [m.epoch]
 | 18 => [m.nodes]
 | 19 => (bytesOf m.data).map Int.ofNat
 | 20 => m.owner
 | 21 => m.set
 | _ => []
def Bwd (i : Nat) (p : Pr) : Prop := ∀ (b : ByteArray) (n n' : Nat) (mr mr' : PMsg), p.r b (n, mr) = .ok (n', mr') → n ≤ b.size → n ≤ n' ∧ n' ≤ b.size ∧ (∀ j, j ≠ i → view j mr' = view j mr) ∧
 ∀ (m : PMsg) (xs : List Nat), view i m = view i mr' → p.w (xs, m) = .ok (xs ++ ((bytesOf b).drop n).take (n' - n), m)
def BwdL : List (Nat × Pr) → Prop
 | [] => True
 | (i, p) :: ps => Bwd i p ∧ i ∉ ps.map (·.1) ∧ BwdL ps
theorem seg_add {l : List Nat} {n a c : Nat} (h1 : n ≤ a) (h2 : a ≤ c) : (l.drop n).take (a - n) ++ (l.drop a).take (c - a) = (l.drop n).take (c - n) := by
 rw [show c - n = (a - n) + (c - a) by omega, List.take_add]
 congr 1
 rw [List.drop_drop, show n + (a - n) = a by omega]
theorem bwd_list : ∀ (ps : List (Nat × Pr)), BwdL ps → ∀ (b : ByteArray) (n n' : Nat) (mr m2 : PMsg), runL (ps.map (fun p => p.2.r b)) (n, mr) = .ok (n', m2) → n ≤ b.size →
  n ≤ n' ∧ n' ≤ b.size ∧ (∀ j, j ∉ ps.map (·.1) → view j m2 = view j mr) ∧ ∀ (xs : List Nat) (m : PMsg), (∀ i ∈ ps.map (·.1), view i m = view i m2) → runL (ps.map (·.2.w)) (xs, m) = .ok (xs ++ ((bytesOf b).drop n).take (n' - n), m)
 | [], _, b, n, n', mr, m2, h, hn => by
  cases h
  exact ⟨Nat.le_refl _, hn, fun j _ => rfl, fun xs m _ => by simp [runL]⟩
 | (i, p) :: ps, hp, b, n, n', mr, m2, h, hn => by
  obtain ⟨hb, hni, hrest⟩ := hp
  simp only [List.map_cons, runL] at h
  cases hc : p.r b (n, mr) with
  | error e => rw [hc] at h; cases h
  | ok s1 =>
   obtain ⟨n1, mr1⟩ := s1
   rw [hc] at h
   obtain ⟨h1, h2, h3, h4⟩ := hb b n n1 mr mr1 hc hn
   obtain ⟨k1, k2, k3, k4⟩ := bwd_list ps hrest b n1 n' mr1 m2 h h2
   refine ⟨by omega, k2, fun j hj => ?_, fun xs m hm => ?_⟩
   ·simp only [List.map_cons, List.mem_cons, not_or] at hj
    rw [k3 j hj.2, h3 j hj.1]
   ·have hi : view i m = view i mr1 := by rw [hm i (by simp), k3 i hni]
    simp only [List.map_cons, runL]
    rw [h4 m xs hi]
    simp only
    rw [k4 _ m (fun j hj => hm j (by simp [hj])), List.append_assoc, seg_add h1 k1]
theorem drop_all {b : ByteArray} {n : Nat} : ∀ x ∈ (bytesOf b).drop n, x < 256 := fun x hx => bytesOf_all x (List.mem_of_mem_drop hx)
theorem numR_just {b : ByteArray} {n v n' : Nat} (hn : n ≤ b.size) (h : numR b n = .ok (v, n')) : v < 18446744073709551616 ∧ n ≤ n' ∧ n' ≤ b.size ∧ ((bytesOf b).drop n).take (n' - n) = vbytes v := by
 have hv := numR_lt h
 unfold numR at h
 split at h
 ·cases h
 ·rename_i v1 z hx
  cases h
  obtain ⟨h1, h2⟩ := rd_just drop_all hx
  have hl : z ≤ ((bytesOf b).drop n).length := by
   have := congrArg List.length h2
   rw [List.length_take, ← h1] at this
   omega
  rw [List.length_drop, bytes_len] at hl
  refine ⟨hv, by omega, by omega, ?_⟩
  rw [show n + z - n = z by omega]
  exact h2
theorem mostR_num {b : ByteArray} {n m v n' : Nat} (h : mostR b n m = .ok (v, n')) : v ≤ m ∧ numR b n = .ok (v, n') := by
 unfold mostR at h
 unfold numR
 cases hx : rd 0 0 ((bytesOf b).drop n) with
 | error e =>
  rw [hx] at h
  cases h
 | ok x =>
  obtain ⟨y, z⟩ := x
  rw [hx] at h
  simp only at h ⊢
  by_cases hle : y ≤ m
  ·rw [if_pos hle] at h
   cases h
   exact ⟨hle, rfl⟩
  ·rw [if_neg hle] at h
   cases h
theorem bytesOf_ext {b : ByteArray} {n v : Nat} : bytesOf (b.extract n (n + v)) = ((bytesOf b).drop n).take v := by
 simp only [bytesOf, ByteArray.data_extract, Array.toList_extract, List.extract_eq_take_drop, List.map_take, List.map_drop]
 rw [show n + v - n = v by omega]
theorem ext_size {b : ByteArray} {n v : Nat} (h : n + v ≤ b.size) : (b.extract n (n + v)).size = v := by
 rw [ByteArray.size_extract]
 omega
theorem bwd_num {i : Nat} {g : PMsg → Int} {u : PMsg → Int → PMsg} {w : PMsg → PMsg → PMsg} (hu : ∀ m, u m (g m) = m) (hv : ∀ m v j, j ≠ i → view j (u m v) = view j m) (hg : ∀ m m', view i m = view i m' → g m = g m') (hgu : ∀ m v, g (u m v) = v) :
  Bwd i ⟨st_num wSem g u, fun b => st_num (rSem b) g u, w⟩ := by
 intro b n n' mr mr' h hn
 change st_num (rSem b) g u (n, mr) = _ at h
 unfold st_num at h
 split at h
 rotate_left
 ·cases h
 rename_i x hx
 obtain ⟨v, (z : Nat)⟩ := x
 cases h
 replace hx : rNum b n = .ok (v, z) := hx
 unfold rNum at hx
 split at hx
 ·cases hx
 rename_i x z' hx2
 cases hx
 obtain ⟨h1, h2⟩ := mostR_num hx2
 obtain ⟨h3, h4, h5, h6⟩ := numR_just hn h2
 refine ⟨h4, h5, fun j hj => hv _ _ j hj, fun m xs hm => ?_⟩
 have hgm : g m = (x : Int) := (hg _ _ hm).trans (hgu _ _)
 have hw : wSem.num xs (g m) = .ok (g m, (xs ++ ((bytesOf b).drop n).take (z - n) : List Nat)) := by
  show wNum xs (g m) = _
  unfold wNum
  rw [if_pos (by omega), hgm, Int.toNat_natCast, h6]
  rfl
 refine (st_num_ok (K := wSem) (s := (xs, m)) hw).trans ?_
 rw [hu]
 rfl
theorem bwd_byte {i : Nat} {g : PMsg → Nat} {u : PMsg → Nat → PMsg} {w : PMsg → PMsg → PMsg} (hu : ∀ m, u m (g m) = m) (hv : ∀ m v j, j ≠ i → view j (u m v) = view j m) (hg : ∀ m m', view i m = view i m' → g m = g m') (hgu : ∀ m v, g (u m v) = v) :
  Bwd i ⟨st_byte wSem g u, fun b => st_byte (rSem b) g u, w⟩ := by
 intro b n n' mr mr' h hn
 change st_byte (rSem b) g u (n, mr) = _ at h
 unfold st_byte at h
 split at h
 rotate_left
 ·cases h
 rename_i x hx
 obtain ⟨v, (z : Nat)⟩ := x
 cases h
 replace hx : rByte b n = .ok (v, z) := hx
 unfold rByte at hx
 split at hx
 rotate_left
 ·cases hx
 rename_i hlt
 cases hx
 refine ⟨by omega, by omega, fun j hj => hv _ _ j hj, fun m xs hm => ?_⟩
 have hgm : g m = (bytesOf b).getD n 0 := (hg _ _ hm).trans (hgu _ _)
 have hseg : ((bytesOf b).drop n).take (n + 1 - n) = [(bytesOf b).getD n 0] := by
  rw [show n + 1 - n = 1 by omega]
  have hl : n < (bytesOf b).length := by rw [bytes_len]; exact hlt
  rw [List.drop_eq_getElem_cons hl, List.take_succ_cons, List.take_zero]
  simp [List.getD, hl]
 have hw : wSem.byte xs (g m) = .ok (g m, (xs ++ ((bytesOf b).drop n).take (n + 1 - n) : List Nat)) := by
  rw [hseg, ← hgm]
  rfl
 refine (st_byte_ok (K := wSem) (s := (xs, m)) hw).trans ?_
 rw [hu]
 rfl
theorem bwd_i64 {i : Nat} {g : PMsg → Int} {u : PMsg → Int → PMsg} {w : PMsg → PMsg → PMsg} (hu : ∀ m, u m (g m) = m) (hv : ∀ m v j, j ≠ i → view j (u m v) = view j m) (hg : ∀ m m', view i m = view i m' → g m = g m') (hgu : ∀ m v, g (u m v) = v) :
  Bwd i ⟨st_i64 wSem g u, fun b => st_i64 (rSem b) g u, w⟩ := by
 intro b n n' mr mr' h hn
 change st_i64 (rSem b) g u (n, mr) = _ at h
 unfold st_i64 at h
 split at h
 rotate_left
 ·cases h
 rename_i x hx
 obtain ⟨v, (z : Nat)⟩ := x
 cases h
 replace hx : rI64 b n = .ok (v, z) := hx
 unfold rI64 at hx
 split at hx
 ·cases hx
 rename_i x z' hx2
 cases hx
 obtain ⟨h3, h4, h5, h6⟩ := numR_just hn hx2
 refine ⟨h4, h5, fun j hj => hv _ _ j hj, fun m xs hm => ?_⟩
 have hgm : g m = zag x := (hg _ _ hm).trans (hgu _ _)
 have hw : wSem.i64 xs (g m) = .ok (g m, (xs ++ ((bytesOf b).drop n).take (z - n) : List Nat)) := by
  rw [h6, ← zig_zag x, ← hgm]
  rfl
 refine (st_i64_ok (K := wSem) (s := (xs, m)) hw).trans ?_
 rw [hu]
 rfl
theorem bwd_u64 {i : Nat} {g : PMsg → Nat} {u : PMsg → Nat → PMsg} {w : PMsg → PMsg → PMsg} (hu : ∀ m, u m (g m) = m) (hv : ∀ m v j, j ≠ i → view j (u m v) = view j m) (hg : ∀ m m', view i m = view i m' → g m = g m') (hgu : ∀ m v, g (u m v) = v) :
  Bwd i ⟨st_u64 wSem g u, fun b => st_u64 (rSem b) g u, w⟩ := by
 intro b n n' mr mr' h hn
 change st_u64 (rSem b) g u (n, mr) = _ at h
 unfold st_u64 at h
 split at h
 rotate_left
 ·cases h
 rename_i x hx
 obtain ⟨v, (z : Nat)⟩ := x
 cases h
 replace hx : numR b n = .ok (v, z) := hx
 obtain ⟨h3, h4, h5, h6⟩ := numR_just hn hx
 refine ⟨h4, h5, fun j hj => hv _ _ j hj, fun m xs hm => ?_⟩
 have hgm : g m = v := (hg _ _ hm).trans (hgu _ _)
 have hw : wSem.u64 xs (g m) = .ok (g m, (xs ++ ((bytesOf b).drop n).take (z - n) : List Nat)) := by
  rw [h6, ← hgm]
  rfl
 refine (st_u64_ok (K := wSem) (s := (xs, m)) hw).trans ?_
 rw [hu]
 rfl
theorem bwd_text {i : Nat} {g : PMsg → ByteArray} {u : PMsg → ByteArray → PMsg} {most : Int} {w : PMsg → PMsg → PMsg} (hmost : 0 ≤ most) (hu : ∀ m, u m (g m) = m) (hv : ∀ m v j, j ≠ i → view j (u m v) = view j m) (hg : ∀ m m', view i m = view i m' → g m = g m') (hgu : ∀ m v, g (u m v) = v) :
  Bwd i ⟨st_text wSem g u most, fun b => st_text (rSem b) g u most, w⟩ := by
 intro b n n' mr mr' h hn
 change st_text (rSem b) g u most (n, mr) = _ at h
 unfold st_text at h
 split at h
 rotate_left
 ·cases h
 rename_i x hx
 obtain ⟨v, (z : Nat)⟩ := x
 cases h
 replace hx : textR b n most.toNat = .ok (v, z) := hx
 unfold textR at hx
 split at hx
 ·cases hx
 rename_i x n1 hx2
 split at hx
 rotate_left
 ·cases hx
 rename_i hle
 cases hx
 obtain ⟨h1, h2⟩ := mostR_num hx2
 obtain ⟨h3, h4, h5, h6⟩ := numR_just hn h2
 refine ⟨by omega, by omega, fun j hj => hv _ _ j hj, fun m xs hm => ?_⟩
 have hgm : g m = b.extract n1 (n1 + x) := (hg _ _ hm).trans (hgu _ _)
 have hsz : (g m).size = x := by rw [hgm, ext_size (by omega)]
 have hseg : ((bytesOf b).drop n).take (n1 + x - n) = vbytes (g m).size ++ bytesOf (g m) := by
  rw [hsz, hgm, bytesOf_ext, ← h6]
  have e := (seg_add (l := bytesOf b) h4 (show n1 ≤ n1 + x by omega)).symm
  rw [show n1 + x - n1 = x by omega] at e
  exact e
 have hw : wSem.text xs (g m) most = .ok (g m, (xs ++ ((bytesOf b).drop n).take (n1 + x - n) : List Nat)) := by
  show wText xs (g m) most = _
  unfold wText
  rw [if_pos (by rw [hsz]; omega), hseg, List.append_assoc]
  rfl
 refine (st_text_ok (K := wSem) (s := (xs, m)) hw).trans ?_
 rw [hu]
 rfl
theorem loopM_inv {K : WSem} {st st2 : K.σ} {x : Int} {xs ws : List Int} (h : loopM K st (x :: xs) = .ok (ws, st2)) : ∃ v st' vs, K.num st x = .ok (v, st') ∧ loopM K st' xs = .ok (vs, st2) ∧ ws = v :: vs := by
 rw [loopM] at h
 split at h
 ·cases h
 ·rename_i v st' hx
  split at h
  ·cases h
  ·rename_i vs st3 hy
   cases h
   exact ⟨v, st', vs, hx, hy, rfl⟩
theorem loop_bwd {b : ByteArray} : ∀ (l : List Int) (n n' : Nat) (vs : List Int), loopM (rSem b) n l = .ok (vs, n') → n ≤ b.size →
  vs.length = l.length ∧ n ≤ n' ∧ n' ≤ b.size ∧ ∀ xs : List Nat, loopM wSem xs vs = .ok (vs, (xs ++ ((bytesOf b).drop n).take (n' - n) : List Nat))
 | [], n, n', vs, h, hn => by
  cases h
  exact ⟨rfl, Nat.le_refl _, hn, fun xs => by simp only [Nat.sub_self, List.take_zero, List.append_nil]; rfl⟩
 | y :: l, n, n', vs, h, hn => by
  obtain ⟨v, st', vs2, hx, hy, rfl⟩ := loopM_inv (K := rSem b) h
  replace hx : rNum b n = .ok (v, st') := hx
  unfold rNum at hx
  split at hx
  ·cases hx
  rename_i x z' hx2
  cases hx
  obtain ⟨h1, h2⟩ := mostR_num hx2
  obtain ⟨h3, h4, h5, h6⟩ := numR_just hn h2
  obtain ⟨k1, k2, k3, k4⟩ := loop_bwd l _ n' vs2 hy h5
  refine ⟨by simp [k1], by omega, k3, fun xs => ?_⟩
  have hw : wSem.num xs (x : Int) = .ok ((x : Int), (xs ++ vbytes x : List Nat)) := by
   show wNum xs (x : Int) = _
   unfold wNum
   rw [if_pos (by omega), Int.toNat_natCast]
   rfl
  have hk := k4 (xs ++ vbytes x)
  rw [← h6, List.append_assoc, seg_add h4 k2] at hk
  rw [← h6] at hw
  exact loopM_cons (K := wSem) hw hk
theorem nums_bwd {b : ByteArray} {l vs : List Int} {n n' : Nat} {most : Int} (hm : 0 ≤ most) (h : (numsM (rSem b) n l most : Except Int (List Int × Nat)) = .ok (vs, n')) (hn : n ≤ b.size) :
  n ≤ n' ∧ n' ≤ b.size ∧ ∀ xs : List Nat, (numsM wSem xs vs most : Except Int (List Int × List Nat)) = .ok (vs, xs ++ ((bytesOf b).drop n).take (n' - n)) := by
 unfold numsM at h
 split at h
 ·cases h
 rename_i c st' hx
 replace hx : rCount b n most = .ok (c, st') := hx
 unfold rCount at hx
 split at hx
 ·cases hx
 rename_i x z' hx2
 cases hx
 obtain ⟨h1, h2⟩ := mostR_num hx2
 obtain ⟨h3, h4, h5, h6⟩ := numR_just hn h2
 obtain ⟨k1, k2, k3, k4⟩ := loop_bwd _ _ n' vs h h5
 simp only [List.length_map, List.length_range, Int.toNat_natCast] at k1
 refine ⟨by omega, k3, fun xs => ?_⟩
 have hc : wSem.count xs (vs.length : Int) most = .ok ((vs.length : Int), (xs ++ vbytes x : List Nat)) := by
  show wCount xs _ most = _
  unfold wCount
  rw [if_pos (by omega), Int.toNat_natCast, k1]
  rfl
 have hk := k4 (xs ++ vbytes x)
 rw [← h6, List.append_assoc, seg_add h4 k2] at hk
 rw [← h6] at hc
 unfold numsM
 rw [hc]
 simp only [Int.toNat_natCast]
 rw [pad_self]
 exact hk
theorem b_owner : Bwd 20 pr_owner := by
 intro b n n' mr mr' h hn
 change s_owner (rSem b) (n, mr) = _ at h
 unfold s_owner at h
 split at h
 rotate_left
 ·cases h
 rename_i x hx
 obtain ⟨v, (z : Nat)⟩ := x
 cases h
 obtain ⟨h1, h2, h3⟩ := nums_bwd (most := 64) (by decide) hx hn
 refine ⟨h1, h2, fun j hj => ?_, fun m xs hm => ?_⟩
 ·unfold view
  split <;> first | rfl | exact absurd rfl hj
 ·replace hm : m.owner = v := hm
  have hw := h3 xs
  rw [← hm] at hw
  exact owner_ok (K := wSem) (s := (xs, m)) (x := (m.owner, _)) hw
theorem b_set : Bwd 21 pr_set := by
 intro b n n' mr mr' h hn
 change s_set (rSem b) (n, mr) = _ at h
 unfold s_set at h
 split at h
 rotate_left
 ·cases h
 rename_i x hx
 obtain ⟨v, (z : Nat)⟩ := x
 cases h
 obtain ⟨h1, h2, h3⟩ := nums_bwd (most := 1024) (by decide) hx hn
 refine ⟨h1, h2, fun j hj => ?_, fun m xs hm => ?_⟩
 ·unfold view
  split <;> first | rfl | exact absurd rfl hj
 ·replace hm : m.set = v := hm
  have hw := h3 xs
  rw [← hm] at hw
  exact set_ok (K := wSem) (s := (xs, m)) (x := (m.set, _)) hw
theorem map_nat_inj : ∀ {x y : List Nat}, x.map Int.ofNat = y.map Int.ofNat → x = y
 | [], [], _ => rfl
 | [], _ :: _, h => by simp at h
 | _ :: _, [], h => by simp at h
 | a :: x, c :: y, h => by
  simp only [List.map_cons, List.cons.injEq] at h
  rw [Int.ofNat.inj h.1, map_nat_inj h.2]
theorem map_u8_inj : ∀ (x y : List UInt8), x.map (·.toNat) = y.map (·.toNat) → x = y
 | [], [], _ => rfl
 | [], _ :: _, h => by simp at h
 | _ :: _, [], h => by simp at h
 | a :: x, c :: y, h => by
  simp only [List.map_cons, List.cons.injEq] at h
  rw [UInt8.toNat_inj.1 h.1, map_u8_inj x y h.2]
theorem bytes_inj {b s : ByteArray} (h : bytesOf b = bytesOf s) : b = s := by
 have h3 := map_u8_inj _ _ h
 cases b with
 | mk d =>
  cases s with
  | mk d2 =>
   simp only at h3
   rw [Array.toList_inj.1 h3]
theorem b_kind : Bwd 0 pr_kind := bwd_byte (fun m => rfl) (fun m v j hj => by
 unfold view
 split <;> first | rfl | exact absurd rfl hj) (fun m m' h => Int.ofNat.inj (List.cons.inj (show [(m.kind : Int)] = [(m'.kind : Int)] from h)).1) (fun m v => rfl)
theorem b_move : Bwd 1 pr_move := bwd_num (fun m => rfl) (fun m v j hj => by
 unfold view
 split <;> first | rfl | exact absurd rfl hj) (fun m m' h => (List.cons.inj (show [m.move] = [m'.move] from h)).1) (fun m v => rfl)
theorem b_part : Bwd 2 pr_part := bwd_num (fun m => rfl) (fun m v j hj => by
 unfold view
 split <;> first | rfl | exact absurd rfl hj) (fun m m' h => (List.cons.inj (show [m.part] = [m'.part] from h)).1) (fun m v => rfl)
theorem b_to : Bwd 3 pr_to := bwd_num (fun m => rfl) (fun m v j hj => by
 unfold view
 split <;> first | rfl | exact absurd rfl hj) (fun m m' h => (List.cons.inj (show [m.«to»] = [m'.«to»] from h)).1) (fun m v => rfl)
theorem b_n : Bwd 4 pr_n := bwd_num (fun m => rfl) (fun m v j hj => by
 unfold view
 split <;> first | rfl | exact absurd rfl hj) (fun m m' h => (List.cons.inj (show [m.n] = [m'.n] from h)).1) (fun m v => rfl)
theorem b_count : Bwd 5 pr_count := bwd_num (fun m => rfl) (fun m v j hj => by
 unfold view
 split <;> first | rfl | exact absurd rfl hj) (fun m m' h => (List.cons.inj (show [m.count] = [m'.count] from h)).1) (fun m v => rfl)
theorem b_code : Bwd 6 pr_code := bwd_num (fun m => rfl) (fun m v j hj => by
 unfold view
 split <;> first | rfl | exact absurd rfl hj) (fun m m' h => (List.cons.inj (show [m.code] = [m'.code] from h)).1) (fun m v => rfl)
theorem b_digest : Bwd 7 pr_digest := bwd_u64 (fun m => rfl) (fun m v j hj => by
 unfold view
 split <;> first | rfl | exact absurd rfl hj) (fun m m' h => Int.ofNat.inj (List.cons.inj (show [(m.digest : Int)] = [(m'.digest : Int)] from h)).1) (fun m v => rfl)
theorem b_at_ : Bwd 8 pr_at_ := bwd_i64 (fun m => rfl) (fun m v j hj => by
 unfold view
 split <;> first | rfl | exact absurd rfl hj) (fun m m' h => (List.cons.inj (show [m.at_] = [m'.at_] from h)).1) (fun m v => rfl)
theorem b_isrc : Bwd 9 pr_isrc := bwd_num (fun m => rfl) (fun m v j hj => by
 unfold view
 split <;> first | rfl | exact absurd rfl hj) (fun m m' h => (List.cons.inj (show [m.isrc] = [m'.isrc] from h)).1) (fun m v => rfl)
theorem b_iseq : Bwd 10 pr_iseq := bwd_num (fun m => rfl) (fun m v j hj => by
 unfold view
 split <;> first | rfl | exact absurd rfl hj) (fun m m' h => (List.cons.inj (show [m.iseq] = [m'.iseq] from h)).1) (fun m v => rfl)
theorem b_ilow : Bwd 11 pr_ilow := bwd_num (fun m => rfl) (fun m v j hj => by
 unfold view
 split <;> first | rfl | exact absurd rfl hj) (fun m m' h => (List.cons.inj (show [m.ilow] = [m'.ilow] from h)).1) (fun m v => rfl)
theorem b_ikind : Bwd 12 pr_ikind := bwd_byte (fun m => rfl) (fun m v j hj => by
 unfold view
 split <;> first | rfl | exact absurd rfl hj) (fun m m' h => Int.ofNat.inj (List.cons.inj (show [(m.ikind : Int)] = [(m'.ikind : Int)] from h)).1) (fun m v => rfl)
theorem b_ikey : Bwd 13 pr_ikey := bwd_text (by decide) (fun m => rfl) (fun m v j hj => by
 unfold view
 split <;> first | rfl | exact absurd rfl hj) (fun m m' h => bytes_inj (map_nat_inj (show (bytesOf m.ikey).map Int.ofNat = (bytesOf m'.ikey).map Int.ofNat from h))) (fun m v => rfl)
theorem b_ipart : Bwd 14 pr_ipart := bwd_num (fun m => rfl) (fun m v j hj => by
 unfold view
 split <;> first | rfl | exact absurd rfl hj) (fun m m' h => (List.cons.inj (show [m.ipart] = [m'.ipart] from h)).1) (fun m v => rfl)
theorem b_iat : Bwd 15 pr_iat := bwd_i64 (fun m => rfl) (fun m v j hj => by
 unfold view
 split <;> first | rfl | exact absurd rfl hj) (fun m m' h => (List.cons.inj (show [m.iat] = [m'.iat] from h)).1) (fun m v => rfl)
theorem b_iN : Bwd 16 pr_iN := bwd_i64 (fun m => rfl) (fun m v j hj => by
 unfold view
 split <;> first | rfl | exact absurd rfl hj) (fun m m' h => (List.cons.inj (show [m.iN] = [m'.iN] from h)).1) (fun m v => rfl)
theorem b_epoch : Bwd 17 pr_epoch := bwd_num (fun m => rfl) (fun m v j hj => by
 unfold view
 split <;> first | rfl | exact absurd rfl hj) (fun m m' h => (List.cons.inj (show [m.epoch] = [m'.epoch] from h)).1) (fun m v => rfl)
theorem b_nodes : Bwd 18 pr_nodes := bwd_num (fun m => rfl) (fun m v j hj => by
 unfold view
 split <;> first | rfl | exact absurd rfl hj) (fun m m' h => (List.cons.inj (show [m.nodes] = [m'.nodes] from h)).1) (fun m v => rfl)
theorem b_data : Bwd 19 pr_data := bwd_text (by decide) (fun m => rfl) (fun m v j hj => by
 unfold view
 split <;> first | rfl | exact absurd rfl hj) (fun m m' h => bytes_inj (map_nat_inj (show (bytesOf m.data).map Int.ofNat = (bytesOf m'.data).map Int.ofNat from h))) (fun m v => rfl)
def idsOf (c : Nat) : List Nat :=
 match c with
 | 1 => [9, 10, 11, 12, 13, 14, 15, 16]
 | 2 => [9, 10, 6]
 | 3 => [9, 10, 17, 18, 20]
 | 4 => [1, 2, 3]
 | 5 => [1, 2, 4, 5, 19]
 | 6 => [1, 2, 4, 21]
 | 7 => [1, 2, 4, 9, 10, 11, 12, 13, 14, 15, 16]
 | 8 => [1, 2, 4]
 | 9 => [1, 2, 4, 8, 7]
 | 10 => [1, 2, 6]
 | 11 => [1, 2, 17, 18, 20]
 | 12 => [1, 2]
 | 13 => [1, 2]
 | 14 => [17, 18, 20]
 | _ => []
def iprs (c : Nat) : List (Nat × Pr) :=
 match c with
 | 1 => [(9, pr_isrc), (10, pr_iseq), (11, pr_ilow), (12, pr_ikind), (13, pr_ikey), (14, pr_ipart), (15, pr_iat), (16, pr_iN)]
 | 2 => [(9, pr_isrc), (10, pr_iseq), (6, pr_code)]
 | 3 => [(9, pr_isrc), (10, pr_iseq), (17, pr_epoch), (18, pr_nodes), (20, pr_owner)]
 | 4 => [(1, pr_move), (2, pr_part), (3, pr_to)]
 | 5 => [(1, pr_move), (2, pr_part), (4, pr_n), (5, pr_count), (19, pr_data)]
 | 6 => [(1, pr_move), (2, pr_part), (4, pr_n), (21, pr_set)]
 | 7 => [(1, pr_move), (2, pr_part), (4, pr_n), (9, pr_isrc), (10, pr_iseq), (11, pr_ilow), (12, pr_ikind), (13, pr_ikey), (14, pr_ipart), (15, pr_iat), (16, pr_iN)]
 | 8 => [(1, pr_move), (2, pr_part), (4, pr_n)]
 | 9 => [(1, pr_move), (2, pr_part), (4, pr_n), (8, pr_at_), (7, pr_digest)]
 | 10 => [(1, pr_move), (2, pr_part), (6, pr_code)]
 | 11 => [(1, pr_move), (2, pr_part), (17, pr_epoch), (18, pr_nodes), (20, pr_owner)]
 | 12 => [(1, pr_move), (2, pr_part)]
 | 13 => [(1, pr_move), (2, pr_part)]
 | 14 => [(17, pr_epoch), (18, pr_nodes), (20, pr_owner)]
 | _ => []
theorem iprs_ids : ∀ c : Nat, (iprs c).map (·.1) = idsOf c
 | 0 => rfl
 | 1 => rfl
 | 2 => rfl
 | 3 => rfl
 | 4 => rfl
 | 5 => rfl
 | 6 => rfl
 | 7 => rfl
 | 8 => rfl
 | 9 => rfl
 | 10 => rfl
 | 11 => rfl
 | 12 => rfl
 | 13 => rfl
 | 14 => rfl
 | n + 15 => rfl
theorem iprs_prs : ∀ c : Nat, (iprs c).map (·.2) = prs c
 | 0 => rfl
 | 1 => rfl
 | 2 => rfl
 | 3 => rfl
 | 4 => rfl
 | 5 => rfl
 | 6 => rfl
 | 7 => rfl
 | 8 => rfl
 | 9 => rfl
 | 10 => rfl
 | 11 => rfl
 | 12 => rfl
 | 13 => rfl
 | 14 => rfl
 | n + 15 => rfl
theorem ids_kind (c : Nat) : 0 ∉ idsOf c := by
 unfold idsOf
 split <;> decide
theorem iprs_bwd (c : Nat) : BwdL (iprs c) := by
 unfold iprs
 split
 ·exact ⟨b_isrc, by decide, b_iseq, by decide, b_ilow, by decide, b_ikind, by decide, b_ikey, by decide, b_ipart, by decide, b_iat, by decide, b_iN, by decide, trivial⟩
 ·exact ⟨b_isrc, by decide, b_iseq, by decide, b_code, by decide, trivial⟩
 ·exact ⟨b_isrc, by decide, b_iseq, by decide, b_epoch, by decide, b_nodes, by decide, b_owner, by decide, trivial⟩
 ·exact ⟨b_move, by decide, b_part, by decide, b_to, by decide, trivial⟩
 ·exact ⟨b_move, by decide, b_part, by decide, b_n, by decide, b_count, by decide, b_data, by decide, trivial⟩
 ·exact ⟨b_move, by decide, b_part, by decide, b_n, by decide, b_set, by decide, trivial⟩
 ·exact ⟨b_move, by decide, b_part, by decide, b_n, by decide, b_isrc, by decide, b_iseq, by decide, b_ilow, by decide, b_ikind, by decide, b_ikey, by decide, b_ipart, by decide, b_iat, by decide, b_iN, by decide, trivial⟩
 ·exact ⟨b_move, by decide, b_part, by decide, b_n, by decide, trivial⟩
 ·exact ⟨b_move, by decide, b_part, by decide, b_n, by decide, b_at_, by decide, b_digest, by decide, trivial⟩
 ·exact ⟨b_move, by decide, b_part, by decide, b_code, by decide, trivial⟩
 ·exact ⟨b_move, by decide, b_part, by decide, b_epoch, by decide, b_nodes, by decide, b_owner, by decide, trivial⟩
 ·exact ⟨b_move, by decide, b_part, by decide, trivial⟩
 ·exact ⟨b_move, by decide, b_part, by decide, trivial⟩
 ·exact ⟨b_epoch, by decide, b_nodes, by decide, b_owner, by decide, trivial⟩
 ·trivial
theorem read_walk {b : ByteArray} {m : PMsg} (h : readM b = .ok m) : (walkM wSem (([] : List Nat), m) : Except Int (List Nat × PMsg)) = .ok (bytesOf b, m) := by
 unfold readM readEnd at h
 split at h
 ·cases h
 rename_i n1 m1 hw
 split at h
 ·cases h
 rename_i hn1
 cases h
 unfold walkM at hw
 split at hw
 ·cases hw
 rename_i s1 hs1
 obtain ⟨(n2 : Nat), m2⟩ := s1
 obtain ⟨h1, h2, h3, h4⟩ := b_kind b 0 n2 .zero m2 hs1 (by omega)
 split at hw
 rotate_left
 ·cases hw
 rename_i hk
 replace hk : 1 ≤ m2.kind ∧ m2.kind ≤ 14 := hk
 have hr : runL ((iprs m2.kind).map (fun p => p.2.r b)) (n2, m2) = .ok (n1, m) := by
  have e : (iprs m2.kind).map (fun p => p.2.r b) = walkS (rSem b) m2.kind := by
   rw [← prs_r, ← iprs_prs, List.map_map]
   rfl
  rw [e]
  exact (runS_runL (rSem b) (walkS (rSem b) m2.kind) (n2, m2)).symm.trans hw
 obtain ⟨k1, k2, k3, k4⟩ := bwd_list _ (iprs_bwd _) b n2 n1 m2 m hr h2
 have hkind : view 0 m = view 0 m2 := k3 0 (by rw [iprs_ids]; exact ids_kind _)
 have hmk : m.kind = m2.kind := Int.ofNat.inj (List.cons.inj (show [(m.kind : Int)] = [(m2.kind : Int)] from hkind)).1
 have hw1 := h4 m [] hkind
 have hw2 := k4 (([] : List Nat) ++ ((bytesOf b).drop 0).take (n2 - 0)) m (fun i _ => rfl)
 have hb1 : n1 = b.size := by omega
 rw [List.append_assoc, seg_add h1 k1, hb1] at hw2
 have hall : (([] : List Nat) ++ ((bytesOf b).drop 0).take (b.size - 0)) = bytesOf b := by
  simp only [List.nil_append, List.drop_zero, Nat.sub_zero]
  rw [← bytes_len, List.take_length]
 rw [hall] at hw2
 unfold walkM
 have hw3 : s_kind wSem (([] : List Nat), m) = .ok ((([] : List Nat) ++ ((bytesOf b).drop 0).take (n2 - 0) : List Nat), m) := hw1
 rw [hw3]
 simp only
 rw [if_pos (by rw [hmk]; exact hk)]
 have hr2 : runL (walkS wSem m.kind) ((([] : List Nat) ++ ((bytesOf b).drop 0).take (n2 - 0) : List Nat), m) = .ok (bytesOf b, m) := by
  rw [← prs_w, ← iprs_prs, List.map_map, hmk]
  exact hw2
 exact (runS_runL wSem (walkS wSem m.kind) _).trans hr2
theorem u8_list_eq : ∀ {x y : ByteArray}, x.toList = y.toList ↔ x = y := by
 intro x y
 constructor
 ·intro h
  have h2 : x.data.toList = y.data.toList := by rw [← ByteArray.toList_eq, ← ByteArray.toList_eq, h]
  cases x with
  | mk d =>
   cases y with
   | mk d2 =>
    simp only at h2
    rw [Array.toList_inj.1 h2]
 ·rintro rfl
  rfl
theorem sameB_iff {a b : PMsg} : sameB a b = true ↔ a = b := by
 cases a
 cases b
 simp only [sameB, Bool.and_eq_true, decide_eq_true_eq, beq_iff_eq, u8_list_eq, PMsg.mk.injEq, Int.natCast_inj]
 constructor
 ·rintro ⟨h1, h2, h3, h4, h5, h6, h7, h8, h9, h10, h11, ⟨g1, g2, g3, g4, g5, g6, g7, g8⟩, h12, h13, h14⟩
  exact ⟨h3, h4, h5, h6, h7, h8, h9, h10, h11, g1, g2, g3, g4, g5, g6, g7, g8, h12, h13, h2, h1, h14⟩
 ·rintro ⟨h3, h4, h5, h6, h7, h8, h9, h10, h11, g1, g2, g3, g4, g5, g6, g7, g8, h12, h13, h2, h1, h14⟩
  exact ⟨h1, h2, h3, h4, h5, h6, h7, h8, h9, h10, h11, ⟨g1, g2, g3, g4, g5, g6, g7, g8⟩, h12, h13, h14⟩
theorem bytes_pack : ∀ {xs : List Nat}, (∀ x ∈ xs, x < 256) → bytesOf (packB xs) = xs := by
 intro xs h
 show ((xs.map UInt8.ofNat).toArray.toList).map (·.toNat) = xs
 rw [List.toList_toArray, List.map_map]
 refine (List.map_congr_left (g := id) fun x hx => ?_).trans (List.map_id xs)
 show (UInt8.ofNat x).toNat = x
 rw [UInt8.toNat_ofNat']
 exact Nat.mod_eq_of_lt (h x hx)
theorem bytesM_ok {m : PMsg} {s : ByteArray} (hf : m.Fits) (hk : m.kind < 256) (hik : m.ikind < 256) (h : bytesM m = .ok s) : (walkM wSem (([] : List Nat), m) : Except Int (List Nat × PMsg)) = .ok (bytesOf s, m) ∧ readM s = .ok m := by
 unfold bytesM bytesEnd at h
 split at h
 ·cases h
 rename_i xs m' hw
 split at h
 rotate_left
 ·cases h
 rename_i hs
 cases h
 have hp : bytesOf (packB xs) = xs := bytes_pack (walk_allB hk hik hw)
 obtain ⟨h1, h2, h3⟩ := write_read hf hw
 have hr := h3 (packB xs) hp
 have hb : backM (packB xs) = onlyM m := by unfold backM; rw [hr]
 rw [hb, sameB_iff] at hs
 have hr2 : readM (packB xs) = .ok m := by rw [hr, hs]
 exact ⟨read_walk hr2, hr2⟩
end Go.Proofs.YthkeiclhllikjaaGreat
