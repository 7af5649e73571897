/-
  A message's bytes cut are too short; with more behind they are no message's.
-/
import Derived.Test.YtmmhchpilcjflaaMsgEm
set_option linter.unusedSimpArgs false
set_option linter.unusedVariables false
namespace Go.Proofs.Ytmmhchpilcjflaa
open Go.RowKit

theorem rd_cut : ∀ (n : Nat) (x i acc j : Nat), x ≤ n → i ≤ 9 → x * 2 ^ (7 * i) < 18446744073709551616 → j < (vbytes x).length → rd i acc ((vbytes x).take j) = .error 7 := by
  intro n
  induction n with
  | zero =>
    intro x i acc j hx hi hfit hj
    have : x = 0 := by omega
    subst this
    rw [vbytes_small (by decide)] at hj ⊢
    have : j = 0 := by simp at hj; omega
    subst this
    simp [rd]
    omega
  | succ n ih =>
    intro x i acc j hx hi hfit hj
    by_cases hs : x < 128
    · rw [vbytes_small hs] at hj ⊢
      have : j = 0 := by simp at hj; omega
      subst this
      simp [rd]
      omega
    · rw [vbytes_big (by omega)] at hj ⊢
      have hi8 : i ≤ 8 := by
        rcases Nat.lt_or_ge i 9 with h | h
        · omega
        · have : i = 9 := by omega
          subst this
          have h2 : 128 * 2 ^ (7 * 9) ≤ x * 2 ^ (7 * 9) := Nat.mul_le_mul_right _ (by omega)
          have h3 : 128 * 2 ^ (7 * 9) = 1180591620717411303424 := by decide
          omega
      cases j with
      | zero => simp [rd]; omega
      | succ j =>
        have hpow : (2 : Nat) ^ (7 * (i + 1)) = 128 * 2 ^ (7 * i) := by rw [show 7 * (i + 1) = 7 * i + 7 by omega, Nat.pow_add]; omega
        have hle : x / 128 * 2 ^ (7 * (i + 1)) ≤ x * 2 ^ (7 * i) := by
          rw [hpow, ← Nat.mul_assoc]
          exact Nat.mul_le_mul_right _ (by omega)
        rw [List.take_succ_cons, rd, if_neg (by omega), if_neg (by omega), if_neg (by omega)]
        exact ih (x / 128) (i + 1) _ j (by omega) (by omega) (by omega) (by simpa using hj)
theorem rd_cut0 {x j : Nat} (hx : x < 18446744073709551616) (hj : j < (vbytes x).length) : rd 0 0 ((vbytes x).take j) = .error 7 :=
  rd_cut x x 0 0 j (Nat.le_refl _) (by decide) (by simpa using hx) hj
section
variable {b : ByteArray} {xs : List Nat}
theorem numR_cut {x j : Nat} (hx : x < 18446744073709551616) (hj : j < (vbytes x).length) (hb : bytesOf b = xs ++ (vbytes x).take j) : numR b xs.length = .error 7 := by
  unfold numR
  rw [hb, List.drop_left, rd_cut0 hx hj]
theorem mostR_cut {x j m : Nat} (hx : x < 18446744073709551616) (hj : j < (vbytes x).length) (hb : bytesOf b = xs ++ (vbytes x).take j) : mostR b xs.length m = .error 7 := by
  unfold mostR
  rw [hb, List.drop_left, rd_cut0 hx hj]
theorem rNum_cut {x : Int} {j : Nat} (hx : inB x = true) (hj : j < (vbytes x.toNat).length) (hb : bytesOf b = xs ++ (vbytes x.toNat).take j) : rNum b xs.length = .error 7 := by
  unfold rNum
  rw [mostR_cut (by simp [inB] at hx; omega) hj hb]
end
/-- Cut inside what it reads, it finds too little. -/
def CutE (m : PMsg) (p : Pr) (e : Em) : Prop := e.ok = true → ∀ (b : ByteArray) (xs : List Nat) (mr : PMsg) (k : Nat), bytesOf b = xs ++ e.out.take k → k < e.out.length → p.r b (xs.length, mr) = .error 7
section
variable {m : PMsg}
theorem st_num_bad {K : WSem} {g : PMsg → Int} {u : PMsg → Int → PMsg} {s : K.σ × PMsg} {f : Int} (h : K.num s.1 (g s.2) = .error f) : st_num K g u s = .error f := by unfold st_num; rw [h]
theorem st_byte_bad {K : WSem} {g : PMsg → Nat} {u : PMsg → Nat → PMsg} {s : K.σ × PMsg} {f : Int} (h : K.byte s.1 (g s.2) = .error f) : st_byte K g u s = .error f := by unfold st_byte; rw [h]
theorem st_i64_bad {K : WSem} {g : PMsg → Int} {u : PMsg → Int → PMsg} {s : K.σ × PMsg} {f : Int} (h : K.i64 s.1 (g s.2) = .error f) : st_i64 K g u s = .error f := by unfold st_i64; rw [h]
theorem st_u64_bad {K : WSem} {g : PMsg → Nat} {u : PMsg → Nat → PMsg} {s : K.σ × PMsg} {f : Int} (h : K.u64 s.1 (g s.2) = .error f) : st_u64 K g u s = .error f := by unfold st_u64; rw [h]
theorem st_text_bad {K : WSem} {g : PMsg → ByteArray} {u : PMsg → ByteArray → PMsg} {most : Int} {s : K.σ × PMsg} {f : Int} (h : K.text s.1 (g s.2) most = .error f) : st_text K g u most s = .error f := by unfold st_text; rw [h]
theorem owner_bad {K : WSem} {s : K.σ × PMsg} {f : Int} (h : numsM K s.1 s.2.owner 64 = .error f) : s_owner K s = .error f := by unfold s_owner; rw [h]
theorem set_bad {K : WSem} {s : K.σ × PMsg} {f : Int} (h : numsM K s.1 s.2.set 1024 = .error f) : s_set K s = .error f := by unfold s_set; rw [h]
theorem cut_num {g : PMsg → Int} {u : PMsg → Int → PMsg} {w : Stp wSem} {v : PMsg → PMsg → PMsg} : CutE m ⟨w, fun b => st_num (rSem b) g u, v⟩ (emN (g m)) := fun ho b xs mr k hb hk =>
  st_num_bad (K := rSem b) (s := (xs.length, mr)) (rNum_cut ho hk hb)
theorem cut_byte {g : PMsg → Nat} {u : PMsg → Nat → PMsg} {w : Stp wSem} {v : PMsg → PMsg → PMsg} : CutE m ⟨w, fun b => st_byte (rSem b) g u, v⟩ (emB (g m)) := fun ho b xs mr k hb hk => by
  have hk0 : k = 0 := by simp [emB] at hk; omega
  subst hk0
  have hs := size_of hb
  simp at hs
  have h : rByte b xs.length = .error 7 := by unfold rByte; rw [if_neg (by omega)]
  exact st_byte_bad (K := rSem b) (s := (xs.length, mr)) h
theorem cut_i64 {g : PMsg → Int} {u : PMsg → Int → PMsg} {w : Stp wSem} {v : PMsg → PMsg → PMsg} (h0 : -9223372036854775808 ≤ g m) (h1 : g m < 9223372036854775808) : CutE m ⟨w, fun b => st_i64 (rSem b) g u, v⟩ (emI (g m)) := fun ho b xs mr k hb hk => by
  have h : rI64 b xs.length = .error 7 := by unfold rI64; rw [numR_cut (zig_lt h0 h1) hk hb]
  exact st_i64_bad (K := rSem b) (s := (xs.length, mr)) h
theorem cut_u64 {g : PMsg → Nat} {u : PMsg → Nat → PMsg} {w : Stp wSem} {v : PMsg → PMsg → PMsg} (h1 : g m < 18446744073709551616) : CutE m ⟨w, fun b => st_u64 (rSem b) g u, v⟩ (emU (g m)) := fun ho b xs mr k hb hk =>
  st_u64_bad (K := rSem b) (s := (xs.length, mr)) (numR_cut h1 hk hb)
theorem cut_text {g : PMsg → ByteArray} {u : PMsg → ByteArray → PMsg} {most : Nat} {w : Stp wSem} {v : PMsg → PMsg → PMsg} (hm : most < 2000) : CutE m ⟨w, fun b => st_text (rSem b) g u most, v⟩ (emT (g m) most) := fun ho b xs mr k hb hk => by
  have hz : (g m).size ≤ most := by simpa [emT] using ho
  have h : textR b xs.length ((most : Int)).toNat = .error 7 := by
    unfold textR
    simp only [emT] at hb hk
    by_cases hk1 : k < (vbytes (g m).size).length
    · rw [List.take_append_of_le_length (by omega)] at hb
      rw [mostR_cut (by omega) hk1 hb]
    · have e : (vbytes (g m).size ++ bytesOf (g m)).take k = vbytes (g m).size ++ (bytesOf (g m)).take (k - (vbytes (g m).size).length) := by
        rw [List.take_append, List.take_of_length_le (by omega)]
      rw [e, ← List.append_assoc] at hb
      have hs := size_of hb
      have hl : (bytesOf (g m)).length = (g m).size := by simp [bytesOf]
      simp only [List.length_append, List.length_take, hl] at hs hk
      rw [mostR_back (x := (g m).size) (by omega) (by omega) hb]
      simp only [List.length_append]
      rw [if_neg (by omega)]
  exact st_text_bad (K := rSem b) (s := (xs.length, mr)) h
theorem loop_cut : ∀ (l : List Int) (b : ByteArray) (xs : List Nat) (l' : List Int) (k : Nat), l'.length = l.length → l.all inB = true → bytesOf b = xs ++ (listB l).take k → k < (listB l).length → loopM (rSem b) xs.length l' = .error 7
  | [], b, xs, l', k, hl, ha, hb, hk => by simp [listB] at hk
  | x :: l, b, xs, [], k, hl, ha, hb, hk => by simp at hl
  | x :: l, b, xs, y :: l', k, hl, ha, hb, hk => by
    simp only [List.all_cons, Bool.and_eq_true] at ha
    have e0 : listB (x :: l) = vbytes x.toNat ++ listB l := by simp [listB]
    rw [e0] at hb hk
    by_cases hk1 : k < (vbytes x.toNat).length
    · rw [List.take_append_of_le_length (by omega)] at hb
      exact loopM_bad (K := rSem b) (rNum_cut ha.1 hk1 hb)
    · have e : (vbytes x.toNat ++ listB l).take k = vbytes x.toNat ++ (listB l).take (k - (vbytes x.toNat).length) := by
        rw [List.take_append, List.take_of_length_le (by omega)]
      rw [e, ← List.append_assoc] at hb
      have h0 : 0 ≤ x ∧ x ≤ 2147483647 := by have := ha.1; simp [inB] at this; omega
      have hn : (rSem b).num xs.length y = .ok (x, (xs ++ vbytes x.toNat).length) := by
        show rNum b xs.length = _
        rw [rNum, mostR_back (m := 2147483647) (x := x.toNat) (by omega) (by decide) hb]
        simp only [Int.toNat_of_nonneg h0.1]
        rfl
      refine loopM_bad2 (K := rSem b) hn ?_
      exact loop_cut l b (xs ++ vbytes x.toNat) l' (k - (vbytes x.toNat).length) (by simpa using hl) ha.2 hb (by rw [List.length_append] at hk; omega)
theorem nums_cut {l : List Int} {b : ByteArray} {xs : List Nat} {most k : Nat} {l0 : List Int} (hl0 : l0 = []) (hm : most < 2000) (ho : (emL l most).ok = true) (hb : bytesOf b = xs ++ (emL l most).out.take k) (hk : k < (emL l most).out.length) : (numsM (rSem b) xs.length l0 (most : Int) : Except Int (List Int × Nat)) = .error 7 := by
  subst hl0
  simp only [emL, Bool.and_eq_true, decide_eq_true_eq] at ho hb hk
  unfold numsM
  by_cases hk1 : k < (vbytes l.length).length
  · rw [List.take_append_of_le_length (by omega)] at hb
    have hc : (rSem b).count xs.length (([] : List Int).length : Int) most = .error 7 := by
      show rCount b xs.length most = _
      rw [rCount, mostR_cut (by omega) hk1 hb]
      rfl
    rw [hc]
  · have e : (vbytes l.length ++ listB l).take k = vbytes l.length ++ (listB l).take (k - (vbytes l.length).length) := by
      rw [List.take_append, List.take_of_length_le (by omega)]
    rw [e, ← List.append_assoc] at hb
    have hc : (rSem b).count xs.length (([] : List Int).length : Int) most = .ok ((l.length : Int), (xs ++ vbytes l.length).length) := by
      show rCount b xs.length most = _
      rw [rCount, mostR_back (x := l.length) (by omega) (by omega) hb]
      rfl
    rw [hc]
    exact loop_cut l b (xs ++ vbytes l.length) _ (k - (vbytes l.length).length) (by simp) ho.1 hb (by rw [List.length_append] at hk; omega)
/-- So for a list where there is none yet. -/
def CutN (m : PMsg) (p : Pr) (e : Em) : Prop := e.ok = true → ∀ (b : ByteArray) (xs : List Nat) (mr : PMsg) (k : Nat), mr.owner = [] → mr.set = [] → bytesOf b = xs ++ e.out.take k → k < e.out.length → p.r b (xs.length, mr) = .error 7
theorem CutE.n {p : Pr} {e : Em} (h : CutE m p e) : CutN m p e := fun ho b xs mr k _ _ hb hk => h ho b xs mr k hb hk
theorem cut_owner : CutN m pr_owner (emL m.owner 64) := fun ho b xs mr k h1 _ hb hk => owner_bad (K := rSem b) (s := (xs.length, mr)) (nums_cut h1 (by decide) ho hb hk)
theorem cut_set : CutN m pr_set (emL m.set 1024) := fun ho b xs mr k _ h2 hb hk => set_bad (K := rSem b) (s := (xs.length, mr)) (nums_cut h2 (by decide) ho hb hk)
def CutL (m : PMsg) : List Pr → List Em → Prop
  | [], [] => True
  | p :: ps, e :: es => CutN m p e ∧ CutL m ps es
  | _, _ => False
theorem runL_bad {σ : Type} {f : σ × PMsg → Except Int (σ × PMsg)} {fs : List (σ × PMsg → Except Int (σ × PMsg))} {s : σ × PMsg} {e : Int} (h : f s = .error e) : runL (f :: fs) s = .error e := by simp [runL, h]
theorem runL_ok {σ : Type} {f : σ × PMsg → Except Int (σ × PMsg)} {fs : List (σ × PMsg → Except Int (σ × PMsg))} {s s' : σ × PMsg} (h : f s = .ok s') : runL (f :: fs) s = runL fs s' := by simp [runL, h]
theorem cut_row : ∀ (ps : List Pr) (es : List Em), Row m ps → CutL m ps es → EmL m (ps.map (·.w)) es → es.all (·.ok) = true → ∀ (b : ByteArray) (xs : List Nat) (mr : PMsg) (k : Nat), mr.owner = [] → mr.set = [] →
    bytesOf b = xs ++ (es.flatMap (·.out)).take k → k < (es.flatMap (·.out)).length → runL (ps.map (fun p => p.r b)) (xs.length, mr) = .error 7
  | [], [], _, _, _, _, b, xs, mr, k, _, _, hb, hk => by simp at hk
  | [], _ :: _, _, h, _, _, _, _, _, _, _, _, _, _ => h.elim
  | _ :: _, [], _, h, _, _, _, _, _, _, _, _, _, _ => h.elim
  | [p], e :: es, hr, hc, he, ha, b, xs, mr, k, h1, h2, hb, hk => by
    cases es with
    | cons _ _ => exact hc.2.elim
    | nil =>
      simp only [List.all_cons, List.all_nil, Bool.and_true] at ha
      simp only [List.flatMap_cons, List.flatMap_nil, List.append_nil] at hb hk
      exact runL_bad (hc.1 ha b xs mr k h1 h2 hb hk)
  | p :: p2 :: ps, e :: es, hr, hc, he, ha, b, xs, mr, k, h1, h2, hb, hk => by
    obtain ⟨⟨hf, hkp⟩, hrest⟩ := hr
    simp only [List.all_cons, Bool.and_eq_true] at ha
    simp only [List.flatMap_cons] at hb hk
    by_cases hk1 : k < e.out.length
    · rw [List.take_append_of_le_length (by omega)] at hb
      exact runL_bad (hc.1 ha.1 b xs mr k h1 h2 hb hk1)
    · have et : (e.out ++ es.flatMap (·.out)).take k = e.out ++ (es.flatMap (·.out)).take (k - e.out.length) := by
        rw [List.take_append, List.take_of_length_le (by omega)]
      rw [et, ← List.append_assoc] at hb
      have hw : p.w (xs, m) = .ok (xs ++ e.out, m) := by
        have := he.1 xs
        rw [if_pos ha.1] at this
        exact this
      have hok := (hf xs _ _ hw).2.2 b _ mr hb
      have ih := cut_row (p2 :: ps) es hrest hc.2 he.2 ha.2 b (xs ++ e.out) (p.u m mr) (k - e.out.length) (by rw [(hkp mr).1]; exact h1) (by rw [(hkp mr).2]; exact h2) hb (by rw [List.length_append] at hk; omega)
      exact (runL_ok hok).trans ih
theorem ems_prs : ∀ c : Nat, EmL m ((prs c).map (·.w)) (emsM m c)
  | 0 => trivial
  | 1 => ems_walk 1
  | 2 => ems_walk 2
  | 3 => ems_walk 3
  | 4 => ems_walk 4
  | 5 => ems_walk 5
  | 6 => ems_walk 6
  | 7 => ems_walk 7
  | 8 => ems_walk 8
  | 9 => ems_walk 9
  | 10 => ems_walk 10
  | 11 => ems_walk 11
  | 12 => ems_walk 12
  | 13 => ems_walk 13
  | 14 => ems_walk 14
  | n + 15 => trivial
theorem cuts_walk (hf : m.Fits) : ∀ c : Nat, CutL m (prs c) (emsM m c)
  | 0 => trivial
  | 1 => ⟨cut_num.n, cut_num.n, cut_num.n, cut_byte.n, (cut_text (by decide)).n, cut_num.n, (cut_i64 hf.iat0 hf.iat1).n, (cut_i64 hf.iN0 hf.iN1).n, trivial⟩
  | 2 => ⟨cut_num.n, cut_num.n, cut_num.n, trivial⟩
  | 3 => ⟨cut_num.n, cut_num.n, cut_num.n, cut_num.n, cut_owner, trivial⟩
  | 4 => ⟨cut_num.n, cut_num.n, cut_num.n, trivial⟩
  | 5 => ⟨cut_num.n, cut_num.n, cut_num.n, cut_num.n, (cut_text (by decide)).n, trivial⟩
  | 6 => ⟨cut_num.n, cut_num.n, cut_num.n, cut_set, trivial⟩
  | 7 => ⟨cut_num.n, cut_num.n, cut_num.n, cut_num.n, cut_num.n, cut_num.n, cut_byte.n, (cut_text (by decide)).n, cut_num.n, (cut_i64 hf.iat0 hf.iat1).n, (cut_i64 hf.iN0 hf.iN1).n, trivial⟩
  | 8 => ⟨cut_num.n, cut_num.n, cut_num.n, trivial⟩
  | 9 => ⟨cut_num.n, cut_num.n, cut_num.n, (cut_i64 hf.at0 hf.at1).n, (cut_u64 hf.digest).n, trivial⟩
  | 10 => ⟨cut_num.n, cut_num.n, cut_num.n, trivial⟩
  | 11 => ⟨cut_num.n, cut_num.n, cut_num.n, cut_num.n, cut_owner, trivial⟩
  | 12 => ⟨cut_num.n, cut_num.n, trivial⟩
  | 13 => ⟨cut_num.n, cut_num.n, trivial⟩
  | 14 => ⟨cut_num.n, cut_num.n, cut_owner, trivial⟩
  | n + 15 => trivial
/-- What has bytes: its walk, and that they are read so whatever follows. -/
theorem read_more {xs : List Nat} {m' : PMsg} (hf : m.Fits) (h : (walkM wSem (([] : List Nat), m) : Except Int (List Nat × PMsg)) = .ok (xs, m')) {b : ByteArray} {rest : List Nat} (hb : bytesOf b = xs ++ rest) (hr : rest ≠ []) : readM b = .error 8 := by
  have hw := walk_em (m := m)
  rw [h] at hw
  split at hw
  rotate_left
  · cases hw
  rename_i hk
  split at hw
  rotate_left
  · cases hw
  rename_i ho
  cases hw
  obtain ⟨_, _, hr1⟩ := (e_kind hf).1 [] [m.kind] m rfl
  have h2 : runL ((prs m.kind).map (·.w)) ([m.kind], m) = .ok (outM m, m) := by
    rw [prs_w]
    have := run_em (walkS wSem m.kind) (emsM m m.kind) [m.kind] (ems_walk m.kind)
    rw [if_pos (show ((emsM m m.kind).all (·.ok)) = true from ho)] at this
    exact (runS_runL wSem (walkS wSem m.kind) ([m.kind], m)).symm.trans this
  obtain ⟨_, ⟨e2, he2⟩, hr2⟩ := fwd_row _ (prs_row hf _) _ _ _ h2
  have k1 := hr1 b (e2 ++ rest) .zero (by rw [hb, he2]; simp)
  have k2 := hr2 b rest { PMsg.zero with kind := m.kind } rfl rfl hb
  have k3 : s_kind (rSem b) ((0 : Nat), PMsg.zero) = .ok (([m.kind] : List Nat).length, { PMsg.zero with kind := m.kind }) := k1
  have k4 : walkM (rSem b) ((0 : Nat), PMsg.zero) = .ok ((outM m).length, onlyM m) := by
    unfold walkM
    rw [k3]
    simp only
    rw [if_pos hk]
    have k5 : runL (walkS (rSem b) m.kind) (([m.kind] : List Nat).length, { PMsg.zero with kind := m.kind }) = .ok ((outM m).length, onlyM m) := by
      rw [← prs_r]
      exact k2
    exact (runS_runL (rSem b) (walkS (rSem b) m.kind) _).trans k5
  unfold readM
  rw [k4]
  have hs := size_of hb
  have : rest.length ≠ 0 := fun h => hr (List.eq_nil_of_length_eq_zero h)
  rw [List.length_append] at hs
  show (if (outM m).length < b.size then (Except.error 8 : Except Int PMsg) else .ok (onlyM m)) = _
  rw [if_pos (by omega)]
theorem read_cut {xs : List Nat} {m' : PMsg} (hf : m.Fits) (h : (walkM wSem (([] : List Nat), m) : Except Int (List Nat × PMsg)) = .ok (xs, m')) {b : ByteArray} {k : Nat} (hb : bytesOf b = xs.take k) (hk : k < xs.length) : readM b = .error 7 := by
  have hw := walk_em (m := m)
  rw [h] at hw
  split at hw
  rotate_left
  · cases hw
  rename_i hk2
  split at hw
  rotate_left
  · cases hw
  rename_i ho
  cases hw
  have hgo : walkM (rSem b) ((0 : Nat), PMsg.zero) = .error 7 := by
    cases k with
    | zero =>
      rw [List.take_zero] at hb
      have hs : b.size = 0 := size_of hb
      have h0 : rByte b 0 = .error 7 := by unfold rByte; rw [if_neg (by omega)]
      have h1 : s_kind (rSem b) ((0 : Nat), PMsg.zero) = .error 7 := st_byte_bad (K := rSem b) (s := ((0 : Nat), PMsg.zero)) h0
      unfold walkM
      rw [h1]
    | succ k =>
      have hb2 : bytesOf b = [m.kind] ++ ((emsM m m.kind).flatMap (·.out)).take k := hb
      obtain ⟨_, _, hr1⟩ := (e_kind hf).1 [] [m.kind] m rfl
      have k1 := hr1 b _ .zero hb2
      have k3 : s_kind (rSem b) ((0 : Nat), PMsg.zero) = .ok (([m.kind] : List Nat).length, { PMsg.zero with kind := m.kind }) := k1
      have hlen : k < ((emsM m m.kind).flatMap (·.out)).length := by
        have e : (outM m).length = ((emsM m m.kind).flatMap (·.out)).length + 1 := rfl
        omega
      have hc := cut_row (prs m.kind) (emsM m m.kind) (prs_row hf _) (cuts_walk hf _) (ems_prs m.kind) ho b [m.kind] { PMsg.zero with kind := m.kind } k rfl rfl hb2 hlen
      unfold walkM
      rw [k3]
      simp only
      rw [if_pos hk2]
      have k5 : runL (walkS (rSem b) m.kind) (([m.kind] : List Nat).length, { PMsg.zero with kind := m.kind }) = .error 7 := by
        rw [← prs_r]
        exact hc
      exact (runS_runL (rSem b) (walkS (rSem b) m.kind) _).trans k5
  unfold readM
  rw [hgo]
  rfl
end
end Go.Proofs.Ytmmhchpilcjflaa
