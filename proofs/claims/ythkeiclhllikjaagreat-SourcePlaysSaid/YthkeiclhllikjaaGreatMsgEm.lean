/-
  What is written of a message, in closed form; when a message is right.
-/
import Derived.Test.YthkeiclhllikjaaGreatMsgQj
set_option linter.unusedSimpArgs false
set_option linter.unusedVariables false
namespace Go.Proofs.YthkeiclhllikjaaGreat
open Go.RowKit
structure Em where
 ok : Bool
 out : List Nat
def inB (x : Int) : Bool := decide (0 ≤ x) && decide (x ≤ 2147483647)
def emN (x : Int) : Em := ⟨inB x, vbytes x.toNat⟩
def emB (b : Nat) : Em := ⟨true, [b]⟩
def emI (x : Int) : Em := ⟨true, vbytes (zig x)⟩
def emU (x : Nat) : Em := ⟨true, vbytes x⟩
def emT (s : ByteArray) (most : Nat) : Em := ⟨decide (s.size ≤ most), vbytes s.size ++ bytesOf s⟩
def listB (l : List Int) : List Nat := l.flatMap fun x => vbytes x.toNat
def emL (l : List Int) (most : Nat) : Em := ⟨l.all inB && decide (l.length ≤ most), vbytes l.length ++ listB l⟩
def Emits (m : PMsg) (g : Stp wSem) (e : Em) : Prop := ∀ xs : List Nat, g (xs, m) = if e.ok = true then .ok (xs ++ e.out, m) else .error 1
theorem wNum_in (xs : List Nat) (x : Int) : wNum xs x = if inB x = true then .ok (x, xs ++ vbytes x.toNat) else .error 1 := by
 unfold wNum inB
 by_cases h : 0 ≤ x ∧ x ≤ 2147483647
 ·rw [if_pos h, if_pos (by simp [h.1, h.2])]
 ·rw [if_neg h, if_neg (by simpa using h)]
section
variable {m : PMsg}
theorem emits_num {g : PMsg → Int} {u : PMsg → Int → PMsg} (hu : u m (g m) = m) : Emits m (st_num wSem g u) (emN (g m)) := fun xs => by
 unfold st_num
 have h : wSem.num (xs, m).1 (g (xs, m).2) = _ := wNum_in xs (g m)
 rw [h]
 by_cases hb : inB (g m) = true
 ·rw [if_pos hb]
  unfold emN
  rw [if_pos hb]
  simp only [hu]
 ·rw [if_neg hb]
  unfold emN
  rw [if_neg hb]
theorem emits_byte {g : PMsg → Nat} {u : PMsg → Nat → PMsg} (hu : u m (g m) = m) : Emits m (st_byte wSem g u) (emB (g m)) := fun xs => by
 show Except.ok (xs ++ [g m], u m (g m)) = _
 rw [hu]
 rfl
theorem emits_i64 {g : PMsg → Int} {u : PMsg → Int → PMsg} (hu : u m (g m) = m) : Emits m (st_i64 wSem g u) (emI (g m)) := fun xs => by
 show Except.ok (xs ++ vbytes (zig (g m)), u m (g m)) = _
 rw [hu]
 rfl
theorem emits_u64 {g : PMsg → Nat} {u : PMsg → Nat → PMsg} (hu : u m (g m) = m) : Emits m (st_u64 wSem g u) (emU (g m)) := fun xs => by
 show Except.ok (xs ++ vbytes (g m), u m (g m)) = _
 rw [hu]
 rfl
theorem emits_text {g : PMsg → ByteArray} {u : PMsg → ByteArray → PMsg} {most : Nat} (hu : u m (g m) = m) : Emits m (st_text wSem g u most) (emT (g m) most) := fun xs => by
 unfold st_text
 have h : wSem.text (xs, m).1 (g (xs, m).2) most = if ((g m).size : Int) ≤ most then .ok (g m, xs ++ vbytes (g m).size ++ bytesOf (g m)) else .error 1 := rfl
 rw [h]
 unfold emT
 by_cases hb : (g m).size ≤ most
 ·rw [if_pos (by omega), if_pos (by simpa using hb)]
  simp only [hu, List.append_assoc]
 ·rw [if_neg (by omega), if_neg (by simpa using hb)]
theorem loopM_bad {K : WSem} {st : K.σ} {x f : Int} {xs : List Int} (h : K.num st x = .error f) : loopM K st (x :: xs) = .error f := by simp [loopM, h]
theorem loopM_bad2 {K : WSem} {st st' : K.σ} {x v f : Int} {xs : List Int} (h : K.num st x = .ok (v, st')) (h2 : loopM K st' xs = .error f) : loopM K st (x :: xs) = .error f := by simp [loopM, h, h2]
theorem loop_em : ∀ (l : List Int) (xs : List Nat), (loopM wSem xs l : Except Int (List Int × List Nat)) = if l.all inB = true then .ok (l, xs ++ listB l) else .error 1
 | [], xs => by simp [loopM, listB]
 | x :: l, xs => by
  have h : wSem.num xs x = _ := wNum_in xs x
  by_cases hb : inB x = true
  ·rw [if_pos hb] at h
   have ih := loop_em l (xs ++ vbytes x.toNat)
   by_cases hl : l.all inB = true
   ·rw [if_pos hl] at ih
    rw [if_pos (by simp [hb]; simpa using hl)]
    exact (loopM_cons (K := wSem) h ih).trans (by simp [listB])
   ·rw [if_neg hl] at ih
    rw [if_neg (by simp [hb]; simpa using hl)]
    exact loopM_bad2 (K := wSem) h ih
  ·rw [if_neg hb] at h
   rw [if_neg (by simp [hb])]
   exact loopM_bad (K := wSem) h
theorem nums_em (l : List Int) (xs : List Nat) (most : Nat) : (numsM wSem xs l most : Except Int (List Int × List Nat)) = if (emL l most).ok = true then .ok (l, xs ++ (emL l most).out) else .error 1 := by
 unfold numsM
 have h : wSem.count xs l.length most = if (l.length : Int) ≤ most then .ok ((l.length : Int), xs ++ vbytes (l.length : Int).toNat) else .error 1 := rfl
 rw [h]
 unfold emL
 by_cases hn : l.length ≤ most
 ·rw [if_pos (by omega)]
  simp only
  have hp : (List.range (l.length : Int).toNat).map (fun j => l.getD j 0) = l := by rw [Int.toNat_natCast]; exact pad_self l
  rw [hp, loop_em l _]
  by_cases hl : l.all inB = true
  ·rw [if_pos hl, if_pos (by rw [hl]; simpa using hn)]
   simp
  ·rw [if_neg hl, if_neg (by simp; intro h; exact absurd (by simpa using h) hl)]
 ·rw [if_neg (by omega), if_neg (by simp [hn])]
theorem emits_owner : Emits m (s_owner wSem) (emL m.owner 64) := fun xs => by
 unfold s_owner
 have h : numsM wSem (xs, m).1 (xs, m).2.owner 64 = _ := nums_em m.owner xs 64
 rw [h]
 by_cases hb : (emL m.owner 64).ok = true
 ·rw [if_pos hb, if_pos hb]
 ·rw [if_neg hb, if_neg hb]
theorem emits_set : Emits m (s_set wSem) (emL m.set 1024) := fun xs => by
 unfold s_set
 have h : numsM wSem (xs, m).1 (xs, m).2.set 1024 = _ := nums_em m.set xs 1024
 rw [h]
 by_cases hb : (emL m.set 1024).ok = true
 ·rw [if_pos hb, if_pos hb]
 ·rw [if_neg hb, if_neg hb]
end
def emsM (m : PMsg) (c : Nat) : List Em :=
 match c with
 | 1 => [emN m.isrc, emN m.iseq, emN m.ilow, emB m.ikind, emT m.ikey 255, emN m.ipart, emI m.iat, emI m.iN]
 | 2 => [emN m.isrc, emN m.iseq, emN m.code]
 | 3 => [emN m.isrc, emN m.iseq, emN m.epoch, emN m.nodes, emL m.owner 64]
 | 4 => [emN m.move, emN m.part, emN m.to]
 | 5 => [emN m.move, emN m.part, emN m.n, emN m.count, emT m.data 1024]
 | 6 => [emN m.move, emN m.part, emN m.n, emL m.set 1024]
 | 7 => [emN m.move, emN m.part, emN m.n, emN m.isrc, emN m.iseq, emN m.ilow, emB m.ikind, emT m.ikey 255, emN m.ipart, emI m.iat, emI m.iN]
 | 8 => [emN m.move, emN m.part, emN m.n]
 | 9 => [emN m.move, emN m.part, emN m.n, emI m.at_, emU m.digest]
 | 10 => [emN m.move, emN m.part, emN m.code]
 | 11 => [emN m.move, emN m.part, emN m.epoch, emN m.nodes, emL m.owner 64]
 | 12 => [emN m.move, emN m.part]
 | 13 => [emN m.move, emN m.part]
 | 14 => [emN m.epoch, emN m.nodes, emL m.owner 64]
 | _ => []
def EmL (m : PMsg) : List (Stp wSem) → List Em → Prop
 | [], [] => True
 | g :: gs, e :: es => Emits m g e ∧ EmL m gs es
 | _, _ => False
section
variable {m : PMsg}
theorem run_em : ∀ (gs : List (Stp wSem)) (es : List Em) (xs : List Nat), EmL m gs es → (runS wSem gs (xs, m) : Except Int (List Nat × PMsg)) = if es.all (·.ok) = true then .ok (xs ++ es.flatMap (·.out), m) else .error 1
 | [], [], xs, _ => by simp [runS]
 | g :: gs, e :: es, xs, h => by
  rw [runS, h.1 xs]
  by_cases hb : e.ok = true
  ·rw [if_pos hb]
   have ih := run_em gs es (xs ++ e.out) h.2
   simp only
   rw [ih]
   by_cases hl : es.all (·.ok) = true
   ·rw [if_pos hl, if_pos (by simp [hb]; simpa using hl)]
    simp
   ·rw [if_neg hl, if_neg (by simp [hb]; simpa using hl)]
  ·rw [if_neg hb, if_neg (by simp [hb])]
 | [], _ :: _, _, h => h.elim
 | _ :: _, [], _, h => h.elim
theorem ems_walk : ∀ c : Nat, EmL m (walkS wSem c) (emsM m c)
 | 0 => trivial
 | 1 => ⟨emits_num rfl, emits_num rfl, emits_num rfl, emits_byte rfl, emits_text rfl, emits_num rfl, emits_i64 rfl, emits_i64 rfl, trivial⟩
 | 2 => ⟨emits_num rfl, emits_num rfl, emits_num rfl, trivial⟩
 | 3 => ⟨emits_num rfl, emits_num rfl, emits_num rfl, emits_num rfl, emits_owner, trivial⟩
 | 4 => ⟨emits_num rfl, emits_num rfl, emits_num rfl, trivial⟩
 | 5 => ⟨emits_num rfl, emits_num rfl, emits_num rfl, emits_num rfl, emits_text rfl, trivial⟩
 | 6 => ⟨emits_num rfl, emits_num rfl, emits_num rfl, emits_set, trivial⟩
 | 7 => ⟨emits_num rfl, emits_num rfl, emits_num rfl, emits_num rfl, emits_num rfl, emits_num rfl, emits_byte rfl, emits_text rfl, emits_num rfl, emits_i64 rfl, emits_i64 rfl, trivial⟩
 | 8 => ⟨emits_num rfl, emits_num rfl, emits_num rfl, trivial⟩
 | 9 => ⟨emits_num rfl, emits_num rfl, emits_num rfl, emits_i64 rfl, emits_u64 rfl, trivial⟩
 | 10 => ⟨emits_num rfl, emits_num rfl, emits_num rfl, trivial⟩
 | 11 => ⟨emits_num rfl, emits_num rfl, emits_num rfl, emits_num rfl, emits_owner, trivial⟩
 | 12 => ⟨emits_num rfl, emits_num rfl, trivial⟩
 | 13 => ⟨emits_num rfl, emits_num rfl, trivial⟩
 | 14 => ⟨emits_num rfl, emits_num rfl, emits_owner, trivial⟩
 | n + 15 => trivial
def okM (m : PMsg) : Bool := (emsM m m.kind).all (·.ok)
def outM (m : PMsg) : List Nat := m.kind :: (emsM m m.kind).flatMap (·.out)
theorem walk_em : (walkM wSem (([] : List Nat), m) : Except Int (List Nat × PMsg)) = if 1 ≤ m.kind ∧ m.kind ≤ 14 then (if okM m = true then .ok (outM m, m) else .error 1) else .error 10 := by
 unfold walkM
 have hk : s_kind wSem (([] : List Nat), m) = .ok ([m.kind], m) := rfl
 rw [hk]
 simp only
 by_cases h : 1 ≤ m.kind ∧ m.kind ≤ 14
 ·rw [if_pos h, if_pos h]
  exact run_em _ _ [m.kind] (ems_walk m.kind)
 ·rw [if_neg h, if_neg h]
theorem bytes_em (hf : m.Fits) (hk : m.kind < 256) (hik : m.ikind < 256) : bytesM m = if 1 ≤ m.kind ∧ m.kind ≤ 14 then (if (okM m && sameB (onlyM m) m) = true then .ok (packB (outM m)) else .error 1) else .error 10 := by
 unfold bytesM
 have hw := walk_em (m := m)
 by_cases h : 1 ≤ m.kind ∧ m.kind ≤ 14
 ·rw [if_pos h] at hw ⊢
  by_cases ho : okM m = true
  ·rw [if_pos ho] at hw
   rw [hw]
   have hall := walk_allB hk hik hw
   have hr := (write_read hf hw).2.2 (packB (outM m)) (bytes_pack hall)
   have hb : backM (packB (outM m)) = onlyM m := by unfold backM; rw [hr]
   show (if sameB (backM (packB (outM m))) m = true then (Except.ok (packB (outM m)) : Except Int ByteArray) else .error 1) = _
   rw [hb, ho, Bool.true_and]
  ·rw [if_neg ho] at hw
   rw [hw]
   have : okM m = false := by simpa using ho
   rw [this]
   rfl
 ·rw [if_neg h] at hw ⊢
  rw [hw]
  rfl
theorem vb_le {x : Int} (h : inB x = true) : (vbytes x.toNat).length ≤ 10 := vbytes_le (by simp [inB] at h; omega)
theorem listB_le : ∀ {l : List Int}, l.all inB = true → (listB l).length ≤ 10 * l.length
 | [], _ => by simp [listB]
 | x :: l, h => by
  simp at h
  have h1 := vb_le h.1
  have h2 := listB_le (l := l) (by simpa using h.2)
  simp only [listB, List.flatMap_cons, List.length_append, List.length_cons] at h2 ⊢
  omega
theorem emN_le {x : Int} (h : (emN x).ok = true) : (emN x).out.length ≤ 10 := vb_le h
theorem emB_le {b : Nat} : (emB b).out.length ≤ 10 := by simp [emB]
theorem zig_lt {x : Int} (h0 : -9223372036854775808 ≤ x) (h1 : x < 9223372036854775808) : zig x < 18446744073709551616 := by unfold zig; split <;> omega
theorem emI_le {x : Int} (h0 : -9223372036854775808 ≤ x) (h1 : x < 9223372036854775808) : (emI x).out.length ≤ 10 := vbytes_le (zig_lt h0 h1)
theorem emU_le {x : Nat} (h : x < 18446744073709551616) : (emU x).out.length ≤ 10 := vbytes_le h
theorem emT_le {s : ByteArray} {n : Nat} (hn : n ≤ 2000) (h : (emT s n).ok = true) : (emT s n).out.length ≤ 10 + n := by
 simp [emT] at h
 have h1 := vbytes_le (x := s.size) (by omega)
 have h2 : (bytesOf s).length = s.size := by simp [bytesOf]
 simp only [emT, List.length_append]
 omega
theorem emL_le {l : List Int} {n : Nat} (hn : n ≤ 2000) (h : (emL l n).ok = true) : (emL l n).out.length ≤ 10 + 10 * n := by
 simp only [emL, Bool.and_eq_true, decide_eq_true_eq] at h
 have h1 := vbytes_le (x := l.length) (by omega)
 have h2 := listB_le h.1
 simp only [emL, List.length_append]
 omega
set_option maxRecDepth 100000 in
theorem out_le (hf : m.Fits) (h : okM m = true) : (outM m).length ≤ 16000 := by
 unfold okM at h
 unfold outM
 have e0 : ∀ {x : Int}, (emN x).ok = true → (emN x).out.length ≤ 10 := emN_le
 have a1 := emI_le hf.at0 hf.at1
 have a2 := emI_le hf.iat0 hf.iat1
 have a3 := emI_le hf.iN0 hf.iN1
 have a4 := emU_le hf.digest
 have a5 := emB_le (b := m.ikind)
 have a6 : (emT m.ikey 255).ok = true → (emT m.ikey 255).out.length ≤ 265 := emT_le (by decide)
 have a7 : (emT m.data 1024).ok = true → (emT m.data 1024).out.length ≤ 1034 := emT_le (by decide)
 have a8 : (emL m.owner 64).ok = true → (emL m.owner 64).out.length ≤ 650 := emL_le (by decide)
 have a9 : (emL m.set 1024).ok = true → (emL m.set 1024).out.length ≤ 10250 := emL_le (by decide)
 generalize m.kind = c at h
 unfold emsM at h ⊢
 split at h <;> simp only [List.all_cons, List.all_nil, Bool.and_true, Bool.and_eq_true, List.length_cons, List.flatMap_cons, List.flatMap_nil, List.length_append, List.length_nil, List.append_nil] at h ⊢
 ·obtain ⟨h0, h1, h2, h3, h4, h5, h6, h7⟩ := h
  have k0 := e0 h0
  have k1 := e0 h1
  have k2 := e0 h2
  have k4 := a6 h4
  have k5 := e0 h5
  omega
 ·obtain ⟨h0, h1, h2⟩ := h
  have k0 := e0 h0
  have k1 := e0 h1
  have k2 := e0 h2
  omega
 ·obtain ⟨h0, h1, h2, h3, h4⟩ := h
  have k0 := e0 h0
  have k1 := e0 h1
  have k2 := e0 h2
  have k3 := e0 h3
  have k4 := a8 h4
  omega
 ·obtain ⟨h0, h1, h2⟩ := h
  have k0 := e0 h0
  have k1 := e0 h1
  have k2 := e0 h2
  omega
 ·obtain ⟨h0, h1, h2, h3, h4⟩ := h
  have k0 := e0 h0
  have k1 := e0 h1
  have k2 := e0 h2
  have k3 := e0 h3
  have k4 := a7 h4
  omega
 ·obtain ⟨h0, h1, h2, h3⟩ := h
  have k0 := e0 h0
  have k1 := e0 h1
  have k2 := e0 h2
  have k3 := a9 h3
  omega
 ·obtain ⟨h0, h1, h2, h3, h4, h5, h6, h7, h8, h9, h10⟩ := h
  have k0 := e0 h0
  have k1 := e0 h1
  have k2 := e0 h2
  have k3 := e0 h3
  have k4 := e0 h4
  have k5 := e0 h5
  have k7 := a6 h7
  have k8 := e0 h8
  omega
 ·obtain ⟨h0, h1, h2⟩ := h
  have k0 := e0 h0
  have k1 := e0 h1
  have k2 := e0 h2
  omega
 ·obtain ⟨h0, h1, h2, h3, h4⟩ := h
  have k0 := e0 h0
  have k1 := e0 h1
  have k2 := e0 h2
  omega
 ·obtain ⟨h0, h1, h2⟩ := h
  have k0 := e0 h0
  have k1 := e0 h1
  have k2 := e0 h2
  omega
 ·obtain ⟨h0, h1, h2, h3, h4⟩ := h
  have k0 := e0 h0
  have k1 := e0 h1
  have k2 := e0 h2
  have k3 := e0 h3
  have k4 := a8 h4
  omega
 ·obtain ⟨h0, h1⟩ := h
  have k0 := e0 h0
  have k1 := e0 h1
  omega
 ·obtain ⟨h0, h1⟩ := h
  have k0 := e0 h0
  have k1 := e0 h1
  omega
 ·obtain ⟨h0, h1, h2⟩ := h
  have k0 := e0 h0
  have k1 := e0 h1
  have k2 := a8 h2
  omega
 ·omega
end
end Go.Proofs.YthkeiclhllikjaaGreat
