/-
  A source's width, its answers and its packets, in plain words; one source in its world.
-/
import Derived.Test.YthkeiclhllikjaaGreatSvT
set_option linter.unusedSimpArgs false
set_option linter.unusedVariables false
namespace Go.Proofs.YthkeiclhllikjaaGreat
open Go.RowKit
/-- What stands of a source, whatever comes. -/
structure LowI (S : PSrc) (n : Int) (i : Nat) : Prop where
  hold : Hold S n i
  rt : rightT S.t = true
  nd : S.t.nd = 3
  codes : ∀ q ∈ S.L, q.2 ≤ 4
  width : S.L.length < lowN S.L + 16
  it : ∀ (j : Nat) p, S.L[j]? = some p → p.1.seq = ((j + 1 : Nat) : Int) ∧ p.1.src = S.src ∧ p.1.key.size ≤ 255 ∧ 0 ≤ p.1.part ∧ p.1.part < 5
/-- What is answered stays so. -/
def Ext (S S' : PSrc) : Prop := S.L.length ≤ S'.L.length ∧ ∀ k, codeN S.L k ≠ 0 → codeN S'.L k = codeN S.L k
section
variable {S S' S2 : PSrc} {n k c : Int} {i j : Nat} {x : PAct} {y : PItem} {m : PMsg} {t u : PTab} {L : List (PItem × Nat)}
theorem Ext.refl : Ext S S := ⟨Nat.le_refl _, fun _ _ => rfl⟩
theorem Ext.trans (h : Ext S S') (h2 : Ext S' S2) : Ext S S2 := ⟨Nat.le_trans h.1 h2.1, fun k hk => by rw [h2.2 k (by rw [h.2 k hk]; exact hk), h.2 k hk]⟩
theorem codeN_push : codeN (L ++ [(y, 0)]) k = codeN L k := by
  unfold codeN
  by_cases h : 1 ≤ k
  · rw [if_pos h, if_pos h]
    by_cases h2 : (k - 1).toNat < L.length
    · rw [List.getElem?_append_left h2]
    · rw [List.getElem?_eq_none (l := L) (by omega)]
      rcases Nat.lt_or_ge (k - 1).toNat (L ++ [(y, 0)]).length with h3 | h3
      · rw [List.length_append] at h3
        simp only [List.length_cons, List.length_nil] at h3
        rw [List.getElem?_append_right (by omega), show (k - 1).toNat - L.length = 0 by omega]
        rfl
      · rw [List.getElem?_eq_none h3]
  · rw [if_neg h, if_neg h]
theorem ext_send : Ext S (sendM S y).1 := by
  unfold sendM
  split
  · exact Ext.refl
  split
  · exact Ext.refl
  split
  · exact Ext.refl
  split
  · exact Ext.refl
  · exact ⟨by show S.L.length ≤ (S.L ++ [_]).length; simp, fun k _ => codeN_push⟩
theorem ext_ans : Ext S (ansM S k c).1 := by
  unfold ansM
  split
  · exact Ext.refl
  · rename_i h
    have ho : openB S.L k = true := by
      cases e : openB S.L k with
      | true => rfl
      | false => rw [e] at h; exact absurd rfl h
    obtain ⟨i, p, hi, rfl, e⟩ := setA_eq (c := c) ho
    refine ⟨by show S.L.length ≤ (setA S.L _ c).length; rw [setA_len]; exact Nat.le_refl _, fun k hk => ?_⟩
    show codeN (setA S.L _ c) k = _
    rw [e, codeN_set hi]
    split
    · rename_i hk2
      subst hk2
      exact absurd (openB_iff.1 ho).2 hk
    · rfl
theorem ext_handle : Ext S (handleM S m).1 := by
  unfold handleM
  split
  · exact ext_ans
  · split
    · exact Ext.refl
    · exact Ext.refl
theorem ext_one : Ext S (oneM S n x).1 := by
  unfold oneM
  split
  · exact ext_send
  · split
    · exact ext_handle
    · split
      · exact ext_handle
      · exact Ext.refl
theorem LowI.mono (h : LowI S n i) : LowI S n (i + 1) := { h with hold := h.hold.mono }
theorem low_send (h : LowI S n i) (hx : y.Ok) : LowI (sendM S y).1 n (i + 1) := by
  have hh := hold_send h.hold hx
  have hown := h.hold.own
  unfold sendM at hh ⊢
  split
  · exact h.mono
  split
  · exact h.mono
  split
  · exact h.mono
  split
  · exact h.mono
  · rename_i h1 h2 h3 h4
    rw [if_neg h1, if_neg h2, if_neg h3, if_neg h4] at hh
    simp only [Bool.or_eq_true, decide_eq_true_eq, not_or] at h3
    refine ⟨hh, h.rt, h.nd, fun q hq => ?_, ?_, fun j p hp => ?_⟩
    · rcases List.mem_append.1 hq with hq | hq
      · exact h.codes q hq
      · rcases List.mem_singleton.1 hq with rfl
        exact Nat.zero_le _
    · show (S.L ++ [_]).length < lowN (S.L ++ [_]) + 16
      rw [lowN_push, List.length_append]
      simp only [List.length_cons, List.length_nil]
      omega
    · rcases Nat.lt_or_ge j S.L.length with hj | hj
      · rw [show (S.L ++ [_])[j]? = S.L[j]? from List.getElem?_append_left hj] at hp
        exact h.it j p hp
      · have hj2 := (List.getElem?_eq_some_iff.1 hp).1
        rw [List.length_append] at hj2
        simp only [List.length_cons, List.length_nil] at hj2
        obtain rfl : j = S.L.length := by omega
        rw [List.getElem?_append_right (Nat.le_refl _), Nat.sub_self] at hp
        cases hp
        exact ⟨rfl, rfl, by show y.key.size ≤ 255; omega, by show 0 ≤ y.part; omega, by show y.part < 5; omega⟩
theorem low_ans (h : LowI S n i) : LowI (ansM S k c).1 n i := by
  have hh := hold_ans (k := k) (c := c) h.hold
  unfold ansM at hh ⊢
  split
  · exact h
  · rename_i hn
    rw [if_neg hn] at hh
    simp only [Bool.or_eq_true, Bool.not_eq_true', decide_eq_true_eq, not_or, Bool.not_eq_false] at hn
    obtain ⟨i2, p, hi, rfl, e⟩ := setA_eq (c := c) hn.1.1
    have hpe : S.L[i2]? = some (S.L[i2]) := List.getElem?_eq_getElem hi
    have e2 : setA S.L ((i2 + 1 : Nat) : Int) c = S.L.set i2 (S.L[i2].1, c.toNat) := by
      unfold setA
      rw [show (((i2 + 1 : Nat) : Int) - 1).toNat = i2 by omega, hpe]
    refine ⟨hh, h.rt, h.nd, fun q hq => ?_, ?_, fun j p hp => ?_⟩
    · have hq : q ∈ setA S.L ((i2 + 1 : Nat) : Int) c := hq
      rw [e2] at hq
      rcases List.mem_or_eq_of_mem_set hq with hq | rfl
      · exact h.codes q hq
      · show c.toNat ≤ 4
        omega
    · show (setA S.L _ c).length < lowN (setA S.L _ c) + 16
      rw [setA_len, e2]
      have h1 := lowN_set (L := S.L) (i := i2) (x := S.L[i2].1) (d := c.toNat) hi (by omega)
      have h2 := h.width
      omega
    · have hp : (setA S.L ((i2 + 1 : Nat) : Int) c)[j]? = some p := hp
      rw [e2, List.getElem?_set] at hp
      by_cases hj : i2 = j
      · subst hj
        rw [if_pos rfl, if_pos hi] at hp
        cases hp
        exact h.it i2 S.L[i2] hpe
      · rw [if_neg hj] at hp
        exact h.it j p hp
theorem keepT_right (h : rightT t = true) (hn : t.nd = 3) : rightT (keepT t u).1 = true ∧ (keepT t u).1.nd = 3 := by
  unfold keepT
  split
  · rename_i h2
    unfold newerT at h2
    simp only [Bool.and_eq_true, beq_iff_eq] at h2
    exact ⟨h2.1.1.1.1, h2.1.1.2.trans hn⟩
  · exact ⟨h, hn⟩
theorem low_handle (h : LowI S n i) : LowI (handleM S m).1 n i := by
  have hh := hold_handle (m := m) h.hold
  unfold handleM at hh ⊢
  split
  · exact low_ans h
  · rename_i h1
    rw [if_neg h1] at hh
    split
    · rename_i h2
      rw [if_pos h2] at hh
      have hk := keepT_right (u := ⟨m.epoch, m.nodes, m.owner⟩) h.rt h.nd
      exact ⟨hh, hk.1, hk.2, h.codes, h.width, h.it⟩
    · exact h
theorem low_one (h : LowI S n i) (hx : x.item.Ok) : LowI (oneM S n x).1 n (i + 1) := by
  unfold oneM
  split
  · exact low_send h hx
  · split
    · exact (low_handle h).mono
    · split
      · exact (low_handle h).mono
      · exact h.mono
/-! What is open, and what goes out. -/
theorem open_few : ∀ j, (ents (opF L) j).length ≤ j - (lowN L - 1)
  | 0 => Nat.zero_le _
  | j + 1 => by
    have ih := open_few j
    unfold ents
    rw [List.length_append]
    cases hf : opF L j with
    | none =>
      simp only [List.length_nil]
      omega
    | some v =>
      simp only [List.length_cons, List.length_nil]
      have hj : ¬ j + 1 < lowN L := fun hlt => by
        have h2 := codeN_below (L := L) (j := j + 1) (by omega) hlt
        unfold opF at hf
        unfold codeN at h2
        rw [if_pos (by omega), show (((j + 1 : Nat) : Int) - 1).toNat = j by omega] at h2
        cases hq : L[j]? with
        | none => rw [hq] at hf; cases hf
        | some q =>
          rw [hq] at hf h2
          simp only at hf
          by_cases h0 : q.2 = 0
          · exact h2 (by simpa using h0)
          · rw [if_neg h0] at hf
            cases hf
      have := lowN_pos (L := L)
      omega
theorem LowI.few (h : LowI S n i) : (opE S.L).length ≤ 16 := by
  have h1 := open_few (L := S.L) S.L.length
  have h2 := h.width
  have h3 := lowN_pos (L := S.L)
  unfold opE
  omega
theorem opItems_at {y : PItem} (h : y ∈ opItems L) : ∃ j : Nat, L[j]? = some (y, 0) := by
  unfold opItems at h
  obtain ⟨q, hq, rfl⟩ := List.mem_map.1 h
  obtain ⟨hq, h0⟩ := List.mem_filter.1 hq
  obtain ⟨j, hj, e⟩ := List.mem_iff_getElem.1 hq
  refine ⟨j, ?_⟩
  rw [List.getElem?_eq_getElem hj, e]
  have h0 : q.2 = 0 := by simpa using h0
  rw [← h0]
/-- An item that goes out, with the least open number of now. -/
def outI (S : PSrc) (y : PItem) : PItem := { y with low := (lowN S.L : Nat) }
theorem out_good (h : LowI S n i) (hi : i ≤ 100000) (n0 : 0 ≤ n) (n1 : n < 1000) (hy : y ∈ opItems S.L) : (outI S y).Good := by
  obtain ⟨j, hj⟩ := opItems_at hy
  obtain ⟨h1, h2, h3, h4, h5⟩ := h.it j _ hj
  have hjl := (List.getElem?_eq_some_iff.1 hj).1
  have hl := h.hold.len
  have hlo := lowN_le (L := S.L)
  have ho := h.hold.ok _ (List.mem_of_getElem? hj)
  have hs := h.hold.src
  simp only at h1 h2 h3 h4 h5 ho
  refine ⟨⟨ho.kind, ho.key, ho.at0, ho.at1, ho.n0, ho.n1⟩, ?_, ?_, ?_, ?_, ?_, ?_, h4, ?_, h3⟩
  · show 0 ≤ y.src
    omega
  · show y.src ≤ 2147483647
    omega
  · show 0 ≤ y.seq
    omega
  · show y.seq ≤ 2147483647
    omega
  · show (0 : Int) ≤ (lowN S.L : Nat)
    omega
  · show ((lowN S.L : Nat) : Int) ≤ 2147483647
    omega
  · show y.part ≤ 2147483647
    omega
theorem own_in (h : rightT t = true) (hn : t.nd = 3) {z : Int} (hz : z ∈ t.own) : 0 ≤ z ∧ z ≤ 2 := by
  unfold rightT at h
  simp only [Bool.and_eq_true, Bool.not_eq_true'] at h
  have h2 := h.2
  rw [List.any_eq_false] at h2
  have h3 := h2 z hz
  unfold badN at h3
  simp only [Bool.or_eq_true, decide_eq_true_eq, not_or] at h3
  omega
theorem out_part (h : LowI S n i) (hy : y ∈ opItems S.L) : 0 ≤ partS S.t (outI S y) ∧ partS S.t (outI S y) < 5 := by
  obtain ⟨j, hj⟩ := opItems_at hy
  obtain ⟨h1, h2, h3, h4, h5⟩ := h.it j _ hj
  unfold partS
  split
  · exact ⟨h4, h5⟩
  · rw [h.hold.own]
    unfold ofS
    rw [if_neg (by decide)]
    have := Nat.mod_lt (prN (bytesOf (outI S y).key)) (show 0 < ((5 : Nat) : Int).toNat by decide)
    have e : ((5 : Nat) : Int).toNat = 5 := rfl
    rw [e] at this ⊢
    omega
/-- To whom it goes. -/
def toN (S : PSrc) (y : PItem) : Int := (ownT S.t (partS S.t (outI S y))).1
theorem out_to (h : LowI S n i) (hy : y ∈ opItems S.L) : (ownT S.t (partS S.t (outI S y))).2 = true ∧ 0 ≤ toN S y ∧ toN S y ≤ 2 := by
  have hp := out_part h hy
  have ho := h.hold.own
  have e : ownT S.t (partS S.t (outI S y)) = (S.t.own.getD (partS S.t (outI S y)).toNat 0, true) := by
    unfold ownT
    rw [h.rt, decide_eq_false (by omega), decide_eq_false (by omega)]
    rfl
  unfold toN
  rw [e]
  refine ⟨rfl, own_in h.rt h.nd ?_⟩
  simp only
  rw [List.getD_eq_getElem?_getD, List.getElem?_eq_getElem (by omega)]
  exact List.getElem_mem _
theorem out_pkt (h : LowI S n i) (hi : i ≤ 100000) (n0 : 0 ≤ n) (n1 : n < 1000) (hy : y ∈ opItems S.L) : pkt S y = some (4 + S.src, toN S y, itD (outI S y)) := by
  have e := item_data (out_good h hi n0 n1 hy)
  unfold outI at e
  unfold pkt
  rw [e]
  have h2 := (out_to h hy).1
  unfold outI at h2
  simp only
  rw [if_pos h2]
  rfl
theorem filt_all {α β : Type} {f : α → Option β} {g : α → β} : ∀ {l : List α}, (∀ x ∈ l, f x = some (g x)) → l.filterMap f = l.map g
  | [], _ => rfl
  | x :: r, h => by
    rw [List.filterMap_cons, h x (by simp), List.map_cons, filt_all fun y hy => h y (by simp [hy])]
theorem out_all (h : LowI S n i) (hi : i ≤ 100000) (n0 : 0 ≤ n) (n1 : n < 1000) : pktsM S = (opItems S.L).map fun y => (4 + S.src, toN S y, itD (outI S y)) :=
  filt_all fun y hy => out_pkt h hi n0 n1 hy
theorem open_rise (h : LowI S n i) : (opItems S.L).Pairwise fun a b => a.seq < b.seq := by
  unfold opItems
  refine List.pairwise_map.2 (List.Pairwise.filter _ ?_)
  refine List.pairwise_iff_getElem.2 fun a b ha hb hab => ?_
  have h1 := (h.it a _ (List.getElem?_eq_getElem ha)).1
  have h2 := (h.it b _ (List.getElem?_eq_getElem hb)).1
  omega
theorem open_code (h : LowI S n i) (hy : y ∈ opItems S.L) : codeN S.L y.seq = 0 ∧ 1 ≤ y.seq ∧ y.seq ≤ S.L.length := by
  obtain ⟨j, hj⟩ := opItems_at hy
  have h1 := (h.it j _ hj).1
  have hjl := (List.getElem?_eq_some_iff.1 hj).1
  simp only at h1
  refine ⟨?_, by omega, by omega⟩
  unfold codeN
  rw [if_pos (by omega), show (y.seq - 1).toNat = j by omega, hj]
  rfl
/-- When all is answered. -/
theorem all_low (h : ∀ k : Nat, 1 ≤ k → k ≤ L.length → codeN L k ≠ 0) : lowN L = L.length + 1 := by
  have h1 := codeN_low (L := L)
  have h2 := lowN_pos (L := L)
  have h3 := lowN_le (L := L)
  rcases Nat.lt_or_ge L.length (lowN L) with h4 | h4
  · omega
  · exact absurd h1 (h _ h2 h4)
theorem all_open (h : lowN L = L.length + 1) : (opE L).length = 0 := by
  have h1 := open_few (L := L) L.length
  unfold opE
  omega
theorem codeN_le (h : ∀ q ∈ L, q.2 ≤ 4) : codeN L k ≤ 4 := by
  unfold codeN
  split
  · cases e : L[(k - 1).toNat]? with
    | none => exact Nat.zero_le _
    | some q => exact h q (List.mem_of_getElem? e)
  · exact Nat.zero_le _
theorem codeN_out (h : ¬ (1 ≤ k ∧ k ≤ L.length)) : codeN L k = 0 := by
  unfold codeN
  split
  · rw [List.getElem?_eq_none (by omega)]
    rfl
  · rfl
end
/-! One source, and what a law has made beside. -/
def OneK (w0 : World) (p bo ba : Nat) (S : PSrc) (K : List Thg) (w : World) : Prop :=
  ∃ v L, LV w0 (srcs p S v bo ba (K ++ L)) w ∧ ∀ w, LV w0 L w → Rd w v S.t.own
section
variable {w0 W w : World} {p bo ba b : Nat} {S : PSrc} {x : PItem} {k : Int} {m : PMsg} {vo vs v : Value} {L K K' X : List Thg} {g : Nat} {A : Array Value} {t : TypeId} {q q' : Thg} {M : Ents} {T E : TypeId}
theorem OneK.below (h : OneK w0 p bo ba S K w) : Below w0.heap.size w0 w := by
  obtain ⟨v, L, hL, hv⟩ := h
  exact hL.1
theorem OneK.call (h : OneK w0 p bo ba S K W) (hb : Below W.heap.size W w) : OneK w0 p bo ba S K w := by
  obtain ⟨v, L, hL, hv⟩ := h
  exact ⟨v, L, hL.call hb, hv⟩
theorem OneK.drew (h : OneK w0 p bo ba S K w) : OneK w0 p bo ba S K w.drew := by
  obtain ⟨v, L, hL, hv⟩ := h
  exact ⟨v, L, hL.drew, hv⟩
theorem OneK.mem (h : OneK w0 p bo ba S K w) (hm : bk g A t ∈ K) : w.heap[g]? = some (.cells A t (0, 0)) := by
  obtain ⟨v, L, hL, hv⟩ := h
  exact hL.mem_at (by simp [hm])
theorem OneK.map (h : OneK w0 p bo ba S K w) (hm : mp b M ∈ K) : MapAt w b M := by
  obtain ⟨v, L, hL, hv⟩ := h
  exact hL.mem_map (by simp [hm])
theorem OneK.cl (h : OneK w0 p bo ba S K w) (hm : bk g A t ∈ K) (i : Nat) : w.cell? ⟨g, i, none⟩ = A[i]? := cells_at (h.mem hm) i
theorem OneK.lvl (h : OneK w0 p bo ba S K w) : ∃ L, LV w0 (K ++ L) w := by
  obtain ⟨v, L, hL, hv⟩ := h
  exact ⟨L, hL.dropl (X := [_, _, _])⟩
theorem OneK.perm (h : OneK w0 p bo ba S K w) (hp : K.Perm K') : OneK w0 p bo ba S K' w := by
  obtain ⟨v, L, hL, hv⟩ := h
  exact ⟨v, L, hL.perm ((((hp.append_right L).cons _).cons _).cons _), hv⟩
theorem OneK.add (h : OneK w0 p bo ba S K W) (hf : ∀ R, LV w0 R W → LV w0 (q :: R) w) : OneK w0 p bo ba S (q :: K) w := by
  obtain ⟨v, L, hL, hv⟩ := h
  exact ⟨v, L, (hf _ hL).perm (List.perm_middle (l₁ := [_, _, _])).symm, hv⟩
theorem OneK.upd (h : OneK w0 p bo ba S (q :: K) W) (hf : ∀ R, LV w0 (q :: R) W → LV w0 (q' :: R) w) : OneK w0 p bo ba S (q' :: K) w := by
  obtain ⟨v, L, hL, hv⟩ := h
  have h2 := hL.perm (List.perm_middle (l₁ := [_, _, _]))
  exact ⟨v, L, (hf _ h2).perm (List.perm_middle (l₁ := [_, _, _])).symm, hv⟩
theorem OneK.tail (h : OneK w0 p bo ba S (q :: K) w) : OneK w0 p bo ba S K w := by
  obtain ⟨v, L, hL, hv⟩ := h
  exact ⟨v, L, (hL.perm (List.perm_middle (l₁ := [_, _, _]))).tail, hv⟩
theorem OneK.addl (h : OneK w0 p bo ba S K W) (hf : ∀ R, LV w0 R W → LV w0 (X ++ R) w) : OneK w0 p bo ba S (X ++ K) w := by
  obtain ⟨v, L, hL, hv⟩ := h
  refine ⟨v, L, (hf _ hL).perm ?_, hv⟩
  rw [List.append_assoc]
  exact List.perm_append_comm_assoc X [_, _, _] (K ++ L)
theorem OneK.dropl (h : OneK w0 p bo ba S (X ++ K) w) : OneK w0 p bo ba S K w := by
  obtain ⟨v, L, hL, hv⟩ := h
  rw [List.append_assoc] at hL
  exact ⟨v, L, LV.dropl (X := X) (hL.perm (List.perm_append_comm_assoc X [_, _, _] (K ++ L)).symm), hv⟩
theorem k1_put (h : OneK w0 p bo ba S (mp b M :: K) W) (v : Value) (k0 : -9223372036854775808 ≤ k) (k1 : k < 9223372036854775808) (ht : Tryz.prog.underlying T = some (.map 3 E)) (hn : M.length < 1000000) :
    ∃ W', (Instr.mapUpdate T (.map (some b)) (.int .i64 k) v).run Tryz.prog W = .ok () W' ∧ OneK w0 p bo ba S (mp b (putE M k v) :: K) W' := by
  obtain ⟨u, L, hL, hv⟩ := h
  obtain ⟨W', hr, h2⟩ := store_run k0 k1 v ht hn (hL.perm (List.perm_middle (l₁ := [_, _, _])))
  exact ⟨W', hr, u, L, h2.perm (List.perm_middle (l₁ := [_, _, _])).symm, hv⟩
theorem k1_send (h : OneK w0 p bo ba S K W) (hn : S.L.length < 100000) :
    Calls Tryz.prog 11 #[.pointer (some ⟨p, 0, none⟩), .agg (itC x)] W fun e W' => e = .returned (.tuple #[.int .i64 (sendM S x).2.1, .int .i64 (sendM S x).2.2]) ∧ OneK w0 p bo ba (sendM S x).1 K W' := by
  obtain ⟨v, L, hL, hv⟩ := h
  refine (send_any (x := x) hL (hv _ hL.tail.tail.tail.dropl) hn).mono ?_
  rintro e w ⟨rfl, hL2⟩
  have ht : (sendM S x).1.t = S.t := by
    unfold sendM
    split
    · rfl
    split
    · rfl
    split
    · rfl
    split <;> rfl
  exact ⟨rfl, v, L, hL2, fun w h => by rw [ht]; exact hv w h⟩
theorem k1_handle (h : OneK w0 p bo ba S K W) (hm : ∀ w, Below w0.heap.size w0 w → Rd w vo m.owner) (hn : S.L.length < 100000) (k0 : -9223372036854775808 ≤ m.iseq) (k1 : m.iseq < 9223372036854775808)
    (l1 : S.t.own.length ≤ 1000000000000) (l2 : m.owner.length ≤ 1000000000000) (hs : vs.oneCell' = true) :
    Calls Tryz.prog 12 #[.pointer (some ⟨p, 0, none⟩), .agg (mcells m vo vs)] W fun e W' => e = .returned (.bool (handleM S m).2) ∧ OneK w0 p bo ba (handleM S m).1 K W' := by
  obtain ⟨v, L, hL, hv⟩ := h
  refine (handle_two hL (fun w h => hv w h.dropl) (fun w h => hm w h.1) hn k0 k1 l1 l2 hs).mono ?_
  rintro e w ⟨v', X, rfl, hL2, hd⟩
  refine ⟨rfl, v', X ++ L, hL2.perm ?_, ?_⟩
  · exact (((List.perm_append_comm_assoc X K L).cons _).cons _).cons _
  · rcases hd with ⟨rfl, hd⟩ | hd
    · intro w h
      rw [hd]
      exact hv w h.dropl
    · exact hd L
theorem k1_last (h : OneK w0 p bo ba S K W) : Calls Tryz.prog 19 #[.pointer (some ⟨p, 0, none⟩)] W fun e W' => e = .returned (.int .i64 (S.L.length : Nat)) ∧ W' = W := by
  obtain ⟨v, L, hL, hv⟩ := h
  exact last_any hL.at_
theorem k1_low (h : OneK w0 p bo ba S K W) : Calls Tryz.prog 14 #[.pointer (some ⟨p, 0, none⟩)] W fun e W' => e = .returned (.int .i64 (lowN S.L : Nat)) ∧ W' = W := by
  obtain ⟨v, L, hL, hv⟩ := h
  exact low_any hL.at_
theorem k1_left (h : OneK w0 p bo ba S K W) : Calls Tryz.prog 20 #[.pointer (some ⟨p, 0, none⟩)] W fun e W' => e = .returned (.int .i64 ((opE S.L).length : Nat)) ∧ W' = W := by
  obtain ⟨v, L, hL, hv⟩ := h
  exact left_any hL.at_ (hL.tail.mem_map (by simp))
theorem k1_answer (h : OneK w0 p bo ba S K W) (h0 : -9223372036854775808 ≤ k) (h1 : k < 9223372036854775808) : Calls Tryz.prog 13 #[.pointer (some ⟨p, 0, none⟩), .int .i64 k] W fun e W' => e = .returned (.tuple #[.int .i64 (codeN S.L k : Nat), .bool (decide (codeN S.L k ≠ 0))]) ∧ W' = W := by
  obtain ⟨v, L, hL, hv⟩ := h
  exact answer_any hL.at_ (hL.tail.tail.mem_map (by simp)) h0 h1
theorem k1_tick (h : OneK w0 p bo ba S K W) (hn : S.L.length < 100000) (l1 : S.t.own.length ≤ 1000000000000) (hok : ∀ q ∈ S.L, q.1.Ok) (s0 : 0 ≤ S.src) (s1 : S.src < 1000) :
    Calls Tryz.prog 15 #[.pointer (some ⟨p, 0, none⟩)] W fun e W' => ∃ v' X, e = .returned v' ∧ PRow 45 3 v' (pktsM S).length (pkF (pktsM S)) X ∧ OneK w0 p bo ba S (X ++ K) W' := by
  obtain ⟨v, L, hL, hv⟩ := h
  refine (tick_any hL (fun w h => hv w h.dropl) hn l1 hok s0 s1).mono ?_
  rintro e w ⟨v', X, rfl, hp, hL2⟩
  refine ⟨v', X, rfl, hp, v, L, hL2.perm ?_, hv⟩
  rw [List.append_assoc]
  exact List.perm_append_comm_assoc X [_, _, _] (K ++ L)
theorem k1_table (h : OneK w0 p bo ba S K W) (l1 : S.t.own.length ≤ 1000000000000) :
    Calls Tryz.prog 22 #[.pointer (some ⟨p, 0, none⟩)] W fun e W' => ∃ v' R, e = .returned (.agg (tbC S.t v')) ∧ RowIs 3 v' (ints S.t.own) R ∧ OneK w0 p bo ba S (lift R ++ K) W' := by
  obtain ⟨v, L, hL, hv⟩ := h
  refine (stable_any hL.at_ (hv _ hL.tail.tail.tail.dropl) l1).mono ?_
  rintro e w ⟨v', R, rfl, hr, hL3⟩
  exact ⟨v', R, rfl, hr, OneK.addl (X := lift R) ⟨v, L, hL, hv⟩ fun R' h' => h'.join hL3⟩
/-- The row of packets, its cells. -/
theorem prow_cur {l : List (Int × Int × ByteArray)} (h : PRow 45 3 v l.length (pkF l) X) (hL : LV w0 (X ++ K) w) : (l.length = 0 ∧ X = []) ∨ ∃ g cur c e, v = .slice (some ⟨g, 0, none⟩) l.length c ∧ X = [bk g cur e] ∧
    ∀ j (hj : j < l.length), cur[j * 3]? = some (.int .i64 l[j].1) ∧ cur[j * 3 + 1]? = some (.int .i64 l[j].2.1) ∧ cur[j * 3 + 2]? = some (.string l[j].2.2) := by
  obtain ⟨q, c, rfl⟩ := h.shape
  have hc := h.cellsP (w0 := w0) (L := K) w hL
  rcases h.2 with ⟨_, hn, hX⟩ | ⟨g, cap, cur, he, rfl, h1, h2, h3, h4⟩
  · exact .inl ⟨hn, hX⟩
  · cases he
    refine .inr ⟨g, cur, c, _, rfl, rfl, fun j hj => ?_⟩
    obtain ⟨g2, he, hx, hy, hz⟩ := hc j hj
    cases he
    exact ⟨(hL.cell _).symm.trans hx, (hL.cell _).symm.trans hy, (hL.cell _).symm.trans hz⟩
end
end Go.Proofs.YthkeiclhllikjaaGreat

/-
  A source stands as it must.
-/
namespace Go.Proofs.YthkeiclhllikjaaGreat
open Go.RowKit
/-- A guard that was skipped itself. -/
theorem Fr.wuS {ops : Array Oper} {o : Oper} {a : Act} {n : Nat} {m : List (Nat × Value)} (H : Fr a n m) {j dg : Nat} {c : Bool} (hg : o.guard = some (j, c)) (hj : (ops[j]?).bind (·.dst) = some dg) (hl : look m dg = some undef) : Region.wanted o (yielded ops a.tmps) = false := by
  have := H.get hl
  have hy : yielded ops a.tmps j = none := by simp [yielded, hj, this, undef]
  unfold Region.wanted
  rw [hg]
  simp only [hy]
  cases c <;> rfl
/-- The answers that a law has noted: up to j those of A, else those of B. -/
def stepF (A B : List (PItem × Nat)) (j i : Nat) : Option Value := if i < j then anF A i else anF B i
section
variable {A B : List (PItem × Nat)} {f : Nat → Option Value} {j n m : Nat}
theorem anF_code (i : Nat) : anF A i = if codeN A ((i + 1 : Nat) : Int) = 0 then none else some (.int .i64 (codeN A ((i + 1 : Nat) : Int) : Nat)) := by
  have e : codeN A ((i + 1 : Nat) : Int) = ((A[i]?).map (·.2)).getD 0 := by
    unfold codeN
    rw [if_pos (by omega), show (((i + 1 : Nat) : Int) - 1).toNat = i by omega]
  rw [e]
  unfold anF
  cases A[i]? <;> rfl
theorem ents_more (h : ∀ i, n ≤ i → f i = none) : n ≤ m → ents f m = ents f n := by
  intro hm
  induction m with
  | zero =>
    obtain rfl : n = 0 := by omega
    rfl
  | succ m ih =>
    rcases Nat.lt_or_ge n (m + 1) with h2 | h2
    · rw [← ih (by omega)]
      conv => lhs; unfold ents
      rw [h m (by omega)]
      simp
    · obtain rfl : n = m + 1 := by omega
      rfl
theorem step_0 (h : B.length ≤ A.length) : anE B = ents (stepF A B 0) A.length := by
  unfold anE
  rw [← ents_more (f := anF B) (fun i hi => by unfold anF; rw [List.getElem?_eq_none hi]) h]
  exact ents_congr fun i hi => by unfold stepF; rw [if_neg (by omega)]
theorem step_n : ents (stepF A B A.length) A.length = anE A := ents_congr fun i hi => by unfold stepF; rw [if_pos hi]
theorem step_put (hj : j < A.length) (hc : codeN A ((j + 1 : Nat) : Int) ≠ 0) : putE (ents (stepF A B j) A.length) ((j + 1 : Nat) : Int) (.int .i64 (codeN A ((j + 1 : Nat) : Int) : Nat)) = ents (stepF A B (j + 1)) A.length := by
  rw [ents_put hj]
  refine ents_congr fun i hi => ?_
  unfold stepF
  by_cases h : i = j
  · subst h
    rw [if_pos rfl, if_pos (by omega), anF_code, if_neg hc]
  · rw [if_neg h]
    by_cases h2 : i < j
    · rw [if_pos h2, if_pos (by omega)]
    · rw [if_neg h2, if_neg (by omega)]
theorem step_skip (hc : codeN A ((j + 1 : Nat) : Int) = 0) (hb : codeN B ((j + 1 : Nat) : Int) = 0) : ents (stepF A B j) A.length = ents (stepF A B (j + 1)) A.length := by
  refine ents_congr fun i hi => ?_
  unfold stepF
  by_cases h : i = j
  · subst h
    rw [if_neg (by omega), if_pos (by omega), anF_code, anF_code, if_pos hc, if_pos hb]
  · by_cases h2 : i < j
    · rw [if_pos h2, if_pos (by omega)]
    · rw [if_neg h2, if_neg (by omega)]
theorem step_look (hj : j < A.length) : lookE (ents (stepF A B j) A.length) ((j + 1 : Nat) : Int) = if codeN B ((j + 1 : Nat) : Int) = 0 then none else some (.int .i64 (codeN B ((j + 1 : Nat) : Int) : Nat)) := by
  rw [ents_look, if_pos (by omega), show (((j + 1 : Nat) : Int) - 1).toNat = j by omega]
  unfold stepF
  rw [if_neg (by omega), anF_code]
theorem oc_open (hj : j < A.length) (hc : codeN A ((j + 1 : Nat) : Int) = 0) : (ents (opF A) (j + 1)).length = (ents (opF A) j).length + 1 := by
  have h2 : A[j].2 = 0 := by
    unfold codeN at hc
    rw [if_pos (by omega), show (((j + 1 : Nat) : Int) - 1).toNat = j by omega, List.getElem?_eq_getElem hj] at hc
    exact hc
  conv => lhs; unfold ents
  unfold opF
  rw [List.getElem?_eq_getElem hj]
  simp [h2]
theorem oc_done (hj : j < A.length) (hc : codeN A ((j + 1 : Nat) : Int) ≠ 0) : (ents (opF A) (j + 1)).length = (ents (opF A) j).length := by
  have h2 : ¬ A[j].2 = 0 := by
    unfold codeN at hc
    rw [if_pos (by omega), show (((j + 1 : Nat) : Int) - 1).toNat = j by omega, List.getElem?_eq_getElem hj] at hc
    exact hc
  conv => lhs; unfold ents
  unfold opF
  rw [List.getElem?_eq_getElem hj]
  simp [h2]
theorem low_open {j : Nat} (hc : codeN A ((j + 1 : Nat) : Int) = 0) : lowN A ≤ j + 1 := by
  rcases Nat.lt_or_ge (j + 1) (lowN A) with h | h
  · exact absurd hc (codeN_below (by omega) h)
  · exact h
end
section
variable {w0 W w : World} {p bo ba bc : Nat} {S So : PSrc} {n : Int} {i : Nat} {K : List Thg}
set_option maxRecDepth 100000 in
set_option maxHeartbeats 4000000 in
theorem stands_k (h : OneK w0 p bo ba S (mp bc (anE So.L) :: K) W) (hI : LowI S n i) (hi : i ≤ 1000) (n0 : 0 ≤ n) (n1 : n < 1000) (he : Ext So S) :
    Calls Tryz.prog 18 #[.pointer (some ⟨p, 0, none⟩), .int .i64 n, .map (some bc)] W fun e W' => e = .returned (.bool true) ∧ OneK w0 p bo ba S (mp bc (anE S.L) :: K) W' := by
  have hL := h
  clear h
  have hlen := hI.hold.len
  have hown := hI.hold.own
  have hsrc := hI.hold.src
  have hfew := hI.few
  have hwid := hI.width
  have hlo := lowN_le (L := S.L)
  have hlp := lowN_pos (L := S.L)
  have hPN : (pktsM S).length = (opItems S.L).length := by rw [out_all hI (by omega) n0 n1, List.length_map]
  have hPO := opE_len (L := S.L)
  rw [step_0 he.1] at hL
  go_enter Tryz.func18, Tryz.ntmps18
  refine wp_fr (n := 190) (m := [(0, _), (1, _), (2, _)]) ⟨rfl, rfl, by intro p hp; simp only [List.mem_cons, List.not_mem_nil, or_false] at hp; rcases hp with rfl | rfl | rfl <;> rfl⟩ fun a0 H0 => ?_
  repeat (go_not_at_region 0; go_step)
  refine wp_region_lit ?_
  refine h_op H0 rfl (wn rfl) (R_as H0 rfl rfl) rfl (P3 0 1 2 rfl rfl rfl) fun a1 H1 => ?_
  clear H0
  refine h_end ?_
  repeat (go_not_at_region 1; go_step)
  refine wp_region_lit ?_
  refine h_op H1 rfl (wn rfl) (R_as H1 rfl rfl) rfl (P4 7 0 1 2 rfl rfl rfl rfl) fun a2 H2 => ?_
  clear H1
  refine h_end ?_
  repeat (go_not_at_region 2; go_step)
  refine wp_region_lit ?_
  refine h_op H2 rfl (wn rfl) (R_as H2 rfl rfl) rfl (P5 8 7 0 1 2 rfl rfl rfl rfl rfl) fun a3 H3 => ?_
  clear H2
  refine h_end ?_
  repeat (go_not_at_region 3; go_step)
  obtain ⟨I, hI2⟩ : ∃ I : Nat → Act → World → Prop, ∀ n' a' w', I n' a' w' ↔ ∃ j : Nat, n' = S.L.length - j ∧ j ≤ S.L.length ∧ Fr a' 190 [(0, .pointer (some ⟨p, 0, none⟩)), (1, .int .i64 n), (2, .map (some bc)), (7, .int .i64 ((ents (opF S.L) j).length : Nat)), (8, .int .i64 ((j + 1 : Nat) : Int))] ∧ (OneK w0 p bo ba S (mp bc (ents (stepF S.L So.L j) S.L.length) :: K)) w' := ⟨_, fun _ _ _ => Iff.rfl⟩
  have HI := Lib.hid hI2
  clear hI2
  refine wp_loop_ghost I (S.L.length) ((HI.out _ _ _).2 ⟨0, rfl, Nat.zero_le _, H3.pick _ (P5 0 1 2 7 8 rfl rfl rfl rfl rfl), hL⟩) ?_
  clear hL H3
  intro n' a1 wl hi'
  obtain ⟨j, rfl, hj, H0, hL⟩ := (HI.out _ _ _).1 hi'
  clear hi'
  by_cases hjl : j < S.L.length
  · repeat (go_not_at_region 3; go_step)
    refine wp_region_lit ?_
    refine h_op H0 rfl (wn rfl) (R_mv H0 rfl rfl) rfl (P6 20 0 1 2 7 8 rfl rfl rfl rfl rfl rfl) fun a1 H1 => ?_
    clear H0
    refine h_op H1 rfl (wn rfl) (R_mv H1 rfl rfl) rfl (P7 21 20 0 1 2 7 8 rfl rfl rfl rfl rfl rfl rfl) fun a2 H2 => ?_
    clear H1
    refine h_call H2 rfl (wn rfl) (R_call1 H2 rfl rfl (fun w => by simp [go_sem])) rfl ?_
    refine (k1_last hL).mono ?_
    rintro e wx ⟨rfl, rfl⟩
    refine ⟨_, rfl, fun a3 HH => ?_⟩
    have H3 := HH _ (P7 22 20 0 1 2 7 8 rfl rfl rfl rfl rfl rfl rfl)
    clear HH H2
    refine h_op H3 rfl (wn rfl) (R_bin H3 rfl rfl rfl (B_to (y := true) (B_le Tryz.underlying3 _ _) (decide_eq_true (by omega)))) rfl (P6 23 0 1 2 7 8 rfl rfl rfl rfl rfl rfl) fun a4 H4 => ?_
    clear H3
    refine h_end ?_
    repeat (go_not_at_region 5; go_step)
    refine wp_cond_true (H4.ev (x := .tmp 23) rfl) ?_
    have hc4 : codeN S.L ((j + 1 : Nat) : Int) ≤ 4 := codeN_le hI.codes
    have hlk := lookOk_run (T := 48) (E := 3) (k := ((j + 1 : Nat) : Int)) (by omega) (by omega) Tryz.underlying48 (zeroI _) (hL.map List.mem_cons_self)
    rw [step_look hjl] at hlk
    by_cases hc : codeN S.L ((j + 1 : Nat) : Int) = 0
    · have ho : codeN So.L ((j + 1 : Nat) : Int) = 0 := by
        by_cases ho : codeN So.L ((j + 1 : Nat) : Int) = 0
        · exact ho
        · have h2 := he.2 _ ho
          omega
      rw [if_pos ho] at hlk
      have hlk : _ = Result.ok (Value.tuple #[.int .i64 0, .bool false]) _ := hlk
      have hlo2 := low_open hc
      repeat (go_not_at_region 5; go_step)
      refine wp_region_lit ?_
      refine h_op H4 rfl (wn rfl) (R_mv H4 rfl rfl) rfl (P6 27 0 1 2 7 8 rfl rfl rfl rfl rfl rfl) fun a5 H5 => ?_
      clear H4
      refine h_op H5 rfl (wn rfl) (R_mv H5 rfl rfl) rfl (P7 28 27 0 1 2 7 8 rfl rfl rfl rfl rfl rfl rfl) fun a6 H6 => ?_
      clear H5
      refine h_call H6 rfl (wn rfl) (R_call2 H6 rfl rfl rfl (fun w => by simp [go_sem])) rfl ?_
      have hq := k1_answer (k := ((j + 1 : Nat) : Int)) hL (by omega) (by omega)
      rw [show decide (codeN S.L ((j + 1 : Nat) : Int) ≠ 0) = false from decide_eq_false (fun h => h hc)] at hq
      refine hq.mono ?_
      rintro e wx ⟨rfl, rfl⟩
      refine ⟨_, rfl, fun a7 HH => ?_⟩
      have H7 := HH _ (P6 29 0 1 2 7 8 rfl rfl rfl rfl rfl rfl)
      clear HH H6
      refine h_op H7 rfl (wn rfl) (R_mv H7 rfl rfl) rfl (P6 26 0 1 2 7 8 rfl rfl rfl rfl rfl rfl) fun a8 H8 => ?_
      clear H7
      refine h_op H8 rfl (wn rfl) (R_ext H8 rfl rfl rfl) rfl (P7 30 26 0 1 2 7 8 rfl rfl rfl rfl rfl rfl rfl) fun a9 H9 => ?_
      clear H8
      refine h_op H9 rfl (wn rfl) (R_ext H9 rfl rfl rfl) rfl (P7 31 30 0 1 2 7 8 rfl rfl rfl rfl rfl rfl rfl) fun a10 H10 => ?_
      clear H9
      refine h_op H10 rfl (wn rfl) (R_as H10 rfl rfl) rfl (P7 9 31 0 1 2 7 8 rfl rfl rfl rfl rfl rfl rfl) fun a11 H11 => ?_
      clear H10
      refine h_op H11 rfl (wn rfl) (R_as H11 rfl rfl) rfl (P7 10 9 0 1 2 7 8 rfl rfl rfl rfl rfl rfl rfl) fun a12 H12 => ?_
      clear H11
      refine h_end ?_
      repeat (go_not_at_region 6; go_step)
      refine wp_region_lit ?_
      refine h_op H12 rfl (wn rfl) (R_mv H12 rfl rfl) rfl (P8 33 10 9 0 1 2 7 8 rfl rfl rfl rfl rfl rfl rfl rfl) fun a13 H13 => ?_
      clear H12
      refine h_op H13 rfl (wn rfl) (R_mv H13 rfl rfl) rfl (P9 34 33 10 9 0 1 2 7 8 rfl rfl rfl rfl rfl rfl rfl rfl rfl) fun a14 H14 => ?_
      clear H13
      refine h_op H14 rfl (wn rfl) (R_lk H14 rfl rfl rfl hlk) rfl (P8 35 10 9 0 1 2 7 8 rfl rfl rfl rfl rfl rfl rfl rfl) fun a15 H15 => ?_
      clear H14
      refine h_op H15 rfl (wn rfl) (R_mv H15 rfl rfl) rfl (P8 32 10 9 0 1 2 7 8 rfl rfl rfl rfl rfl rfl rfl rfl) fun a16 H16 => ?_
      clear H15
      refine h_op H16 rfl (wn rfl) (R_ext H16 rfl rfl rfl) rfl (P9 36 32 10 9 0 1 2 7 8 rfl rfl rfl rfl rfl rfl rfl rfl rfl) fun a17 H17 => ?_
      clear H16
      refine h_op H17 rfl (wn rfl) (R_ext H17 rfl rfl rfl) rfl (P9 37 36 10 9 0 1 2 7 8 rfl rfl rfl rfl rfl rfl rfl rfl rfl) fun a18 H18 => ?_
      clear H17
      refine h_op H18 rfl (wn rfl) (R_as H18 rfl rfl) rfl (P9 11 37 10 9 0 1 2 7 8 rfl rfl rfl rfl rfl rfl rfl rfl rfl) fun a19 H19 => ?_
      clear H18
      refine h_op H19 rfl (wn rfl) (R_as H19 rfl rfl) rfl (P9 12 11 10 9 0 1 2 7 8 rfl rfl rfl rfl rfl rfl rfl rfl rfl) fun a20 H20 => ?_
      clear H19
      refine h_end ?_
      have hocl := (ents_size : (ents (opF S.L) j).length ≤ j)
      repeat (go_not_at_region 7; go_step)
      repeat (go_not_at_region 7; go_step)
      refine wp_region_lit ?_
      refine h_op H20 rfl (wn rfl) (R_mv H20 rfl rfl) rfl (P9 38 11 10 9 0 1 2 7 8 rfl rfl rfl rfl rfl rfl rfl rfl rfl) fun a21 H21 => ?_
      clear H20
      refine h_op H21 rfl (wn rfl) (R_mv H21 rfl rfl) rfl (P9 39 11 10 9 0 1 2 7 8 rfl rfl rfl rfl rfl rfl rfl rfl rfl) fun a22 H22 => ?_
      clear H21
      refine h_skip H22 rfl (H22.wf rfl rfl rfl) rfl (P10 40 39 11 10 9 0 1 2 7 8 rfl rfl rfl rfl rfl rfl rfl rfl rfl rfl) fun a23 H23 => ?_
      clear H22
      refine h_skip H23 rfl (H23.wf rfl rfl rfl) rfl (P10 41 39 11 10 9 0 1 2 7 8 rfl rfl rfl rfl rfl rfl rfl rfl rfl rfl) fun a24 H24 => ?_
      clear H23
      refine h_skip H24 rfl (H24.wf rfl rfl rfl) rfl (P10 42 39 11 10 9 0 1 2 7 8 rfl rfl rfl rfl rfl rfl rfl rfl rfl rfl) fun a25 H25 => ?_
      clear H24
      refine h_skip H25 rfl (H25.wuS rfl rfl rfl) rfl (P11 43 42 39 11 10 9 0 1 2 7 8 rfl rfl rfl rfl rfl rfl rfl rfl rfl rfl rfl) fun a26 H26 => ?_
      clear H25
      refine h_skip H26 rfl (H26.wuS rfl rfl rfl) rfl (P11 44 43 42 39 10 9 0 1 2 7 8 rfl rfl rfl rfl rfl rfl rfl rfl rfl rfl rfl) fun a27 H27 => ?_
      clear H26
      refine h_skip H27 rfl (H27.wuS rfl rfl rfl) rfl (P10 45 42 39 10 9 0 1 2 7 8 rfl rfl rfl rfl rfl rfl rfl rfl rfl rfl) fun a28 H28 => ?_
      clear H27
      refine h_skip H28 rfl (H28.wf rfl rfl rfl) rfl (P9 46 39 10 9 0 1 2 7 8 rfl rfl rfl rfl rfl rfl rfl rfl rfl) fun a29 H29 => ?_
      clear H28
      refine h_op H29 rfl (wn rfl) (R_pick H29 rfl rfl rfl) rfl (P8 47 10 9 0 1 2 7 8 rfl rfl rfl rfl rfl rfl rfl rfl) fun a30 H30 => ?_
      clear H29
      refine h_op H30 rfl (wn rfl) (R_mv H30 rfl rfl) rfl (P8 48 10 9 0 1 2 7 8 rfl rfl rfl rfl rfl rfl rfl rfl) fun a31 H31 => ?_
      clear H30
      refine h_op H31 rfl (H31.wt rfl rfl rfl) (R_mv H31 rfl rfl) rfl (P9 49 48 10 9 0 1 2 7 8 rfl rfl rfl rfl rfl rfl rfl rfl rfl) fun a32 H32 => ?_
      clear H31
      refine h_op H32 rfl (H32.wt rfl rfl rfl) (R_mv H32 rfl rfl) rfl (P9 50 48 10 9 0 1 2 7 8 rfl rfl rfl rfl rfl rfl rfl rfl rfl) fun a33 H33 => ?_
      clear H32
      refine h_skip H33 rfl (H33.wf rfl rfl rfl) rfl (P10 51 50 48 10 9 0 1 2 7 8 rfl rfl rfl rfl rfl rfl rfl rfl rfl rfl) fun a34 H34 => ?_
      clear H33
      refine h_skip H34 rfl (H34.wf rfl rfl rfl) rfl (P10 52 50 48 10 9 0 1 2 7 8 rfl rfl rfl rfl rfl rfl rfl rfl rfl rfl) fun a35 H35 => ?_
      clear H34
      refine h_skip H35 rfl (H35.wf rfl rfl rfl) rfl (P10 53 50 48 10 9 0 1 2 7 8 rfl rfl rfl rfl rfl rfl rfl rfl rfl rfl) fun a36 H36 => ?_
      clear H35
      refine h_skip H36 rfl (H36.wuS rfl rfl rfl) rfl (P11 54 53 50 48 10 9 0 1 2 7 8 rfl rfl rfl rfl rfl rfl rfl rfl rfl rfl rfl) fun a37 H37 => ?_
      clear H36
      refine h_skip H37 rfl (H37.wuS rfl rfl rfl) rfl (P11 55 53 50 48 10 9 0 1 2 7 8 rfl rfl rfl rfl rfl rfl rfl rfl rfl rfl rfl) fun a38 H38 => ?_
      clear H37
      refine h_skip H38 rfl (H38.wf rfl rfl rfl) rfl (P10 56 50 48 10 9 0 1 2 7 8 rfl rfl rfl rfl rfl rfl rfl rfl rfl rfl) fun a39 H39 => ?_
      clear H38
      refine h_op H39 rfl (H39.wt rfl rfl rfl) (R_pick H39 rfl rfl rfl) rfl (P9 57 48 10 9 0 1 2 7 8 rfl rfl rfl rfl rfl rfl rfl rfl rfl) fun a40 H40 => ?_
      clear H39
      refine h_op H40 rfl (wn rfl) (R_pick H40 rfl rfl rfl) rfl (P8 58 10 9 0 1 2 7 8 rfl rfl rfl rfl rfl rfl rfl rfl) fun a41 H41 => ?_
      clear H40
      refine h_op H41 rfl (wn rfl) (R_mv H41 rfl rfl) rfl (P8 59 10 9 0 1 2 7 8 rfl rfl rfl rfl rfl rfl rfl rfl) fun a42 H42 => ?_
      clear H41
      refine h_op H42 rfl (H42.wt rfl rfl rfl) (R_mv H42 rfl rfl) rfl (P9 60 59 10 9 0 1 2 7 8 rfl rfl rfl rfl rfl rfl rfl rfl rfl) fun a43 H43 => ?_
      clear H42
      refine h_op H43 rfl (H43.wt rfl rfl rfl) (R_not H43 rfl rfl) rfl (P9 61 59 10 9 0 1 2 7 8 rfl rfl rfl rfl rfl rfl rfl rfl rfl) fun a44 H44 => ?_
      clear H43
      refine h_op H44 rfl (H44.wt rfl rfl rfl) (R_mv H44 rfl rfl) rfl (P9 62 59 10 9 0 1 2 7 8 rfl rfl rfl rfl rfl rfl rfl rfl rfl) fun a45 H45 => ?_
      clear H44
      refine h_op H45 rfl (H45.wt rfl rfl rfl) (R_mv H45 rfl rfl) rfl (P10 63 62 59 10 9 0 1 2 7 8 rfl rfl rfl rfl rfl rfl rfl rfl rfl rfl) fun a46 H46 => ?_
      clear H45
      refine h_op H46 rfl (H46.wt rfl rfl rfl) (R_mv H46 rfl rfl) rfl (P11 64 63 62 59 10 9 0 1 2 7 8 rfl rfl rfl rfl rfl rfl rfl rfl rfl rfl rfl) fun a47 H47 => ?_
      clear H46
      refine h_call H47 rfl (H47.wt rfl rfl rfl) (R_call1 H47 rfl rfl (fun w => by simp [go_sem])) rfl ?_
      refine (k1_low hL).mono ?_
      rintro e wx ⟨rfl, rfl⟩
      refine ⟨_, rfl, fun a48 HH => ?_⟩
      have H48 := HH _ (P11 65 63 62 59 10 9 0 1 2 7 8 rfl rfl rfl rfl rfl rfl rfl rfl rfl rfl rfl)
      clear HH H47
      refine h_op H48 rfl (H48.wt rfl rfl rfl) (R_bin H48 rfl rfl rfl (B_to (y := false) (B_lt Tryz.underlying3 _ _) (decide_eq_false (by omega)))) rfl (P10 66 62 59 10 9 0 1 2 7 8 rfl rfl rfl rfl rfl rfl rfl rfl rfl rfl) fun a49 H49 => ?_
      clear H48
      refine h_op H49 rfl (H49.wt rfl rfl rfl) (R_mv H49 rfl rfl) rfl (P10 67 62 59 10 9 0 1 2 7 8 rfl rfl rfl rfl rfl rfl rfl rfl rfl rfl) fun a50 H50 => ?_
      clear H49
      refine h_op H50 rfl (H50.wt rfl rfl rfl) (R_mv H50 rfl rfl) rfl (P11 68 67 62 59 10 9 0 1 2 7 8 rfl rfl rfl rfl rfl rfl rfl rfl rfl rfl rfl) fun a51 H51 => ?_
      clear H50
      refine h_op H51 rfl (H51.wt rfl rfl rfl) (R_mv H51 rfl rfl) rfl (P12 69 68 67 62 59 10 9 0 1 2 7 8 rfl rfl rfl rfl rfl rfl rfl rfl rfl rfl rfl rfl) fun a52 H52 => ?_
      clear H51
      refine h_call H52 rfl (H52.wt rfl rfl rfl) (R_call1 H52 rfl rfl (fun w => by simp [go_sem])) rfl ?_
      refine (k1_low hL).mono ?_
      rintro e wx ⟨rfl, rfl⟩
      refine ⟨_, rfl, fun a53 HH => ?_⟩
      have H53 := HH _ (P12 70 68 67 62 59 10 9 0 1 2 7 8 rfl rfl rfl rfl rfl rfl rfl rfl rfl rfl rfl rfl)
      clear HH H52
      refine h_op H53 rfl (H53.wt rfl rfl rfl) (R_bin H53 rfl rfl rfl (B_add Tryz.underlying3 _ _ (by omega) (by omega))) rfl (P12 71 68 67 62 59 10 9 0 1 2 7 8 rfl rfl rfl rfl rfl rfl rfl rfl rfl rfl rfl rfl) fun a54 H54 => ?_
      clear H53
      refine h_op H54 rfl (H54.wt rfl rfl rfl) (R_bin H54 rfl rfl rfl (B_to (y := false) (B_ge Tryz.underlying3 _ _) (decide_eq_false (by omega)))) rfl (P11 72 67 62 59 10 9 0 1 2 7 8 rfl rfl rfl rfl rfl rfl rfl rfl rfl rfl rfl) fun a55 H55 => ?_
      clear H54
      refine h_op H55 rfl (H55.wt rfl rfl rfl) (R_pick H55 rfl rfl rfl) rfl (P10 73 62 59 10 9 0 1 2 7 8 rfl rfl rfl rfl rfl rfl rfl rfl rfl rfl) fun a56 H56 => ?_
      clear H55
      refine h_op H56 rfl (H56.wt rfl rfl rfl) (R_pick H56 rfl rfl rfl) rfl (P9 74 59 10 9 0 1 2 7 8 rfl rfl rfl rfl rfl rfl rfl rfl rfl) fun a57 H57 => ?_
      clear H56
      refine h_op H57 rfl (wn rfl) (R_pick H57 rfl rfl rfl) rfl (P8 75 10 9 0 1 2 7 8 rfl rfl rfl rfl rfl rfl rfl rfl) fun a58 H58 => ?_
      clear H57
      refine h_end ?_
      repeat (go_not_at_region 9; go_step)
      refine wp_cond_false (H58.ev (x := .tmp 75) rfl) ?_
      repeat (go_not_at_region 9; go_step)
      refine wp_region_lit ?_
      refine h_op H58 rfl (wn rfl) (R_mv H58 rfl rfl) rfl (P8 76 10 9 0 1 2 7 8 rfl rfl rfl rfl rfl rfl rfl rfl) fun a59 H59 => ?_
      clear H58
      refine h_end ?_
      repeat (go_not_at_region 11; go_step)
      refine wp_cond_false (H59.ev (x := .tmp 76) rfl) ?_
      repeat (go_not_at_region 11; go_step)
      refine wp_region_lit ?_
      refine h_op H59 rfl (wn rfl) (R_mv H59 rfl rfl) rfl (P6 80 0 1 2 7 8 rfl rfl rfl rfl rfl rfl) fun a60 H60 => ?_
      clear H59
      refine h_op H60 rfl (wn rfl) (R_bin H60 rfl rfl rfl (B_toI (y := ((ents (opF S.L) (j + 1)).length : Nat)) (B_add Tryz.underlying3 _ _ (by omega) (by omega)) (by rw [oc_open hjl hc]; omega))) rfl (P6 81 0 1 2 7 8 rfl rfl rfl rfl rfl rfl) fun a61 H61 => ?_
      clear H60
      refine h_op H61 rfl (wn rfl) (R_as H61 rfl rfl) rfl (P5 7 0 1 2 8 rfl rfl rfl rfl rfl) fun a62 H62 => ?_
      clear H61
      refine h_end ?_
      repeat (go_not_at_region 4; go_step)
      repeat (go_not_at_region 4; go_step)
      refine wp_region_lit ?_
      refine h_op H62 rfl (wn rfl) (R_mv H62 rfl rfl) rfl (P6 24 7 0 1 2 8 rfl rfl rfl rfl rfl rfl) fun a63 H63 => ?_
      clear H62
      refine h_op H63 rfl (wn rfl) (R_bin H63 rfl rfl rfl (B_toI (y := ((j + 1 + 1 : Nat) : Int)) (B_add Tryz.underlying3 _ _ (by omega) (by omega)) (by omega))) rfl (P6 25 7 0 1 2 8 rfl rfl rfl rfl rfl rfl) fun a64 H64 => ?_
      clear H63
      refine h_op H64 rfl (wn rfl) (R_as H64 rfl rfl) rfl (P5 8 7 0 1 2 rfl rfl rfl rfl rfl) fun a65 H65 => ?_
      clear H64
      refine h_end ?_
      repeat (go_not_at_region 999; go_step)
      rw [step_skip hc ho] at hL
      exact ⟨S.L.length - (j + 1), by omega, (HI.out _ _ _).2 ⟨j + 1, rfl, hjl, H65.pick _ (P5 0 1 2 7 8 rfl rfl rfl rfl rfl), hL⟩⟩
    · by_cases ho : codeN So.L ((j + 1 : Nat) : Int) = 0
      · rw [if_pos ho] at hlk
        have hlk : _ = Result.ok (Value.tuple #[.int .i64 0, .bool false]) _ := hlk
        repeat (go_not_at_region 5; go_step)
        refine wp_region_lit ?_
        refine h_op H4 rfl (wn rfl) (R_mv H4 rfl rfl) rfl (P6 27 0 1 2 7 8 rfl rfl rfl rfl rfl rfl) fun a5 H5 => ?_
        clear H4
        refine h_op H5 rfl (wn rfl) (R_mv H5 rfl rfl) rfl (P7 28 27 0 1 2 7 8 rfl rfl rfl rfl rfl rfl rfl) fun a6 H6 => ?_
        clear H5
        refine h_call H6 rfl (wn rfl) (R_call2 H6 rfl rfl rfl (fun w => by simp [go_sem])) rfl ?_
        have hq := k1_answer (k := ((j + 1 : Nat) : Int)) hL (by omega) (by omega)
        rw [show decide (codeN S.L ((j + 1 : Nat) : Int) ≠ 0) = true from decide_eq_true hc] at hq
        refine hq.mono ?_
        rintro e wx ⟨rfl, rfl⟩
        refine ⟨_, rfl, fun a7 HH => ?_⟩
        have H7 := HH _ (P6 29 0 1 2 7 8 rfl rfl rfl rfl rfl rfl)
        clear HH H6
        refine h_op H7 rfl (wn rfl) (R_mv H7 rfl rfl) rfl (P6 26 0 1 2 7 8 rfl rfl rfl rfl rfl rfl) fun a8 H8 => ?_
        clear H7
        refine h_op H8 rfl (wn rfl) (R_ext H8 rfl rfl rfl) rfl (P7 30 26 0 1 2 7 8 rfl rfl rfl rfl rfl rfl rfl) fun a9 H9 => ?_
        clear H8
        refine h_op H9 rfl (wn rfl) (R_ext H9 rfl rfl rfl) rfl (P7 31 30 0 1 2 7 8 rfl rfl rfl rfl rfl rfl rfl) fun a10 H10 => ?_
        clear H9
        refine h_op H10 rfl (wn rfl) (R_as H10 rfl rfl) rfl (P7 9 31 0 1 2 7 8 rfl rfl rfl rfl rfl rfl rfl) fun a11 H11 => ?_
        clear H10
        refine h_op H11 rfl (wn rfl) (R_as H11 rfl rfl) rfl (P7 10 9 0 1 2 7 8 rfl rfl rfl rfl rfl rfl rfl) fun a12 H12 => ?_
        clear H11
        refine h_end ?_
        repeat (go_not_at_region 6; go_step)
        refine wp_region_lit ?_
        refine h_op H12 rfl (wn rfl) (R_mv H12 rfl rfl) rfl (P8 33 10 9 0 1 2 7 8 rfl rfl rfl rfl rfl rfl rfl rfl) fun a13 H13 => ?_
        clear H12
        refine h_op H13 rfl (wn rfl) (R_mv H13 rfl rfl) rfl (P9 34 33 10 9 0 1 2 7 8 rfl rfl rfl rfl rfl rfl rfl rfl rfl) fun a14 H14 => ?_
        clear H13
        refine h_op H14 rfl (wn rfl) (R_lk H14 rfl rfl rfl hlk) rfl (P8 35 10 9 0 1 2 7 8 rfl rfl rfl rfl rfl rfl rfl rfl) fun a15 H15 => ?_
        clear H14
        refine h_op H15 rfl (wn rfl) (R_mv H15 rfl rfl) rfl (P8 32 10 9 0 1 2 7 8 rfl rfl rfl rfl rfl rfl rfl rfl) fun a16 H16 => ?_
        clear H15
        refine h_op H16 rfl (wn rfl) (R_ext H16 rfl rfl rfl) rfl (P9 36 32 10 9 0 1 2 7 8 rfl rfl rfl rfl rfl rfl rfl rfl rfl) fun a17 H17 => ?_
        clear H16
        refine h_op H17 rfl (wn rfl) (R_ext H17 rfl rfl rfl) rfl (P9 37 36 10 9 0 1 2 7 8 rfl rfl rfl rfl rfl rfl rfl rfl rfl) fun a18 H18 => ?_
        clear H17
        refine h_op H18 rfl (wn rfl) (R_as H18 rfl rfl) rfl (P9 11 37 10 9 0 1 2 7 8 rfl rfl rfl rfl rfl rfl rfl rfl rfl) fun a19 H19 => ?_
        clear H18
        refine h_op H19 rfl (wn rfl) (R_as H19 rfl rfl) rfl (P9 12 11 10 9 0 1 2 7 8 rfl rfl rfl rfl rfl rfl rfl rfl rfl) fun a20 H20 => ?_
        clear H19
        refine h_end ?_
        repeat (go_not_at_region 7; go_step)
        repeat (go_not_at_region 7; go_step)
        refine wp_region_lit ?_
        refine h_op H20 rfl (wn rfl) (R_mv H20 rfl rfl) rfl (P9 38 11 10 9 0 1 2 7 8 rfl rfl rfl rfl rfl rfl rfl rfl rfl) fun a21 H21 => ?_
        clear H20
        refine h_op H21 rfl (wn rfl) (R_mv H21 rfl rfl) rfl (P9 39 11 10 9 0 1 2 7 8 rfl rfl rfl rfl rfl rfl rfl rfl rfl) fun a22 H22 => ?_
        clear H21
        refine h_skip H22 rfl (H22.wf rfl rfl rfl) rfl (P10 40 39 11 10 9 0 1 2 7 8 rfl rfl rfl rfl rfl rfl rfl rfl rfl rfl) fun a23 H23 => ?_
        clear H22
        refine h_skip H23 rfl (H23.wf rfl rfl rfl) rfl (P10 41 39 11 10 9 0 1 2 7 8 rfl rfl rfl rfl rfl rfl rfl rfl rfl rfl) fun a24 H24 => ?_
        clear H23
        refine h_skip H24 rfl (H24.wf rfl rfl rfl) rfl (P10 42 39 11 10 9 0 1 2 7 8 rfl rfl rfl rfl rfl rfl rfl rfl rfl rfl) fun a25 H25 => ?_
        clear H24
        refine h_skip H25 rfl (H25.wuS rfl rfl rfl) rfl (P11 43 42 39 11 10 9 0 1 2 7 8 rfl rfl rfl rfl rfl rfl rfl rfl rfl rfl rfl) fun a26 H26 => ?_
        clear H25
        refine h_skip H26 rfl (H26.wuS rfl rfl rfl) rfl (P11 44 43 42 39 10 9 0 1 2 7 8 rfl rfl rfl rfl rfl rfl rfl rfl rfl rfl rfl) fun a27 H27 => ?_
        clear H26
        refine h_skip H27 rfl (H27.wuS rfl rfl rfl) rfl (P10 45 42 39 10 9 0 1 2 7 8 rfl rfl rfl rfl rfl rfl rfl rfl rfl rfl) fun a28 H28 => ?_
        clear H27
        refine h_skip H28 rfl (H28.wf rfl rfl rfl) rfl (P9 46 39 10 9 0 1 2 7 8 rfl rfl rfl rfl rfl rfl rfl rfl rfl) fun a29 H29 => ?_
        clear H28
        refine h_op H29 rfl (wn rfl) (R_pick H29 rfl rfl rfl) rfl (P8 47 10 9 0 1 2 7 8 rfl rfl rfl rfl rfl rfl rfl rfl) fun a30 H30 => ?_
        clear H29
        refine h_op H30 rfl (wn rfl) (R_mv H30 rfl rfl) rfl (P8 48 10 9 0 1 2 7 8 rfl rfl rfl rfl rfl rfl rfl rfl) fun a31 H31 => ?_
        clear H30
        refine h_op H31 rfl (H31.wt rfl rfl rfl) (R_mv H31 rfl rfl) rfl (P9 49 48 10 9 0 1 2 7 8 rfl rfl rfl rfl rfl rfl rfl rfl rfl) fun a32 H32 => ?_
        clear H31
        refine h_op H32 rfl (H32.wt rfl rfl rfl) (R_mv H32 rfl rfl) rfl (P9 50 48 10 9 0 1 2 7 8 rfl rfl rfl rfl rfl rfl rfl rfl rfl) fun a33 H33 => ?_
        clear H32
        refine h_op H33 rfl (H33.wt rfl rfl rfl) (R_mv H33 rfl rfl) rfl (P10 51 50 48 10 9 0 1 2 7 8 rfl rfl rfl rfl rfl rfl rfl rfl rfl rfl) fun a34 H34 => ?_
        clear H33
        refine h_op H34 rfl (H34.wt rfl rfl rfl) (R_bin H34 rfl rfl rfl (B_to (y := false) (B_lt Tryz.underlying3 _ _) (decide_eq_false (by omega)))) rfl (P10 52 50 48 10 9 0 1 2 7 8 rfl rfl rfl rfl rfl rfl rfl rfl rfl rfl) fun a35 H35 => ?_
        clear H34
        refine h_op H35 rfl (H35.wt rfl rfl rfl) (R_mv H35 rfl rfl) rfl (P10 53 50 48 10 9 0 1 2 7 8 rfl rfl rfl rfl rfl rfl rfl rfl rfl rfl) fun a36 H36 => ?_
        clear H35
        refine h_op H36 rfl (H36.wt rfl rfl rfl) (R_mv H36 rfl rfl) rfl (P11 54 53 50 48 10 9 0 1 2 7 8 rfl rfl rfl rfl rfl rfl rfl rfl rfl rfl rfl) fun a37 H37 => ?_
        clear H36
        refine h_op H37 rfl (H37.wt rfl rfl rfl) (R_bin H37 rfl rfl rfl (B_to (y := false) (B_gt Tryz.underlying3 _ _) (decide_eq_false (by omega)))) rfl (P11 55 53 50 48 10 9 0 1 2 7 8 rfl rfl rfl rfl rfl rfl rfl rfl rfl rfl rfl) fun a38 H38 => ?_
        clear H37
        refine h_op H38 rfl (H38.wt rfl rfl rfl) (R_pick H38 rfl rfl rfl) rfl (P10 56 50 48 10 9 0 1 2 7 8 rfl rfl rfl rfl rfl rfl rfl rfl rfl rfl) fun a39 H39 => ?_
        clear H38
        refine h_op H39 rfl (H39.wt rfl rfl rfl) (R_pick H39 rfl rfl rfl) rfl (P9 57 48 10 9 0 1 2 7 8 rfl rfl rfl rfl rfl rfl rfl rfl rfl) fun a40 H40 => ?_
        clear H39
        refine h_op H40 rfl (wn rfl) (R_pick H40 rfl rfl rfl) rfl (P8 58 10 9 0 1 2 7 8 rfl rfl rfl rfl rfl rfl rfl rfl) fun a41 H41 => ?_
        clear H40
        refine h_op H41 rfl (wn rfl) (R_mv H41 rfl rfl) rfl (P8 59 10 9 0 1 2 7 8 rfl rfl rfl rfl rfl rfl rfl rfl) fun a42 H42 => ?_
        clear H41
        refine h_op H42 rfl (H42.wt rfl rfl rfl) (R_mv H42 rfl rfl) rfl (P9 60 59 10 9 0 1 2 7 8 rfl rfl rfl rfl rfl rfl rfl rfl rfl) fun a43 H43 => ?_
        clear H42
        refine h_op H43 rfl (H43.wt rfl rfl rfl) (R_not H43 rfl rfl) rfl (P9 61 59 10 9 0 1 2 7 8 rfl rfl rfl rfl rfl rfl rfl rfl rfl) fun a44 H44 => ?_
        clear H43
        refine h_op H44 rfl (H44.wt rfl rfl rfl) (R_mv H44 rfl rfl) rfl (P9 62 59 10 9 0 1 2 7 8 rfl rfl rfl rfl rfl rfl rfl rfl rfl) fun a45 H45 => ?_
        clear H44
        refine h_skip H45 rfl (H45.wf rfl rfl rfl) rfl (P10 63 62 59 10 9 0 1 2 7 8 rfl rfl rfl rfl rfl rfl rfl rfl rfl rfl) fun a46 H46 => ?_
        clear H45
        refine h_skip H46 rfl (H46.wf rfl rfl rfl) rfl (P11 64 63 62 59 10 9 0 1 2 7 8 rfl rfl rfl rfl rfl rfl rfl rfl rfl rfl rfl) fun a47 H47 => ?_
        clear H46
        refine h_skip H47 rfl (H47.wf rfl rfl rfl) rfl (P11 65 63 62 59 10 9 0 1 2 7 8 rfl rfl rfl rfl rfl rfl rfl rfl rfl rfl rfl) fun a48 H48 => ?_
        clear H47
        refine h_skip H48 rfl (H48.wf rfl rfl rfl) rfl (P10 66 62 59 10 9 0 1 2 7 8 rfl rfl rfl rfl rfl rfl rfl rfl rfl rfl) fun a49 H49 => ?_
        clear H48
        refine h_skip H49 rfl (H49.wf rfl rfl rfl) rfl (P10 67 62 59 10 9 0 1 2 7 8 rfl rfl rfl rfl rfl rfl rfl rfl rfl rfl) fun a50 H50 => ?_
        clear H49
        refine h_skip H50 rfl (H50.wuS rfl rfl rfl) rfl (P11 68 67 62 59 10 9 0 1 2 7 8 rfl rfl rfl rfl rfl rfl rfl rfl rfl rfl rfl) fun a51 H51 => ?_
        clear H50
        refine h_skip H51 rfl (H51.wuS rfl rfl rfl) rfl (P12 69 68 67 62 59 10 9 0 1 2 7 8 rfl rfl rfl rfl rfl rfl rfl rfl rfl rfl rfl rfl) fun a52 H52 => ?_
        clear H51
        refine h_skip H52 rfl (H52.wuS rfl rfl rfl) rfl (P12 70 68 67 62 59 10 9 0 1 2 7 8 rfl rfl rfl rfl rfl rfl rfl rfl rfl rfl rfl rfl) fun a53 H53 => ?_
        clear H52
        refine h_skip H53 rfl (H53.wuS rfl rfl rfl) rfl (P12 71 68 67 62 59 10 9 0 1 2 7 8 rfl rfl rfl rfl rfl rfl rfl rfl rfl rfl rfl rfl) fun a54 H54 => ?_
        clear H53
        refine h_skip H54 rfl (H54.wuS rfl rfl rfl) rfl (P11 72 67 62 59 10 9 0 1 2 7 8 rfl rfl rfl rfl rfl rfl rfl rfl rfl rfl rfl) fun a55 H55 => ?_
        clear H54
        refine h_skip H55 rfl (H55.wf rfl rfl rfl) rfl (P10 73 62 59 10 9 0 1 2 7 8 rfl rfl rfl rfl rfl rfl rfl rfl rfl rfl) fun a56 H56 => ?_
        clear H55
        refine h_op H56 rfl (H56.wt rfl rfl rfl) (R_pick H56 rfl rfl rfl) rfl (P9 74 59 10 9 0 1 2 7 8 rfl rfl rfl rfl rfl rfl rfl rfl rfl) fun a57 H57 => ?_
        clear H56
        refine h_op H57 rfl (wn rfl) (R_pick H57 rfl rfl rfl) rfl (P8 75 10 9 0 1 2 7 8 rfl rfl rfl rfl rfl rfl rfl rfl) fun a58 H58 => ?_
        clear H57
        refine h_end ?_
        repeat (go_not_at_region 9; go_step)
        refine wp_cond_false (H58.ev (x := .tmp 75) rfl) ?_
        repeat (go_not_at_region 9; go_step)
        refine wp_region_lit ?_
        refine h_op H58 rfl (wn rfl) (R_mv H58 rfl rfl) rfl (P8 76 10 9 0 1 2 7 8 rfl rfl rfl rfl rfl rfl rfl rfl) fun a59 H59 => ?_
        clear H58
        refine h_end ?_
        repeat (go_not_at_region 10; go_step)
        refine wp_cond_true (H59.ev (x := .tmp 76) rfl) ?_
        obtain ⟨Wm, hmu, hL2⟩ := k1_put (T := 48) (E := 3) (k := ((j + 1 : Nat) : Int)) hL (.int .i64 (codeN S.L ((j + 1 : Nat) : Int) : Nat)) (by omega) (by omega) Tryz.underlying48 (Nat.lt_of_le_of_lt ents_size (by omega))
        rw [step_put hjl hc] at hL2
        repeat (go_not_at_region 10; go_step)
        refine wp_region_lit ?_
        refine h_op H59 rfl (wn rfl) (R_mv H59 rfl rfl) rfl (P7 77 9 0 1 2 7 8 rfl rfl rfl rfl rfl rfl rfl) fun a60 H60 => ?_
        clear H59
        refine h_op H60 rfl (wn rfl) (R_mv H60 rfl rfl) rfl (P8 78 77 9 0 1 2 7 8 rfl rfl rfl rfl rfl rfl rfl rfl) fun a61 H61 => ?_
        clear H60
        refine h_op H61 rfl (wn rfl) (R_mv H61 rfl rfl) rfl (P8 79 78 77 0 1 2 7 8 rfl rfl rfl rfl rfl rfl rfl rfl) fun a62 H62 => ?_
        clear H61
        refine h_stP (OneK w0 p bo ba S (mp bc (ents (stepF S.L So.L (j + 1)) S.L.length) :: K)) H62 rfl (wn rfl) (R_mu H62 rfl rfl rfl rfl hmu) (hL2) fun a63 w63 H63 hL' => ?_
        replace hL := hL'
        clear H62 hL'
        refine h_end ?_
        rw [← oc_done hjl hc] at H63
        repeat (go_not_at_region 4; go_step)
        repeat (go_not_at_region 4; go_step)
        refine wp_region_lit ?_
        refine h_op H63 rfl (wn rfl) (R_mv H63 rfl rfl) rfl (P6 24 0 1 2 7 8 rfl rfl rfl rfl rfl rfl) fun a64 H64 => ?_
        clear H63
        refine h_op H64 rfl (wn rfl) (R_bin H64 rfl rfl rfl (B_toI (y := ((j + 1 + 1 : Nat) : Int)) (B_add Tryz.underlying3 _ _ (by omega) (by omega)) (by omega))) rfl (P6 25 0 1 2 7 8 rfl rfl rfl rfl rfl rfl) fun a65 H65 => ?_
        clear H64
        refine h_op H65 rfl (wn rfl) (R_as H65 rfl rfl) rfl (P5 8 0 1 2 7 rfl rfl rfl rfl rfl) fun a66 H66 => ?_
        clear H65
        refine h_end ?_
        repeat (go_not_at_region 999; go_step)
        exact ⟨S.L.length - (j + 1), by omega, (HI.out _ _ _).2 ⟨j + 1, rfl, hjl, H66.pick _ (P5 0 1 2 7 8 rfl rfl rfl rfl rfl), hL⟩⟩
      · have h2 := he.2 _ ho
        rw [if_neg ho] at hlk
        have hlk : _ = Result.ok (Value.tuple #[.int .i64 (codeN So.L ((j + 1 : Nat) : Int) : Nat), .bool true]) _ := hlk
        rw [← h2] at hlk
        repeat (go_not_at_region 5; go_step)
        refine wp_region_lit ?_
        refine h_op H4 rfl (wn rfl) (R_mv H4 rfl rfl) rfl (P6 27 0 1 2 7 8 rfl rfl rfl rfl rfl rfl) fun a5 H5 => ?_
        clear H4
        refine h_op H5 rfl (wn rfl) (R_mv H5 rfl rfl) rfl (P7 28 27 0 1 2 7 8 rfl rfl rfl rfl rfl rfl rfl) fun a6 H6 => ?_
        clear H5
        refine h_call H6 rfl (wn rfl) (R_call2 H6 rfl rfl rfl (fun w => by simp [go_sem])) rfl ?_
        have hq := k1_answer (k := ((j + 1 : Nat) : Int)) hL (by omega) (by omega)
        rw [show decide (codeN S.L ((j + 1 : Nat) : Int) ≠ 0) = true from decide_eq_true hc] at hq
        refine hq.mono ?_
        rintro e wx ⟨rfl, rfl⟩
        refine ⟨_, rfl, fun a7 HH => ?_⟩
        have H7 := HH _ (P6 29 0 1 2 7 8 rfl rfl rfl rfl rfl rfl)
        clear HH H6
        refine h_op H7 rfl (wn rfl) (R_mv H7 rfl rfl) rfl (P6 26 0 1 2 7 8 rfl rfl rfl rfl rfl rfl) fun a8 H8 => ?_
        clear H7
        refine h_op H8 rfl (wn rfl) (R_ext H8 rfl rfl rfl) rfl (P7 30 26 0 1 2 7 8 rfl rfl rfl rfl rfl rfl rfl) fun a9 H9 => ?_
        clear H8
        refine h_op H9 rfl (wn rfl) (R_ext H9 rfl rfl rfl) rfl (P7 31 30 0 1 2 7 8 rfl rfl rfl rfl rfl rfl rfl) fun a10 H10 => ?_
        clear H9
        refine h_op H10 rfl (wn rfl) (R_as H10 rfl rfl) rfl (P7 9 31 0 1 2 7 8 rfl rfl rfl rfl rfl rfl rfl) fun a11 H11 => ?_
        clear H10
        refine h_op H11 rfl (wn rfl) (R_as H11 rfl rfl) rfl (P7 10 9 0 1 2 7 8 rfl rfl rfl rfl rfl rfl rfl) fun a12 H12 => ?_
        clear H11
        refine h_end ?_
        repeat (go_not_at_region 6; go_step)
        refine wp_region_lit ?_
        refine h_op H12 rfl (wn rfl) (R_mv H12 rfl rfl) rfl (P8 33 10 9 0 1 2 7 8 rfl rfl rfl rfl rfl rfl rfl rfl) fun a13 H13 => ?_
        clear H12
        refine h_op H13 rfl (wn rfl) (R_mv H13 rfl rfl) rfl (P9 34 33 10 9 0 1 2 7 8 rfl rfl rfl rfl rfl rfl rfl rfl rfl) fun a14 H14 => ?_
        clear H13
        refine h_op H14 rfl (wn rfl) (R_lk H14 rfl rfl rfl hlk) rfl (P8 35 10 9 0 1 2 7 8 rfl rfl rfl rfl rfl rfl rfl rfl) fun a15 H15 => ?_
        clear H14
        refine h_op H15 rfl (wn rfl) (R_mv H15 rfl rfl) rfl (P8 32 10 9 0 1 2 7 8 rfl rfl rfl rfl rfl rfl rfl rfl) fun a16 H16 => ?_
        clear H15
        refine h_op H16 rfl (wn rfl) (R_ext H16 rfl rfl rfl) rfl (P9 36 32 10 9 0 1 2 7 8 rfl rfl rfl rfl rfl rfl rfl rfl rfl) fun a17 H17 => ?_
        clear H16
        refine h_op H17 rfl (wn rfl) (R_ext H17 rfl rfl rfl) rfl (P9 37 36 10 9 0 1 2 7 8 rfl rfl rfl rfl rfl rfl rfl rfl rfl) fun a18 H18 => ?_
        clear H17
        refine h_op H18 rfl (wn rfl) (R_as H18 rfl rfl) rfl (P9 11 37 10 9 0 1 2 7 8 rfl rfl rfl rfl rfl rfl rfl rfl rfl) fun a19 H19 => ?_
        clear H18
        refine h_op H19 rfl (wn rfl) (R_as H19 rfl rfl) rfl (P9 12 11 10 9 0 1 2 7 8 rfl rfl rfl rfl rfl rfl rfl rfl rfl) fun a20 H20 => ?_
        clear H19
        refine h_end ?_
        repeat (go_not_at_region 7; go_step)
        repeat (go_not_at_region 7; go_step)
        refine wp_region_lit ?_
        refine h_op H20 rfl (wn rfl) (R_mv H20 rfl rfl) rfl (P9 38 11 10 9 0 1 2 7 8 rfl rfl rfl rfl rfl rfl rfl rfl rfl) fun a21 H21 => ?_
        clear H20
        refine h_op H21 rfl (wn rfl) (R_mv H21 rfl rfl) rfl (P9 39 11 10 9 0 1 2 7 8 rfl rfl rfl rfl rfl rfl rfl rfl rfl) fun a22 H22 => ?_
        clear H21
        refine h_op H22 rfl (H22.wt rfl rfl rfl) (R_mv H22 rfl rfl) rfl (P10 40 39 11 10 9 0 1 2 7 8 rfl rfl rfl rfl rfl rfl rfl rfl rfl rfl) fun a23 H23 => ?_
        clear H22
        refine h_op H23 rfl (H23.wt rfl rfl rfl) (R_not H23 rfl rfl) rfl (P10 41 39 11 10 9 0 1 2 7 8 rfl rfl rfl rfl rfl rfl rfl rfl rfl rfl) fun a24 H24 => ?_
        clear H23
        refine h_op H24 rfl (H24.wt rfl rfl rfl) (R_mv H24 rfl rfl) rfl (P10 42 39 11 10 9 0 1 2 7 8 rfl rfl rfl rfl rfl rfl rfl rfl rfl rfl) fun a25 H25 => ?_
        clear H24
        refine h_op H25 rfl (H25.wt rfl rfl rfl) (R_mv H25 rfl rfl) rfl (P11 43 42 39 11 10 9 0 1 2 7 8 rfl rfl rfl rfl rfl rfl rfl rfl rfl rfl rfl) fun a26 H26 => ?_
        clear H25
        refine h_op H26 rfl (H26.wt rfl rfl rfl) (R_mv H26 rfl rfl) rfl (P11 44 43 42 39 10 9 0 1 2 7 8 rfl rfl rfl rfl rfl rfl rfl rfl rfl rfl rfl) fun a27 H27 => ?_
        clear H26
        refine h_op H27 rfl (H27.wt rfl rfl rfl) (R_bin H27 rfl rfl rfl (B_to (y := false) (B_ne Tryz.underlying3 _ _) (by simp))) rfl (P10 45 42 39 10 9 0 1 2 7 8 rfl rfl rfl rfl rfl rfl rfl rfl rfl rfl) fun a28 H28 => ?_
        clear H27
        refine h_op H28 rfl (H28.wt rfl rfl rfl) (R_pick H28 rfl rfl rfl) rfl (P9 46 39 10 9 0 1 2 7 8 rfl rfl rfl rfl rfl rfl rfl rfl rfl) fun a29 H29 => ?_
        clear H28
        refine h_op H29 rfl (wn rfl) (R_pick H29 rfl rfl rfl) rfl (P8 47 10 9 0 1 2 7 8 rfl rfl rfl rfl rfl rfl rfl rfl) fun a30 H30 => ?_
        clear H29
        refine h_op H30 rfl (wn rfl) (R_mv H30 rfl rfl) rfl (P8 48 10 9 0 1 2 7 8 rfl rfl rfl rfl rfl rfl rfl rfl) fun a31 H31 => ?_
        clear H30
        refine h_op H31 rfl (H31.wt rfl rfl rfl) (R_mv H31 rfl rfl) rfl (P9 49 48 10 9 0 1 2 7 8 rfl rfl rfl rfl rfl rfl rfl rfl rfl) fun a32 H32 => ?_
        clear H31
        refine h_op H32 rfl (H32.wt rfl rfl rfl) (R_mv H32 rfl rfl) rfl (P9 50 48 10 9 0 1 2 7 8 rfl rfl rfl rfl rfl rfl rfl rfl rfl) fun a33 H33 => ?_
        clear H32
        refine h_op H33 rfl (H33.wt rfl rfl rfl) (R_mv H33 rfl rfl) rfl (P10 51 50 48 10 9 0 1 2 7 8 rfl rfl rfl rfl rfl rfl rfl rfl rfl rfl) fun a34 H34 => ?_
        clear H33
        refine h_op H34 rfl (H34.wt rfl rfl rfl) (R_bin H34 rfl rfl rfl (B_to (y := false) (B_lt Tryz.underlying3 _ _) (decide_eq_false (by omega)))) rfl (P10 52 50 48 10 9 0 1 2 7 8 rfl rfl rfl rfl rfl rfl rfl rfl rfl rfl) fun a35 H35 => ?_
        clear H34
        refine h_op H35 rfl (H35.wt rfl rfl rfl) (R_mv H35 rfl rfl) rfl (P10 53 50 48 10 9 0 1 2 7 8 rfl rfl rfl rfl rfl rfl rfl rfl rfl rfl) fun a36 H36 => ?_
        clear H35
        refine h_op H36 rfl (H36.wt rfl rfl rfl) (R_mv H36 rfl rfl) rfl (P11 54 53 50 48 10 9 0 1 2 7 8 rfl rfl rfl rfl rfl rfl rfl rfl rfl rfl rfl) fun a37 H37 => ?_
        clear H36
        refine h_op H37 rfl (H37.wt rfl rfl rfl) (R_bin H37 rfl rfl rfl (B_to (y := false) (B_gt Tryz.underlying3 _ _) (decide_eq_false (by omega)))) rfl (P11 55 53 50 48 10 9 0 1 2 7 8 rfl rfl rfl rfl rfl rfl rfl rfl rfl rfl rfl) fun a38 H38 => ?_
        clear H37
        refine h_op H38 rfl (H38.wt rfl rfl rfl) (R_pick H38 rfl rfl rfl) rfl (P10 56 50 48 10 9 0 1 2 7 8 rfl rfl rfl rfl rfl rfl rfl rfl rfl rfl) fun a39 H39 => ?_
        clear H38
        refine h_op H39 rfl (H39.wt rfl rfl rfl) (R_pick H39 rfl rfl rfl) rfl (P9 57 48 10 9 0 1 2 7 8 rfl rfl rfl rfl rfl rfl rfl rfl rfl) fun a40 H40 => ?_
        clear H39
        refine h_op H40 rfl (wn rfl) (R_pick H40 rfl rfl rfl) rfl (P8 58 10 9 0 1 2 7 8 rfl rfl rfl rfl rfl rfl rfl rfl) fun a41 H41 => ?_
        clear H40
        refine h_op H41 rfl (wn rfl) (R_mv H41 rfl rfl) rfl (P8 59 10 9 0 1 2 7 8 rfl rfl rfl rfl rfl rfl rfl rfl) fun a42 H42 => ?_
        clear H41
        refine h_op H42 rfl (H42.wt rfl rfl rfl) (R_mv H42 rfl rfl) rfl (P9 60 59 10 9 0 1 2 7 8 rfl rfl rfl rfl rfl rfl rfl rfl rfl) fun a43 H43 => ?_
        clear H42
        refine h_op H43 rfl (H43.wt rfl rfl rfl) (R_not H43 rfl rfl) rfl (P9 61 59 10 9 0 1 2 7 8 rfl rfl rfl rfl rfl rfl rfl rfl rfl) fun a44 H44 => ?_
        clear H43
        refine h_op H44 rfl (H44.wt rfl rfl rfl) (R_mv H44 rfl rfl) rfl (P9 62 59 10 9 0 1 2 7 8 rfl rfl rfl rfl rfl rfl rfl rfl rfl) fun a45 H45 => ?_
        clear H44
        refine h_skip H45 rfl (H45.wf rfl rfl rfl) rfl (P10 63 62 59 10 9 0 1 2 7 8 rfl rfl rfl rfl rfl rfl rfl rfl rfl rfl) fun a46 H46 => ?_
        clear H45
        refine h_skip H46 rfl (H46.wf rfl rfl rfl) rfl (P11 64 63 62 59 10 9 0 1 2 7 8 rfl rfl rfl rfl rfl rfl rfl rfl rfl rfl rfl) fun a47 H47 => ?_
        clear H46
        refine h_skip H47 rfl (H47.wf rfl rfl rfl) rfl (P11 65 63 62 59 10 9 0 1 2 7 8 rfl rfl rfl rfl rfl rfl rfl rfl rfl rfl rfl) fun a48 H48 => ?_
        clear H47
        refine h_skip H48 rfl (H48.wf rfl rfl rfl) rfl (P10 66 62 59 10 9 0 1 2 7 8 rfl rfl rfl rfl rfl rfl rfl rfl rfl rfl) fun a49 H49 => ?_
        clear H48
        refine h_skip H49 rfl (H49.wf rfl rfl rfl) rfl (P10 67 62 59 10 9 0 1 2 7 8 rfl rfl rfl rfl rfl rfl rfl rfl rfl rfl) fun a50 H50 => ?_
        clear H49
        refine h_skip H50 rfl (H50.wuS rfl rfl rfl) rfl (P11 68 67 62 59 10 9 0 1 2 7 8 rfl rfl rfl rfl rfl rfl rfl rfl rfl rfl rfl) fun a51 H51 => ?_
        clear H50
        refine h_skip H51 rfl (H51.wuS rfl rfl rfl) rfl (P12 69 68 67 62 59 10 9 0 1 2 7 8 rfl rfl rfl rfl rfl rfl rfl rfl rfl rfl rfl rfl) fun a52 H52 => ?_
        clear H51
        refine h_skip H52 rfl (H52.wuS rfl rfl rfl) rfl (P12 70 68 67 62 59 10 9 0 1 2 7 8 rfl rfl rfl rfl rfl rfl rfl rfl rfl rfl rfl rfl) fun a53 H53 => ?_
        clear H52
        refine h_skip H53 rfl (H53.wuS rfl rfl rfl) rfl (P12 71 68 67 62 59 10 9 0 1 2 7 8 rfl rfl rfl rfl rfl rfl rfl rfl rfl rfl rfl rfl) fun a54 H54 => ?_
        clear H53
        refine h_skip H54 rfl (H54.wuS rfl rfl rfl) rfl (P11 72 67 62 59 10 9 0 1 2 7 8 rfl rfl rfl rfl rfl rfl rfl rfl rfl rfl rfl) fun a55 H55 => ?_
        clear H54
        refine h_skip H55 rfl (H55.wf rfl rfl rfl) rfl (P10 73 62 59 10 9 0 1 2 7 8 rfl rfl rfl rfl rfl rfl rfl rfl rfl rfl) fun a56 H56 => ?_
        clear H55
        refine h_op H56 rfl (H56.wt rfl rfl rfl) (R_pick H56 rfl rfl rfl) rfl (P9 74 59 10 9 0 1 2 7 8 rfl rfl rfl rfl rfl rfl rfl rfl rfl) fun a57 H57 => ?_
        clear H56
        refine h_op H57 rfl (wn rfl) (R_pick H57 rfl rfl rfl) rfl (P8 75 10 9 0 1 2 7 8 rfl rfl rfl rfl rfl rfl rfl rfl) fun a58 H58 => ?_
        clear H57
        refine h_end ?_
        repeat (go_not_at_region 9; go_step)
        refine wp_cond_false (H58.ev (x := .tmp 75) rfl) ?_
        repeat (go_not_at_region 9; go_step)
        refine wp_region_lit ?_
        refine h_op H58 rfl (wn rfl) (R_mv H58 rfl rfl) rfl (P8 76 10 9 0 1 2 7 8 rfl rfl rfl rfl rfl rfl rfl rfl) fun a59 H59 => ?_
        clear H58
        refine h_end ?_
        repeat (go_not_at_region 10; go_step)
        refine wp_cond_true (H59.ev (x := .tmp 76) rfl) ?_
        obtain ⟨Wm, hmu, hL2⟩ := k1_put (T := 48) (E := 3) (k := ((j + 1 : Nat) : Int)) hL (.int .i64 (codeN S.L ((j + 1 : Nat) : Int) : Nat)) (by omega) (by omega) Tryz.underlying48 (Nat.lt_of_le_of_lt ents_size (by omega))
        rw [step_put hjl hc] at hL2
        repeat (go_not_at_region 10; go_step)
        refine wp_region_lit ?_
        refine h_op H59 rfl (wn rfl) (R_mv H59 rfl rfl) rfl (P7 77 9 0 1 2 7 8 rfl rfl rfl rfl rfl rfl rfl) fun a60 H60 => ?_
        clear H59
        refine h_op H60 rfl (wn rfl) (R_mv H60 rfl rfl) rfl (P8 78 77 9 0 1 2 7 8 rfl rfl rfl rfl rfl rfl rfl rfl) fun a61 H61 => ?_
        clear H60
        refine h_op H61 rfl (wn rfl) (R_mv H61 rfl rfl) rfl (P8 79 78 77 0 1 2 7 8 rfl rfl rfl rfl rfl rfl rfl rfl) fun a62 H62 => ?_
        clear H61
        refine h_stP (OneK w0 p bo ba S (mp bc (ents (stepF S.L So.L (j + 1)) S.L.length) :: K)) H62 rfl (wn rfl) (R_mu H62 rfl rfl rfl rfl hmu) (hL2) fun a63 w63 H63 hL' => ?_
        replace hL := hL'
        clear H62 hL'
        refine h_end ?_
        rw [← oc_done hjl hc] at H63
        repeat (go_not_at_region 4; go_step)
        repeat (go_not_at_region 4; go_step)
        refine wp_region_lit ?_
        refine h_op H63 rfl (wn rfl) (R_mv H63 rfl rfl) rfl (P6 24 0 1 2 7 8 rfl rfl rfl rfl rfl rfl) fun a64 H64 => ?_
        clear H63
        refine h_op H64 rfl (wn rfl) (R_bin H64 rfl rfl rfl (B_toI (y := ((j + 1 + 1 : Nat) : Int)) (B_add Tryz.underlying3 _ _ (by omega) (by omega)) (by omega))) rfl (P6 25 0 1 2 7 8 rfl rfl rfl rfl rfl rfl) fun a65 H65 => ?_
        clear H64
        refine h_op H65 rfl (wn rfl) (R_as H65 rfl rfl) rfl (P5 8 0 1 2 7 rfl rfl rfl rfl rfl) fun a66 H66 => ?_
        clear H65
        refine h_end ?_
        repeat (go_not_at_region 999; go_step)
        exact ⟨S.L.length - (j + 1), by omega, (HI.out _ _ _).2 ⟨j + 1, rfl, hjl, H66.pick _ (P5 0 1 2 7 8 rfl rfl rfl rfl rfl), hL⟩⟩
  · repeat (go_not_at_region 3; go_step)
    refine wp_region_lit ?_
    refine h_op H0 rfl (wn rfl) (R_mv H0 rfl rfl) rfl (P6 20 0 1 2 7 8 rfl rfl rfl rfl rfl rfl) fun a1 H1 => ?_
    clear H0
    refine h_op H1 rfl (wn rfl) (R_mv H1 rfl rfl) rfl (P7 21 20 0 1 2 7 8 rfl rfl rfl rfl rfl rfl rfl) fun a2 H2 => ?_
    clear H1
    refine h_call H2 rfl (wn rfl) (R_call1 H2 rfl rfl (fun w => by simp [go_sem])) rfl ?_
    refine (k1_last hL).mono ?_
    rintro e wx ⟨rfl, rfl⟩
    refine ⟨_, rfl, fun a3 HH => ?_⟩
    have H3 := HH _ (P7 22 20 0 1 2 7 8 rfl rfl rfl rfl rfl rfl rfl)
    clear HH H2
    refine h_op H3 rfl (wn rfl) (R_bin H3 rfl rfl rfl (B_to (y := false) (B_le Tryz.underlying3 _ _) (decide_eq_false (by omega)))) rfl (P6 23 0 1 2 7 8 rfl rfl rfl rfl rfl rfl) fun a4 H4 => ?_
    clear H3
    refine h_end ?_
    repeat (go_not_at_region 12; go_step)
    refine wp_cond_false (H4.ev (x := .tmp 23) rfl) ?_
    obtain rfl : j = S.L.length := by omega
    rw [step_n] at hL
    clear HI
    repeat (go_not_at_region 12; go_step)
    refine wp_region_lit ?_
    refine h_op H4 rfl (wn rfl) (R_mv H4 rfl rfl) rfl (P4 82 0 1 7 rfl rfl rfl rfl) fun a5 H5 => ?_
    clear H4
    refine h_call H5 rfl (wn rfl) (R_call1 H5 rfl rfl (fun w => by simp [go_sem])) rfl ?_
    refine (k1_tick hL (by omega) (by omega) hI.hold.ok (by omega) (by omega)).mono ?_
    rintro e w6 ⟨vp, Xp, rfl, hp, hL2⟩
    obtain ⟨Lp, hLp⟩ := hL2.lvl
    have hcur := prow_cur (by exact hp) (by rw [List.append_assoc] at hLp; exact hLp)
    obtain ⟨qp, cp, rfl⟩ := hp.shape
    replace hL := hL2
    clear hL2 hLp hp
    refine ⟨_, rfl, fun a6 HH => ?_⟩
    have H6 := HH _ (P4 83 0 1 7 rfl rfl rfl rfl)
    clear HH H5
    refine h_op H6 rfl (wn rfl) (R_as H6 rfl rfl) rfl (P4 13 0 1 7 rfl rfl rfl rfl) fun a7 H7 => ?_
    clear H6
    refine h_end ?_
    have hoc : (ents (opF S.L) S.L.length).length = (opE S.L).length := rfl
    repeat (go_not_at_region 13; go_step)
    refine wp_region_lit ?_
    refine h_op H7 rfl (wn rfl) (R_mv H7 rfl rfl) rfl (P5 84 13 0 1 7 rfl rfl rfl rfl rfl) fun a8 H8 => ?_
    clear H7
    refine h_op H8 rfl (wn rfl) (R_mv H8 rfl rfl) rfl (P6 85 84 13 0 1 7 rfl rfl rfl rfl rfl rfl) fun a9 H9 => ?_
    clear H8
    refine h_call H9 rfl (wn rfl) (R_call1 H9 rfl rfl (fun w => by simp [go_sem])) rfl ?_
    refine (k1_left hL).mono ?_
    rintro e wx ⟨rfl, rfl⟩
    refine ⟨_, rfl, fun a10 HH => ?_⟩
    have H10 := HH _ (P6 86 84 13 0 1 7 rfl rfl rfl rfl rfl rfl)
    clear HH H9
    refine h_op H10 rfl (wn rfl) (R_bin H10 rfl rfl rfl (B_to (y := false) (B_ne Tryz.underlying3 _ _) (by rw [hoc]; simp))) rfl (P5 87 13 0 1 7 rfl rfl rfl rfl rfl) fun a11 H11 => ?_
    clear H10
    refine h_op H11 rfl (wn rfl) (R_mv H11 rfl rfl) rfl (P5 88 13 0 1 7 rfl rfl rfl rfl rfl) fun a12 H12 => ?_
    clear H11
    refine h_op H12 rfl (H12.wt rfl rfl rfl) (R_mv H12 rfl rfl) rfl (P6 89 88 13 0 1 7 rfl rfl rfl rfl rfl rfl) fun a13 H13 => ?_
    clear H12
    refine h_op H13 rfl (H13.wt rfl rfl rfl) (R_bin H13 rfl rfl rfl (B_to (y := false) (B_gt Tryz.underlying3 _ _) (decide_eq_false (by omega)))) rfl (P6 90 88 13 0 1 7 rfl rfl rfl rfl rfl rfl) fun a14 H14 => ?_
    clear H13
    refine h_op H14 rfl (wn rfl) (R_pick H14 rfl rfl rfl) rfl (P5 91 13 0 1 7 rfl rfl rfl rfl rfl) fun a15 H15 => ?_
    clear H14
    refine h_op H15 rfl (wn rfl) (R_mv H15 rfl rfl) rfl (P5 92 13 0 1 7 rfl rfl rfl rfl rfl) fun a16 H16 => ?_
    clear H15
    refine h_op H16 rfl (H16.wt rfl rfl rfl) (R_mv H16 rfl rfl) rfl (P6 93 92 13 0 1 7 rfl rfl rfl rfl rfl rfl) fun a17 H17 => ?_
    clear H16
    refine h_op H17 rfl (H17.wt rfl rfl rfl) (R_lenS H17 rfl rfl Tryz.underlying41) rfl (P6 94 92 13 0 1 7 rfl rfl rfl rfl rfl rfl) fun a18 H18 => ?_
    clear H17
    refine h_op H18 rfl (H18.wt rfl rfl rfl) (R_mv H18 rfl rfl) rfl (P6 95 94 92 13 0 1 rfl rfl rfl rfl rfl rfl) fun a19 H19 => ?_
    clear H18
    refine h_op H19 rfl (H19.wt rfl rfl rfl) (R_bin H19 rfl rfl rfl (B_to (y := false) (B_ne Tryz.underlying3 _ _) (by rw [hoc, hPN, hPO]; simp))) rfl (P5 96 92 13 0 1 rfl rfl rfl rfl rfl) fun a20 H20 => ?_
    clear H19
    refine h_op H20 rfl (wn rfl) (R_pick H20 rfl rfl rfl) rfl (P4 97 13 0 1 rfl rfl rfl rfl) fun a21 H21 => ?_
    clear H20
    refine h_op H21 rfl (wn rfl) (R_mv H21 rfl rfl) rfl (P4 98 13 0 1 rfl rfl rfl rfl) fun a22 H22 => ?_
    clear H21
    refine h_op H22 rfl (H22.wt rfl rfl rfl) (R_mv H22 rfl rfl) rfl (P5 99 98 13 0 1 rfl rfl rfl rfl rfl) fun a23 H23 => ?_
    clear H22
    refine h_call H23 rfl (H23.wt rfl rfl rfl) (R_call1 H23 rfl rfl (fun w => by simp [go_sem])) rfl ?_
    refine (k1_low hL).mono ?_
    rintro e wx ⟨rfl, rfl⟩
    refine ⟨_, rfl, fun a24 HH => ?_⟩
    have H24 := HH _ (P5 100 98 13 0 1 rfl rfl rfl rfl rfl)
    clear HH H23
    refine h_op H24 rfl (H24.wt rfl rfl rfl) (R_mv H24 rfl rfl) rfl (P6 101 100 98 13 0 1 rfl rfl rfl rfl rfl rfl) fun a25 H25 => ?_
    clear H24
    refine h_call H25 rfl (H25.wt rfl rfl rfl) (R_call1 H25 rfl rfl (fun w => by simp [go_sem])) rfl ?_
    refine (k1_last hL).mono ?_
    rintro e wx ⟨rfl, rfl⟩
    refine ⟨_, rfl, fun a26 HH => ?_⟩
    have H26 := HH _ (P6 102 100 98 13 0 1 rfl rfl rfl rfl rfl rfl)
    clear HH H25
    refine h_op H26 rfl (H26.wt rfl rfl rfl) (R_bin H26 rfl rfl rfl (B_add Tryz.underlying3 _ _ (by omega) (by omega))) rfl (P6 103 100 98 13 0 1 rfl rfl rfl rfl rfl rfl) fun a27 H27 => ?_
    clear H26
    refine h_op H27 rfl (H27.wt rfl rfl rfl) (R_bin H27 rfl rfl rfl (B_to (y := false) (B_gt Tryz.underlying3 _ _) (decide_eq_false (by omega)))) rfl (P5 104 98 13 0 1 rfl rfl rfl rfl rfl) fun a28 H28 => ?_
    clear H27
    refine h_op H28 rfl (wn rfl) (R_pick H28 rfl rfl rfl) rfl (P4 105 13 0 1 rfl rfl rfl rfl) fun a29 H29 => ?_
    clear H28
    refine h_end ?_
    repeat (go_not_at_region 15; go_step)
    refine wp_cond_false (H29.ev (x := .tmp 105) rfl) ?_
    repeat (go_not_at_region 15; go_step)
    refine wp_region_lit ?_
    refine h_op H29 rfl (wn rfl) (R_as H29 rfl rfl) rfl (P4 14 13 0 1 rfl rfl rfl rfl) fun a30 H30 => ?_
    clear H29
    refine h_end ?_
    repeat (go_not_at_region 16; go_step)
    refine wp_region_lit ?_
    refine h_op H30 rfl (wn rfl) (R_as H30 rfl rfl) rfl (P5 15 14 13 0 1 rfl rfl rfl rfl rfl) fun a31 H31 => ?_
    clear H30
    refine h_end ?_
    repeat (go_not_at_region 17; go_step)
    obtain ⟨I, hI2⟩ : ∃ I : Nat → Act → World → Prop, ∀ n' a' w', I n' a' w' ↔ ∃ (r : Nat) (la : Int), n' = (pktsM S).length - r ∧ r ≤ (pktsM S).length ∧ Fr a' 190 [(0, .pointer (some ⟨p, 0, none⟩)), (1, .int .i64 n), (13, .slice qp (pktsM S).length cp), (14, .int .i64 la), (15, .int .i64 (r : Nat))] ∧ (OneK w0 p bo ba S (Xp ++ (mp bc (anE S.L) :: K))) w' ∧ ∀ q (hq : q < (opItems S.L).length), r ≤ q → la < (opItems S.L)[q].seq := ⟨_, fun _ _ _ => Iff.rfl⟩
    have HI := Lib.hid hI2
    clear hI2
    refine wp_loop_ghost I ((pktsM S).length) ((HI.out _ _ _).2 ⟨0, 0, rfl, Nat.zero_le _, H31.pick _ (P5 0 1 13 14 15 rfl rfl rfl rfl rfl), hL, fun q hq _ => by have := (open_code hI (List.getElem_mem hq)).2.1; omega⟩) ?_
    clear hL H31
    intro n' a1 wl hi'
    obtain ⟨r, la, rfl, hr, H0, hL, hla⟩ := (HI.out _ _ _).1 hi'
    clear hi'
    by_cases hrl : r < (pktsM S).length
    · repeat (go_not_at_region 17; go_step)
      refine wp_region_lit ?_
      refine h_op H0 rfl (wn rfl) (R_mv H0 rfl rfl) rfl (P6 106 0 1 13 14 15 rfl rfl rfl rfl rfl rfl) fun a1 H1 => ?_
      clear H0
      refine h_op H1 rfl (wn rfl) (R_mv H1 rfl rfl) rfl (P7 107 106 0 1 13 14 15 rfl rfl rfl rfl rfl rfl rfl) fun a2 H2 => ?_
      clear H1
      refine h_op H2 rfl (wn rfl) (R_lenS H2 rfl rfl Tryz.underlying41) rfl (P7 108 106 0 1 13 14 15 rfl rfl rfl rfl rfl rfl rfl) fun a3 H3 => ?_
      clear H2
      refine h_op H3 rfl (wn rfl) (R_bin H3 rfl rfl rfl (B_to (y := true) (B_lt Tryz.underlying3 _ _) (decide_eq_true (by omega)))) rfl (P6 109 0 1 13 14 15 rfl rfl rfl rfl rfl rfl) fun a4 H4 => ?_
      clear H3
      refine h_end ?_
      repeat (go_not_at_region 19; go_step)
      refine wp_cond_true (H4.ev (x := .tmp 109) rfl) ?_
      rcases hcur with ⟨h0, _⟩ | ⟨gx, cur, cc, ee, he2, rfl, hcel⟩
      · omega
      cases he2
      obtain ⟨hc0, hc1, hc2⟩ := hcel r hrl
      have hro : r < (opItems S.L).length := by omega
      obtain ⟨y, hy⟩ : ∃ y, y = (opItems S.L)[r] := ⟨_, rfl⟩
      have hym : y ∈ opItems S.L := by rw [hy]; exact List.getElem_mem hro
      have hpk : (pktsM S)[r] = (4 + S.src, toN S y, itD (outI S y)) := by
        have e : (pktsM S)[r]? = some (4 + S.src, toN S y, itD (outI S y)) := by
          rw [out_all hI (by omega) n0 n1, List.getElem?_map, List.getElem?_eq_getElem hro, ← hy]
          rfl
        rw [List.getElem?_eq_getElem hrl] at e
        exact Option.some.inj e
      rw [hpk] at hc0 hc1 hc2
      have hgood := out_good hI (by omega) n0 n1 hym
      obtain ⟨hoc1, hoc2, hoc3⟩ := open_code hI hym
      obtain ⟨hto0, hto1, hto2⟩ := out_to hI hym
      have hlay : la < y.seq := by rw [hy]; exact hla r hro (Nat.le_refl _)
      have hysrc : y.src = n := by
        obtain ⟨j2, hj2⟩ := opItems_at hym
        exact ((hI.it j2 _ hj2).2.1).trans hsrc
      obtain ⟨Y, hY⟩ : ∃ Y, Y = outI S y := ⟨_, rfl⟩
      rw [← hY] at hgood hc2
      have hYs : Y.seq = y.seq := by rw [hY]; rfl
      have hYr : Y.src = n := by rw [hY]; exact hysrc
      have hYl : Y.low = ((lowN S.L : Nat) : Int) := by rw [hY]; rfl
      repeat (go_not_at_region 19; go_step)
      refine wp_region_lit ?_
      refine h_op H4 rfl (wn rfl) (R_mv H4 rfl rfl) rfl (P6 113 0 1 13 14 15 rfl rfl rfl rfl rfl rfl) fun a5 H5 => ?_
      clear H4
      refine h_op H5 rfl (wn rfl) (R_mv H5 rfl rfl) rfl (P7 114 113 0 1 13 14 15 rfl rfl rfl rfl rfl rfl rfl) fun a6 H6 => ?_
      clear H5
      refine h_op H6 rfl (wn rfl) (R_ixa H6 rfl rfl rfl (ix_pkj hrl)) rfl (P6 115 0 1 13 14 15 rfl rfl rfl rfl rfl rfl) fun a7 H7 => ?_
      clear H6
      refine h_op H7 rfl (wn rfl) (R_fa H7 rfl rfl fk_2) rfl (P6 116 0 1 13 14 15 rfl rfl rfl rfl rfl rfl) fun a8 H8 => ?_
      clear H7
      refine h_op H8 rfl (wn rfl) (R_ld H8 rfl rfl (ld_str ((hL.cl List.mem_cons_self _).trans hc2))) rfl (P6 117 0 1 13 14 15 rfl rfl rfl rfl rfl rfl) fun a9 H9 => ?_
      clear H8
      refine h_call H9 rfl (wn rfl) (R_call1 H9 rfl rfl (fun w => by simp [go_sem])) rfl ?_
      refine (of_it (x := Y) hgood).mono ?_
      rintro e w10 ⟨vo, vs, Ro, Rs, rfl, hso, hss, hL2⟩
      replace hL := hL.addl (X := lift (Ro ++ (Rs ++ []))) fun R h => h.join hL2
      clear hL2
      refine ⟨_, rfl, fun a10 HH => ?_⟩
      have H10 := HH _ (P6 118 0 1 13 14 15 rfl rfl rfl rfl rfl rfl)
      clear HH H9
      refine h_op H10 rfl (wn rfl) (R_mv H10 rfl rfl) rfl (P6 112 0 1 13 14 15 rfl rfl rfl rfl rfl rfl) fun a11 H11 => ?_
      clear H10
      refine h_op H11 rfl (wn rfl) (R_ext H11 rfl rfl rfl) rfl (P7 119 112 0 1 13 14 15 rfl rfl rfl rfl rfl rfl rfl) fun a12 H12 => ?_
      clear H11
      refine h_op H12 rfl (wn rfl) (R_ext H12 rfl rfl rfl) rfl (P7 120 119 0 1 13 14 15 rfl rfl rfl rfl rfl rfl rfl) fun a13 H13 => ?_
      clear H12
      refine h_opP (OneK w0 p bo ba S (bk w10.heap.size zcells 37 :: (lift (Ro ++ (Rs ++ [])) ++ ([bk gx cur ee] ++ (mp bc (anE S.L) :: K))))) H13 rfl (wn rfl) (R_alloc rfl al_mg) (hL.add fun R h => h.alloc _ _) rfl (P8 16 120 119 0 1 13 14 15 rfl rfl rfl rfl rfl rfl rfl rfl) fun a14 w14 H14 hL' => ?_
      replace hL := hL'
      clear H13 hL'
      refine h_stP (OneK w0 p bo ba S (bk w10.heap.size (mcells (itm Y) vo vs) 37 :: (lift (Ro ++ (Rs ++ [])) ++ ([bk gx cur ee] ++ (mp bc (anE S.L) :: K))))) H14 rfl (wn rfl) (R_st H14 rfl rfl rfl (st_mg (hL.mem List.mem_cons_self) (mcells_one (slot_one hso) (slot_one hss)))) (hL.upd fun R h => h.row _) fun a15 w15 H15 hL' => ?_
      replace hL := hL'
      clear H14 hL'
      refine h_op H15 rfl (wn rfl) (R_as H15 rfl rfl) rfl (P7 17 16 0 1 13 14 15 rfl rfl rfl rfl rfl rfl rfl) fun a16 H16 => ?_
      clear H15
      refine h_end ?_
      obtain ⟨gm, hgm⟩ : ∃ g, g = w10.heap.size := ⟨_, rfl⟩
      rw [← hgm] at H16 hL
      clear hgm
      repeat (go_not_at_region 20; go_step)
      refine wp_region_lit ?_
      refine h_op H16 rfl (wn rfl) (R_mv H16 rfl rfl) rfl (P8 122 17 16 0 1 13 14 15 rfl rfl rfl rfl rfl rfl rfl rfl) fun a17 H17 => ?_
      clear H16
      refine h_op H17 rfl (wn rfl) (R_fa H17 rfl rfl (fa29_9 _ _)) rfl (P9 123 122 17 16 0 1 13 14 15 rfl rfl rfl rfl rfl rfl rfl rfl rfl) fun a18 H18 => ?_
      clear H17
      refine h_op H18 rfl (wn rfl) (R_fa H18 rfl rfl (fi_k (by decide))) rfl (P9 124 122 17 16 0 1 13 14 15 rfl rfl rfl rfl rfl rfl rfl rfl rfl) fun a19 H19 => ?_
      clear H18
      refine h_op H19 rfl (wn rfl) (R_ld H19 rfl rfl (ld_int (x := Y.seq) ((hL.cl List.mem_cons_self _).trans rfl))) rfl (P9 125 122 17 16 0 1 13 14 15 rfl rfl rfl rfl rfl rfl rfl rfl rfl) fun a20 H20 => ?_
      clear H19
      refine h_call H20 rfl (wn rfl) (R_call2 H20 rfl rfl rfl (fun w => by simp [go_sem])) rfl ?_
      have hq := k1_answer (k := Y.seq) hL (by omega) (by omega)
      rw [show codeN S.L Y.seq = 0 by rw [hYs]; exact hoc1] at hq
      refine hq.mono ?_
      rintro e wx ⟨rfl, rfl⟩
      refine ⟨_, rfl, fun a21 HH => ?_⟩
      have H21 := HH _ (P8 126 17 16 0 1 13 14 15 rfl rfl rfl rfl rfl rfl rfl rfl)
      clear HH H20
      refine h_op H21 rfl (wn rfl) (R_mv H21 rfl rfl) rfl (P8 121 17 16 0 1 13 14 15 rfl rfl rfl rfl rfl rfl rfl rfl) fun a22 H22 => ?_
      clear H21
      refine h_op H22 rfl (wn rfl) (R_ext H22 rfl rfl rfl) rfl (P9 127 121 17 16 0 1 13 14 15 rfl rfl rfl rfl rfl rfl rfl rfl rfl) fun a23 H23 => ?_
      clear H22
      refine h_op H23 rfl (wn rfl) (R_ext H23 rfl rfl rfl) rfl (P9 128 127 17 16 0 1 13 14 15 rfl rfl rfl rfl rfl rfl rfl rfl rfl) fun a24 H24 => ?_
      clear H23
      refine h_op H24 rfl (wn rfl) (R_as H24 rfl rfl) rfl (P9 18 128 17 16 0 1 13 14 15 rfl rfl rfl rfl rfl rfl rfl rfl rfl) fun a25 H25 => ?_
      clear H24
      refine h_op H25 rfl (wn rfl) (R_as H25 rfl rfl) rfl (P9 19 18 17 16 0 1 13 14 15 rfl rfl rfl rfl rfl rfl rfl rfl rfl) fun a26 H26 => ?_
      clear H25
      refine h_end ?_
      repeat (go_not_at_region 21; go_step)
      refine wp_region_held_drew (S := fun w' => OneK w0 p bo ba S (bk gm (mcells (itm Y) vo vs) 37 :: (lift (Ro ++ (Rs ++ [])) ++ ([bk gx cur ee] ++ (mp bc (anE S.L) :: K)))) w') (by kernel_rfl) hL.drew (fun hL' => ?_)
      replace hL := hL'
      clear hL'
      refine a_op  0 H26 rfl rfl (by kernel_rfl) (by kernel_rfl) (by kernel_rfl) (fun _ _ _ h => h) (wn rfl) (fun w hL => R_mv H26 rfl rfl) hL rfl (P9 129 0 1 13 14 15 16 17 19 rfl rfl rfl rfl rfl rfl rfl rfl rfl) fun a27 H27 => ?_
      clear H26
      refine a_op  1 H27 rfl rfl (by kernel_rfl) (by kernel_rfl) (by kernel_rfl) (fun _ _ _ h => h) (wn rfl) (fun w hL => R_bin H27 rfl rfl rfl (B_ne Tryz.underlying23 _ _)) hL rfl (P9 130 0 1 13 14 15 16 17 19 rfl rfl rfl rfl rfl rfl rfl rfl rfl) fun a28 H28 => ?_
      clear H27
      refine a_op  2 H28 rfl rfl (by kernel_rfl) (by kernel_rfl) (by kernel_rfl) (fun _ _ _ h => h) (wn rfl) (fun w hL => R_mv H28 rfl rfl) hL rfl (P9 131 0 1 13 14 15 16 17 19 rfl rfl rfl rfl rfl rfl rfl rfl rfl) fun a29 H29 => ?_
      clear H28
      replace H29 := H29.pick [(131, .bool ((0 : Int) != 0)), (0, .pointer (some ⟨p, 0, none⟩)), (1, .int .i64 n), (13, .slice (some ⟨gx, 0, none⟩) (pktsM S).length cp), (14, .int .i64 la), (15, .int .i64 (r : Nat)), (16, .pointer (some ⟨gm, 0, none⟩)), (17, .int .i64 0), (19, .bool (decide ((0 : Nat) ≠ 0)))] (P9 131 0 1 13 14 15 16 17 19 rfl rfl rfl rfl rfl rfl rfl rfl rfl)
      generalize hu0 : ((0 : Int) != 0) = u0 at H29
      refine a_opB  3 H29 rfl rfl (by kernel_rfl) (by kernel_rfl) (by kernel_rfl) (fun _ _ _ h => h) rfl rfl rfl (fun hb w hL => by subst hb; exact R_fa H29 rfl rfl (fa29_0 _ _)) hL rfl (P10 132 131 0 1 13 14 15 16 17 19 rfl rfl rfl rfl rfl rfl rfl rfl rfl rfl) fun a30 H30 => ?_
      clear H29
      refine a_opB  4 H30 rfl rfl (by kernel_rfl) (by kernel_rfl) (by kernel_rfl) (fun _ _ _ h => h) rfl rfl rfl (fun hb w hL => by subst hb; exact R_ld H30 rfl rfl (ld_u8 (x := 1) ((hL.cl List.mem_cons_self 0).trans rfl))) hL rfl (P10 133 131 0 1 13 14 15 16 17 19 rfl rfl rfl rfl rfl rfl rfl rfl rfl rfl) fun a31 H31 => ?_
      clear H30
      refine a_opB  5 H31 rfl rfl (by kernel_rfl) (by kernel_rfl) (by kernel_rfl) (fun _ _ _ h => h) rfl rfl rfl (fun hb w hL => by subst hb; exact R_bin H31 rfl rfl rfl (B8_ne _ _)) hL rfl (P10 134 131 0 1 13 14 15 16 17 19 rfl rfl rfl rfl rfl rfl rfl rfl rfl rfl) fun a32 H32 => ?_
      clear H31
      refine a_op  6 H32 rfl rfl (by kernel_rfl) (by kernel_rfl) (by kernel_rfl) (fun _ _ _ h => h) (wn rfl) (fun w hL => R_pickOr H32 rfl rfl rfl) hL rfl (P9 135 0 1 13 14 15 16 17 19 rfl rfl rfl rfl rfl rfl rfl rfl rfl) fun a33 H33 => ?_
      clear H32
      refine a_op  7 H33 rfl rfl (by kernel_rfl) (by kernel_rfl) (by kernel_rfl) (fun _ _ _ h => h) (wn rfl) (fun w hL => R_mv H33 rfl rfl) hL rfl (P9 136 0 1 13 14 15 16 17 19 rfl rfl rfl rfl rfl rfl rfl rfl rfl) fun a34 H34 => ?_
      clear H33
      replace H34 := H34.pick [(136, .bool (u0 || ((1 : Int) != 1))), (0, .pointer (some ⟨p, 0, none⟩)), (1, .int .i64 n), (13, .slice (some ⟨gx, 0, none⟩) (pktsM S).length cp), (14, .int .i64 la), (15, .int .i64 (r : Nat)), (16, .pointer (some ⟨gm, 0, none⟩)), (17, .int .i64 0), (19, .bool (decide ((0 : Nat) ≠ 0)))] (P9 136 0 1 13 14 15 16 17 19 rfl rfl rfl rfl rfl rfl rfl rfl rfl)
      generalize hu1 : (u0 || ((1 : Int) != 1)) = u1 at H34
      refine a_opB  8 H34 rfl rfl (by kernel_rfl) (by kernel_rfl) (by kernel_rfl) (fun _ _ _ h => h) rfl rfl rfl (fun hb w hL => by subst hb; exact R_fa H34 rfl rfl (fa29_9 _ _)) hL rfl (P10 137 136 0 1 13 14 15 16 17 19 rfl rfl rfl rfl rfl rfl rfl rfl rfl rfl) fun a35 H35 => ?_
      clear H34
      refine a_opB  9 H35 rfl rfl (by kernel_rfl) (by kernel_rfl) (by kernel_rfl) (fun _ _ _ h => h) rfl rfl rfl (fun hb w hL => by subst hb; exact R_fa H35 rfl rfl (fi_k (by decide))) hL rfl (P10 138 136 0 1 13 14 15 16 17 19 rfl rfl rfl rfl rfl rfl rfl rfl rfl rfl) fun a36 H36 => ?_
      clear H35
      refine a_opB  10 H36 rfl rfl (by kernel_rfl) (by kernel_rfl) (by kernel_rfl) (fun _ _ _ h => h) rfl rfl rfl (fun hb w hL => by subst hb; exact R_ld H36 rfl rfl (ld_int (x := Y.src) ((hL.cl List.mem_cons_self 9).trans rfl))) hL rfl (P10 139 136 0 1 13 14 15 16 17 19 rfl rfl rfl rfl rfl rfl rfl rfl rfl rfl) fun a37 H37 => ?_
      clear H36
      refine a_opB  11 H37 rfl rfl (by kernel_rfl) (by kernel_rfl) (by kernel_rfl) (fun _ _ _ h => h) rfl rfl rfl (fun hb w hL => by subst hb; exact R_mv H37 rfl rfl) hL rfl (P11 140 139 136 0 1 13 14 15 16 17 19 rfl rfl rfl rfl rfl rfl rfl rfl rfl rfl rfl) fun a38 H38 => ?_
      clear H37
      refine a_opB  12 H38 rfl rfl (by kernel_rfl) (by kernel_rfl) (by kernel_rfl) (fun _ _ _ h => h) rfl rfl rfl (fun hb w hL => by subst hb; exact R_bin H38 rfl rfl rfl (B_ne Tryz.underlying3 _ _)) hL rfl (P10 141 136 0 1 13 14 15 16 17 19 rfl rfl rfl rfl rfl rfl rfl rfl rfl rfl) fun a39 H39 => ?_
      clear H38
      refine a_op  13 H39 rfl rfl (by kernel_rfl) (by kernel_rfl) (by kernel_rfl) (fun _ _ _ h => h) (wn rfl) (fun w hL => R_pickOr H39 rfl rfl rfl) hL rfl (P9 142 0 1 13 14 15 16 17 19 rfl rfl rfl rfl rfl rfl rfl rfl rfl) fun a40 H40 => ?_
      clear H39
      refine a_op  14 H40 rfl rfl (by kernel_rfl) (by kernel_rfl) (by kernel_rfl) (fun _ _ _ h => h) (wn rfl) (fun w hL => R_mv H40 rfl rfl) hL rfl (P9 143 0 1 13 14 15 16 17 19 rfl rfl rfl rfl rfl rfl rfl rfl rfl) fun a41 H41 => ?_
      clear H40
      replace H41 := H41.pick [(143, .bool (u1 || (Y.src != n))), (0, .pointer (some ⟨p, 0, none⟩)), (1, .int .i64 n), (13, .slice (some ⟨gx, 0, none⟩) (pktsM S).length cp), (14, .int .i64 la), (15, .int .i64 (r : Nat)), (16, .pointer (some ⟨gm, 0, none⟩)), (17, .int .i64 0), (19, .bool (decide ((0 : Nat) ≠ 0)))] (P9 143 0 1 13 14 15 16 17 19 rfl rfl rfl rfl rfl rfl rfl rfl rfl)
      generalize hu2 : (u1 || (Y.src != n)) = u2 at H41
      refine a_opB  15 H41 rfl rfl (by kernel_rfl) (by kernel_rfl) (by kernel_rfl) (fun _ _ _ h => h) rfl rfl rfl (fun hb w hL => by subst hb; exact R_fa H41 rfl rfl (fa29_9 _ _)) hL rfl (P10 144 143 0 1 13 14 15 16 17 19 rfl rfl rfl rfl rfl rfl rfl rfl rfl rfl) fun a42 H42 => ?_
      clear H41
      refine a_opB  16 H42 rfl rfl (by kernel_rfl) (by kernel_rfl) (by kernel_rfl) (fun _ _ _ h => h) rfl rfl rfl (fun hb w hL => by subst hb; exact R_fa H42 rfl rfl (fi_k (by decide))) hL rfl (P10 145 143 0 1 13 14 15 16 17 19 rfl rfl rfl rfl rfl rfl rfl rfl rfl rfl) fun a43 H43 => ?_
      clear H42
      refine a_opB  17 H43 rfl rfl (by kernel_rfl) (by kernel_rfl) (by kernel_rfl) (fun _ _ _ h => h) rfl rfl rfl (fun hb w hL => by subst hb; exact R_ld H43 rfl rfl (ld_int (x := Y.low) ((hL.cl List.mem_cons_self 11).trans rfl))) hL rfl (P10 146 143 0 1 13 14 15 16 17 19 rfl rfl rfl rfl rfl rfl rfl rfl rfl rfl) fun a44 H44 => ?_
      clear H43
      refine a_opB  18 H44 rfl rfl (by kernel_rfl) (by kernel_rfl) (by kernel_rfl) (fun _ _ _ h => h) rfl rfl rfl (fun hb w hL => by subst hb; exact R_mv H44 rfl rfl) hL rfl (P11 147 146 143 0 1 13 14 15 16 17 19 rfl rfl rfl rfl rfl rfl rfl rfl rfl rfl rfl) fun a45 H45 => ?_
      clear H44
      refine a_quietB  19 H45 rfl rfl (by kernel_rfl) (by kernel_rfl) (by kernel_rfl) (fun _ _ _ h => h) rfl rfl rfl (fun hb w => by subst hb; exact R_call1 H45 rfl rfl (fun w => by simp [go_sem])) (fun w hL => k1_low hL) hL rfl (P11 148 146 143 0 1 13 14 15 16 17 19 rfl rfl rfl rfl rfl rfl rfl rfl rfl rfl rfl) fun a46 H46 => ?_
      clear H45
      refine a_opB  20 H46 rfl rfl (by kernel_rfl) (by kernel_rfl) (by kernel_rfl) (fun _ _ _ h => h) rfl rfl rfl (fun hb w hL => by subst hb; exact R_bin H46 rfl rfl rfl (B_ne Tryz.underlying3 _ _)) hL rfl (P10 149 143 0 1 13 14 15 16 17 19 rfl rfl rfl rfl rfl rfl rfl rfl rfl rfl) fun a47 H47 => ?_
      clear H46
      refine a_op  21 H47 rfl rfl (by kernel_rfl) (by kernel_rfl) (by kernel_rfl) (fun _ _ _ h => h) (wn rfl) (fun w hL => R_pickOr H47 rfl rfl rfl) hL rfl (P9 150 0 1 13 14 15 16 17 19 rfl rfl rfl rfl rfl rfl rfl rfl rfl) fun a48 H48 => ?_
      clear H47
      refine a_op  22 H48 rfl rfl (by kernel_rfl) (by kernel_rfl) (by kernel_rfl) (fun _ _ _ h => h) (wn rfl) (fun w hL => R_mv H48 rfl rfl) hL rfl (P9 151 0 1 13 14 15 16 17 19 rfl rfl rfl rfl rfl rfl rfl rfl rfl) fun a49 H49 => ?_
      clear H48
      replace H49 := H49.pick [(151, .bool (u2 || (Y.low != ((lowN S.L : Nat) : Int)))), (0, .pointer (some ⟨p, 0, none⟩)), (1, .int .i64 n), (13, .slice (some ⟨gx, 0, none⟩) (pktsM S).length cp), (14, .int .i64 la), (15, .int .i64 (r : Nat)), (16, .pointer (some ⟨gm, 0, none⟩)), (17, .int .i64 0), (19, .bool (decide ((0 : Nat) ≠ 0)))] (P9 151 0 1 13 14 15 16 17 19 rfl rfl rfl rfl rfl rfl rfl rfl rfl)
      generalize hu3 : (u2 || (Y.low != ((lowN S.L : Nat) : Int))) = u3 at H49
      refine a_opB  23 H49 rfl rfl (by kernel_rfl) (by kernel_rfl) (by kernel_rfl) (fun _ _ _ h => h) rfl rfl rfl (fun hb w hL => by subst hb; exact R_fa H49 rfl rfl (fa29_9 _ _)) hL rfl (P10 152 151 0 1 13 14 15 16 17 19 rfl rfl rfl rfl rfl rfl rfl rfl rfl rfl) fun a50 H50 => ?_
      clear H49
      refine a_opB  24 H50 rfl rfl (by kernel_rfl) (by kernel_rfl) (by kernel_rfl) (fun _ _ _ h => h) rfl rfl rfl (fun hb w hL => by subst hb; exact R_fa H50 rfl rfl (fi_k (by decide))) hL rfl (P10 153 151 0 1 13 14 15 16 17 19 rfl rfl rfl rfl rfl rfl rfl rfl rfl rfl) fun a51 H51 => ?_
      clear H50
      refine a_opB  25 H51 rfl rfl (by kernel_rfl) (by kernel_rfl) (by kernel_rfl) (fun _ _ _ h => h) rfl rfl rfl (fun hb w hL => by subst hb; exact R_ld H51 rfl rfl (ld_int (x := Y.seq) ((hL.cl List.mem_cons_self 10).trans rfl))) hL rfl (P10 154 151 0 1 13 14 15 16 17 19 rfl rfl rfl rfl rfl rfl rfl rfl rfl rfl) fun a52 H52 => ?_
      clear H51
      refine a_opB  26 H52 rfl rfl (by kernel_rfl) (by kernel_rfl) (by kernel_rfl) (fun _ _ _ h => h) rfl rfl rfl (fun hb w hL => by subst hb; exact R_mv H52 rfl rfl) hL rfl (P11 155 154 151 0 1 13 14 15 16 17 19 rfl rfl rfl rfl rfl rfl rfl rfl rfl rfl rfl) fun a53 H53 => ?_
      clear H52
      refine a_opB  27 H53 rfl rfl (by kernel_rfl) (by kernel_rfl) (by kernel_rfl) (fun _ _ _ h => h) rfl rfl rfl (fun hb w hL => by subst hb; exact R_bin H53 rfl rfl rfl (B_le Tryz.underlying3 _ _)) hL rfl (P10 156 151 0 1 13 14 15 16 17 19 rfl rfl rfl rfl rfl rfl rfl rfl rfl rfl) fun a54 H54 => ?_
      clear H53
      refine a_op  28 H54 rfl rfl (by kernel_rfl) (by kernel_rfl) (by kernel_rfl) (fun _ _ _ h => h) (wn rfl) (fun w hL => R_pickOr H54 rfl rfl rfl) hL rfl (P9 157 0 1 13 14 15 16 17 19 rfl rfl rfl rfl rfl rfl rfl rfl rfl) fun a55 H55 => ?_
      clear H54
      refine a_op  29 H55 rfl rfl (by kernel_rfl) (by kernel_rfl) (by kernel_rfl) (fun _ _ _ h => h) (wn rfl) (fun w hL => R_mv H55 rfl rfl) hL rfl (P9 158 0 1 13 14 15 16 17 19 rfl rfl rfl rfl rfl rfl rfl rfl rfl) fun a56 H56 => ?_
      clear H55
      replace H56 := H56.pick [(158, .bool (u3 || (decide (Y.seq ≤ la)))), (0, .pointer (some ⟨p, 0, none⟩)), (1, .int .i64 n), (13, .slice (some ⟨gx, 0, none⟩) (pktsM S).length cp), (14, .int .i64 la), (15, .int .i64 (r : Nat)), (16, .pointer (some ⟨gm, 0, none⟩)), (17, .int .i64 0), (19, .bool (decide ((0 : Nat) ≠ 0)))] (P9 158 0 1 13 14 15 16 17 19 rfl rfl rfl rfl rfl rfl rfl rfl rfl)
      generalize hu4 : (u3 || (decide (Y.seq ≤ la))) = u4 at H56
      refine a_opB  30 H56 rfl rfl (by kernel_rfl) (by kernel_rfl) (by kernel_rfl) (fun _ _ _ h => h) rfl rfl rfl (fun hb w hL => by subst hb; exact R_mv H56 rfl rfl) hL rfl (P10 159 158 0 1 13 14 15 16 17 19 rfl rfl rfl rfl rfl rfl rfl rfl rfl rfl) fun a57 H57 => ?_
      clear H56
      refine a_op  31 H57 rfl rfl (by kernel_rfl) (by kernel_rfl) (by kernel_rfl) (fun _ _ _ h => h) (wn rfl) (fun w hL => R_pickOr H57 rfl rfl rfl) hL rfl (P9 160 0 1 13 14 15 16 17 19 rfl rfl rfl rfl rfl rfl rfl rfl rfl) fun a58 H58 => ?_
      clear H57
      refine a_op  32 H58 rfl rfl (by kernel_rfl) (by kernel_rfl) (by kernel_rfl) (fun _ _ _ h => h) (wn rfl) (fun w hL => R_mv H58 rfl rfl) hL rfl (P9 161 0 1 13 14 15 16 17 19 rfl rfl rfl rfl rfl rfl rfl rfl rfl) fun a59 H59 => ?_
      clear H58
      replace H59 := H59.pick [(161, .bool (u4 || (decide ((0 : Nat) ≠ 0)))), (0, .pointer (some ⟨p, 0, none⟩)), (1, .int .i64 n), (13, .slice (some ⟨gx, 0, none⟩) (pktsM S).length cp), (14, .int .i64 la), (15, .int .i64 (r : Nat)), (16, .pointer (some ⟨gm, 0, none⟩)), (17, .int .i64 0), (19, .bool (decide ((0 : Nat) ≠ 0)))] (P9 161 0 1 13 14 15 16 17 19 rfl rfl rfl rfl rfl rfl rfl rfl rfl)
      generalize hu5 : (u4 || (decide ((0 : Nat) ≠ 0))) = u5 at H59
      refine a_opB  33 H59 rfl rfl (by kernel_rfl) (by kernel_rfl) (by kernel_rfl) (fun _ _ _ h => h) rfl rfl rfl (fun hb w hL => by subst hb; exact R_mv H59 rfl rfl) hL rfl (P10 162 161 0 1 13 14 15 16 17 19 rfl rfl rfl rfl rfl rfl rfl rfl rfl rfl) fun a60 H60 => ?_
      clear H59
      refine a_opB  34 H60 rfl rfl (by kernel_rfl) (by kernel_rfl) (by kernel_rfl) (fun _ _ _ h => h) rfl rfl rfl (fun hb w hL => by subst hb; exact R_mv H60 rfl rfl) hL rfl (P11 163 162 161 0 1 13 14 15 16 17 19 rfl rfl rfl rfl rfl rfl rfl rfl rfl rfl rfl) fun a61 H61 => ?_
      clear H60
      refine a_opB  35 H61 rfl rfl (by kernel_rfl) (by kernel_rfl) (by kernel_rfl) (fun _ _ _ h => h) rfl rfl rfl (fun hb w hL => by subst hb; exact R_ixa H61 rfl rfl rfl (ix_pkj hrl)) hL rfl (P10 164 161 0 1 13 14 15 16 17 19 rfl rfl rfl rfl rfl rfl rfl rfl rfl rfl) fun a62 H62 => ?_
      clear H61
      refine a_opB  36 H62 rfl rfl (by kernel_rfl) (by kernel_rfl) (by kernel_rfl) (fun _ _ _ h => h) rfl rfl rfl (fun hb w hL => by subst hb; exact R_fa H62 rfl rfl fk_0) hL rfl (P10 165 161 0 1 13 14 15 16 17 19 rfl rfl rfl rfl rfl rfl rfl rfl rfl rfl) fun a63 H63 => ?_
      clear H62
      refine a_opB  37 H63 rfl rfl (by kernel_rfl) (by kernel_rfl) (by kernel_rfl) (fun _ _ _ h => h) rfl rfl rfl (fun hb w hL => by subst hb; exact R_ld H63 rfl rfl (ld_int (x := 4 + S.src) ((hL.cl (g := gx) (A := cur) (t := ee) (by simp) _).trans hc0))) hL rfl (P10 166 161 0 1 13 14 15 16 17 19 rfl rfl rfl rfl rfl rfl rfl rfl rfl rfl) fun a64 H64 => ?_
      clear H63
      refine a_opB  38 H64 rfl rfl (by kernel_rfl) (by kernel_rfl) (by kernel_rfl) (fun _ _ _ h => h) rfl rfl rfl (fun hb w hL => by subst hb; exact R_mv H64 rfl rfl) hL rfl (P11 167 166 161 0 1 13 14 15 16 17 19 rfl rfl rfl rfl rfl rfl rfl rfl rfl rfl rfl) fun a65 H65 => ?_
      clear H64
      refine a_opB  39 H65 rfl rfl (by kernel_rfl) (by kernel_rfl) (by kernel_rfl) (fun _ _ _ h => h) rfl rfl rfl (fun hb w hL => by subst hb; exact R_bin H65 rfl rfl rfl (B_add Tryz.underlying3 4 n (by omega) (by omega))) hL rfl (P11 168 166 161 0 1 13 14 15 16 17 19 rfl rfl rfl rfl rfl rfl rfl rfl rfl rfl rfl) fun a66 H66 => ?_
      clear H65
      refine a_opB  40 H66 rfl rfl (by kernel_rfl) (by kernel_rfl) (by kernel_rfl) (fun _ _ _ h => h) rfl rfl rfl (fun hb w hL => by subst hb; exact R_bin H66 rfl rfl rfl (B_ne Tryz.underlying3 _ _)) hL rfl (P10 169 161 0 1 13 14 15 16 17 19 rfl rfl rfl rfl rfl rfl rfl rfl rfl rfl) fun a67 H67 => ?_
      clear H66
      refine a_op  41 H67 rfl rfl (by kernel_rfl) (by kernel_rfl) (by kernel_rfl) (fun _ _ _ h => h) (wn rfl) (fun w hL => R_pickOr H67 rfl rfl rfl) hL rfl (P9 170 0 1 13 14 15 16 17 19 rfl rfl rfl rfl rfl rfl rfl rfl rfl) fun a68 H68 => ?_
      clear H67
      refine a_op  42 H68 rfl rfl (by kernel_rfl) (by kernel_rfl) (by kernel_rfl) (fun _ _ _ h => h) (wn rfl) (fun w hL => R_mv H68 rfl rfl) hL rfl (P9 171 0 1 13 14 15 16 17 19 rfl rfl rfl rfl rfl rfl rfl rfl rfl) fun a69 H69 => ?_
      clear H68
      replace H69 := H69.pick [(171, .bool (u5 || ((4 + S.src) != (4 + n)))), (0, .pointer (some ⟨p, 0, none⟩)), (1, .int .i64 n), (13, .slice (some ⟨gx, 0, none⟩) (pktsM S).length cp), (14, .int .i64 la), (15, .int .i64 (r : Nat)), (16, .pointer (some ⟨gm, 0, none⟩)), (17, .int .i64 0), (19, .bool (decide ((0 : Nat) ≠ 0)))] (P9 171 0 1 13 14 15 16 17 19 rfl rfl rfl rfl rfl rfl rfl rfl rfl)
      generalize hu6 : (u5 || ((4 + S.src) != (4 + n))) = u6 at H69
      refine a_opB  43 H69 rfl rfl (by kernel_rfl) (by kernel_rfl) (by kernel_rfl) (fun _ _ _ h => h) rfl rfl rfl (fun hb w hL => by subst hb; exact R_mv H69 rfl rfl) hL rfl (P10 172 171 0 1 13 14 15 16 17 19 rfl rfl rfl rfl rfl rfl rfl rfl rfl rfl) fun a70 H70 => ?_
      clear H69
      refine a_opB  44 H70 rfl rfl (by kernel_rfl) (by kernel_rfl) (by kernel_rfl) (fun _ _ _ h => h) rfl rfl rfl (fun hb w hL => by subst hb; exact R_mv H70 rfl rfl) hL rfl (P11 173 172 171 0 1 13 14 15 16 17 19 rfl rfl rfl rfl rfl rfl rfl rfl rfl rfl rfl) fun a71 H71 => ?_
      clear H70
      refine a_opB  45 H71 rfl rfl (by kernel_rfl) (by kernel_rfl) (by kernel_rfl) (fun _ _ _ h => h) rfl rfl rfl (fun hb w hL => by subst hb; exact R_ixa H71 rfl rfl rfl (ix_pkj hrl)) hL rfl (P10 174 171 0 1 13 14 15 16 17 19 rfl rfl rfl rfl rfl rfl rfl rfl rfl rfl) fun a72 H72 => ?_
      clear H71
      refine a_opB  46 H72 rfl rfl (by kernel_rfl) (by kernel_rfl) (by kernel_rfl) (fun _ _ _ h => h) rfl rfl rfl (fun hb w hL => by subst hb; exact R_fa H72 rfl rfl fk_1) hL rfl (P10 175 171 0 1 13 14 15 16 17 19 rfl rfl rfl rfl rfl rfl rfl rfl rfl rfl) fun a73 H73 => ?_
      clear H72
      refine a_opB  47 H73 rfl rfl (by kernel_rfl) (by kernel_rfl) (by kernel_rfl) (fun _ _ _ h => h) rfl rfl rfl (fun hb w hL => by subst hb; exact R_ld H73 rfl rfl (ld_int (x := toN S y) ((hL.cl (g := gx) (A := cur) (t := ee) (by simp) _).trans hc1))) hL rfl (P10 176 171 0 1 13 14 15 16 17 19 rfl rfl rfl rfl rfl rfl rfl rfl rfl rfl) fun a74 H74 => ?_
      clear H73
      refine a_opB  48 H74 rfl rfl (by kernel_rfl) (by kernel_rfl) (by kernel_rfl) (fun _ _ _ h => h) rfl rfl rfl (fun hb w hL => by subst hb; exact R_bin H74 rfl rfl rfl (B_lt Tryz.underlying3 _ _)) hL rfl (P10 177 171 0 1 13 14 15 16 17 19 rfl rfl rfl rfl rfl rfl rfl rfl rfl rfl) fun a75 H75 => ?_
      clear H74
      refine a_op  49 H75 rfl rfl (by kernel_rfl) (by kernel_rfl) (by kernel_rfl) (fun _ _ _ h => h) (wn rfl) (fun w hL => R_pickOr H75 rfl rfl rfl) hL rfl (P9 178 0 1 13 14 15 16 17 19 rfl rfl rfl rfl rfl rfl rfl rfl rfl) fun a76 H76 => ?_
      clear H75
      refine a_op  50 H76 rfl rfl (by kernel_rfl) (by kernel_rfl) (by kernel_rfl) (fun _ _ _ h => h) (wn rfl) (fun w hL => R_mv H76 rfl rfl) hL rfl (P9 179 0 1 13 14 15 16 17 19 rfl rfl rfl rfl rfl rfl rfl rfl rfl) fun a77 H77 => ?_
      clear H76
      replace H77 := H77.pick [(179, .bool (u6 || (decide (toN S y < 0)))), (0, .pointer (some ⟨p, 0, none⟩)), (1, .int .i64 n), (13, .slice (some ⟨gx, 0, none⟩) (pktsM S).length cp), (14, .int .i64 la), (15, .int .i64 (r : Nat)), (16, .pointer (some ⟨gm, 0, none⟩)), (17, .int .i64 0), (19, .bool (decide ((0 : Nat) ≠ 0)))] (P9 179 0 1 13 14 15 16 17 19 rfl rfl rfl rfl rfl rfl rfl rfl rfl)
      generalize hu7 : (u6 || (decide (toN S y < 0))) = u7 at H77
      refine a_opB  51 H77 rfl rfl (by kernel_rfl) (by kernel_rfl) (by kernel_rfl) (fun _ _ _ h => h) rfl rfl rfl (fun hb w hL => by subst hb; exact R_mv H77 rfl rfl) hL rfl (P10 180 179 0 1 13 14 15 16 17 19 rfl rfl rfl rfl rfl rfl rfl rfl rfl rfl) fun a78 H78 => ?_
      clear H77
      refine a_opB  52 H78 rfl rfl (by kernel_rfl) (by kernel_rfl) (by kernel_rfl) (fun _ _ _ h => h) rfl rfl rfl (fun hb w hL => by subst hb; exact R_mv H78 rfl rfl) hL rfl (P11 181 180 179 0 1 13 14 15 16 17 19 rfl rfl rfl rfl rfl rfl rfl rfl rfl rfl rfl) fun a79 H79 => ?_
      clear H78
      refine a_opB  53 H79 rfl rfl (by kernel_rfl) (by kernel_rfl) (by kernel_rfl) (fun _ _ _ h => h) rfl rfl rfl (fun hb w hL => by subst hb; exact R_ixa H79 rfl rfl rfl (ix_pkj hrl)) hL rfl (P10 182 179 0 1 13 14 15 16 17 19 rfl rfl rfl rfl rfl rfl rfl rfl rfl rfl) fun a80 H80 => ?_
      clear H79
      refine a_opB  54 H80 rfl rfl (by kernel_rfl) (by kernel_rfl) (by kernel_rfl) (fun _ _ _ h => h) rfl rfl rfl (fun hb w hL => by subst hb; exact R_fa H80 rfl rfl fk_1) hL rfl (P10 183 179 0 1 13 14 15 16 17 19 rfl rfl rfl rfl rfl rfl rfl rfl rfl rfl) fun a81 H81 => ?_
      clear H80
      refine a_opB  55 H81 rfl rfl (by kernel_rfl) (by kernel_rfl) (by kernel_rfl) (fun _ _ _ h => h) rfl rfl rfl (fun hb w hL => by subst hb; exact R_ld H81 rfl rfl (ld_int (x := toN S y) ((hL.cl (g := gx) (A := cur) (t := ee) (by simp) _).trans hc1))) hL rfl (P10 184 179 0 1 13 14 15 16 17 19 rfl rfl rfl rfl rfl rfl rfl rfl rfl rfl) fun a82 H82 => ?_
      clear H81
      refine a_opB  56 H82 rfl rfl (by kernel_rfl) (by kernel_rfl) (by kernel_rfl) (fun _ _ _ h => h) rfl rfl rfl (fun hb w hL => by subst hb; exact R_bin H82 rfl rfl rfl (B_gt Tryz.underlying3 _ _)) hL rfl (P10 185 179 0 1 13 14 15 16 17 19 rfl rfl rfl rfl rfl rfl rfl rfl rfl rfl) fun a83 H83 => ?_
      clear H82
      refine a_op  57 H83 rfl rfl (by kernel_rfl) (by kernel_rfl) (by kernel_rfl) (fun _ _ _ h => h) (wn rfl) (fun w hL => R_pickOr H83 rfl rfl rfl) hL rfl (P9 186 0 1 13 14 15 16 17 19 rfl rfl rfl rfl rfl rfl rfl rfl rfl) fun a84 H84 => ?_
      clear H83
      replace H84 := H84.pick [(186, .bool (u7 || (decide (toN S y > 2)))), (0, .pointer (some ⟨p, 0, none⟩)), (1, .int .i64 n), (13, .slice (some ⟨gx, 0, none⟩) (pktsM S).length cp), (14, .int .i64 la), (15, .int .i64 (r : Nat)), (16, .pointer (some ⟨gm, 0, none⟩)), (17, .int .i64 0), (19, .bool (decide ((0 : Nat) ≠ 0)))] (P9 186 0 1 13 14 15 16 17 19 rfl rfl rfl rfl rfl rfl rfl rfl rfl)
      generalize hu8 : (u7 || (decide (toN S y > 2))) = u8 at H84
      refine wpAnyH_done (by kernel_rfl) ?_ _
      have hu : u8 = false := by
        rw [← hu8, ← hu7, ← hu6, ← hu5, ← hu4, ← hu3, ← hu2, ← hu1, ← hu0, hYr, hYl, hsrc, decide_eq_false (show ¬ Y.seq ≤ la by omega), decide_eq_false (show ¬ toN S y < 0 by omega), decide_eq_false (show ¬ toN S y > 2 by omega)]
        simp
      rw [hu] at H84
      clear hu hu0 hu1 hu2 hu3 hu4 hu5 hu6 hu7 hu8
      repeat (go_not_at_region 23; go_step)
      refine wp_cond_false (H84.ev (x := .tmp 186) rfl) ?_
      repeat (go_not_at_region 23; go_step)
      refine wp_region_lit ?_
      refine h_op H84 rfl (wn rfl) (R_fa H84 rfl rfl (fa29_9 _ _)) rfl (P6 187 0 1 13 14 15 rfl rfl rfl rfl rfl rfl) fun a85 H85 => ?_
      clear H84
      refine h_op H85 rfl (wn rfl) (R_fa H85 rfl rfl (fi_k (by decide))) rfl (P6 188 0 1 13 14 15 rfl rfl rfl rfl rfl rfl) fun a86 H86 => ?_
      clear H85
      refine h_op H86 rfl (wn rfl) (R_ld H86 rfl rfl (ld_int (x := Y.seq) ((hL.cl List.mem_cons_self _).trans rfl))) rfl (P6 189 0 1 13 14 15 rfl rfl rfl rfl rfl rfl) fun a87 H87 => ?_
      clear H86
      refine h_op H87 rfl (wn rfl) (R_as H87 rfl rfl) rfl (P5 14 0 1 13 15 rfl rfl rfl rfl rfl) fun a88 H88 => ?_
      clear H87
      refine h_end ?_
      repeat (go_not_at_region 18; go_step)
      refine wp_region_lit ?_
      refine h_op H88 rfl (wn rfl) (R_mv H88 rfl rfl) rfl (P6 110 14 0 1 13 15 rfl rfl rfl rfl rfl rfl) fun a89 H89 => ?_
      clear H88
      refine h_op H89 rfl (wn rfl) (R_bin H89 rfl rfl rfl (B_add Tryz.underlying3 _ _ (by omega) (by omega))) rfl (P6 111 14 0 1 13 15 rfl rfl rfl rfl rfl rfl) fun a90 H90 => ?_
      clear H89
      refine h_op H90 rfl (wn rfl) (R_as H90 rfl rfl) rfl (P5 15 14 0 1 13 rfl rfl rfl rfl rfl) fun a91 H91 => ?_
      clear H90
      refine h_end ?_
      repeat (go_not_at_region 999; go_step)
      refine ⟨(pktsM S).length - (r + 1), by omega, (HI.out _ _ _).2 ⟨r + 1, _, rfl, hrl, H91.pick _ (P5 0 1 13 14 15 rfl rfl rfl rfl rfl), hL.tail.dropl, fun q hq hrq => ?_⟩⟩
      rw [hYs, hy]
      exact List.pairwise_iff_getElem.1 (open_rise hI) r q hro hq (by omega)
    · repeat (go_not_at_region 17; go_step)
      refine wp_region_lit ?_
      refine h_op H0 rfl (wn rfl) (R_mv H0 rfl rfl) rfl (P6 106 0 1 13 14 15 rfl rfl rfl rfl rfl rfl) fun a1 H1 => ?_
      clear H0
      refine h_op H1 rfl (wn rfl) (R_mv H1 rfl rfl) rfl (P7 107 106 0 1 13 14 15 rfl rfl rfl rfl rfl rfl rfl) fun a2 H2 => ?_
      clear H1
      refine h_op H2 rfl (wn rfl) (R_lenS H2 rfl rfl Tryz.underlying41) rfl (P7 108 106 0 1 13 14 15 rfl rfl rfl rfl rfl rfl rfl) fun a3 H3 => ?_
      clear H2
      refine h_op H3 rfl (wn rfl) (R_bin H3 rfl rfl rfl (B_to (y := false) (B_lt Tryz.underlying3 _ _) (decide_eq_false (by omega)))) rfl (P6 109 0 1 13 14 15 rfl rfl rfl rfl rfl rfl) fun a4 H4 => ?_
      clear H3
      refine h_end ?_
      repeat (go_not_at_region 24; go_step)
      refine wp_cond_false (H4.ev (x := .tmp 109) rfl) ?_
      repeat (go_not_at_region 24; go_step)
      refine wp_region_lit ?_
      refine h_op H4 rfl (wn rfl) (R_as H4 rfl rfl) rfl (P1 6 rfl) fun a5 H5 => ?_
      clear H4
      refine h_end ?_
      repeat (go_not_at_region 999; go_step)
      exact H5.ret1 rfl rfl ⟨rfl, hL.dropl⟩
end
end Go.Proofs.YthkeiclhllikjaaGreat
