/-
  What a state that items made is: bounds that stay.
-/
import Derived.Test.YtnjfjdfjheiocaaGreatShY
import Derived.Test.YtnjfjdfjheiocaaGreatAgP
set_option linter.unusedSimpArgs false
set_option linter.unusedVariables false
namespace Go.Proofs.YtnjfjdfjheiocaaGreat
open Go.RowKit
/-- A window within its bounds. -/
structure WV (n : Nat) (mark : Int) (p : Win × A8) : Prop where
  key : keyB p.1.2 = true
  st0 : 0 ≤ p.1.1
  st1 : p.1.1 ≤ 1099511627776
  ten : p.1.1.tmod 10 = 0
  ov : overI p.1.1 mark = false
  agg : ∃ l : List Int, l ≠ [] ∧ l.length ≤ n ∧ IsOf l p.2
  in_ : p.2.In
/-- A state within its bounds. -/
structure SV (n : Nat) (S : PSt) : Prop where
  mark : rightI S.mark = true
  rise : Rise S.M
  room : S.M.length ≤ 32
  win : ∀ p ∈ S.M, WV n S.mark p
  lo : ∀ i, 1 ≤ S.lo i ∧ S.lo i ≤ 1099511627776
  cd : ∀ i, ∀ p ∈ S.cd i, S.lo i ≤ p.1 ∧ p.1 < S.lo i + 16 ∧ p.1 ≤ 1099511627776 ∧ 1 ≤ p.2 ∧ p.2 ≤ 4
  cr : ∀ i, (S.cd i).Pairwise fun p q => p.1 < q.1
  lz : ∀ i, 4 ≤ i → S.lo i = 1
  cz : ∀ i, 4 ≤ i → S.cd i = []
theorem WV.mono {n m : Nat} {mark : Int} {p : Win × A8} (h : WV n mark p) (hm : n ≤ m) : WV m mark p := by
  obtain ⟨l, h1, h2, h3⟩ := h.agg
  exact ⟨h.key, h.st0, h.st1, h.ten, h.ov, ⟨l, h1, Nat.le_trans h2 hm, h3⟩, h.in_⟩
theorem SV.mono {n m : Nat} {S : PSt} (h : SV n S) (hm : n ≤ m) : SV m S := ⟨h.mark, h.rise, h.room, fun p hp => (h.win p hp).mono hm, h.lo, h.cd, h.cr, h.lz, h.cz⟩
theorem sv_new : SV 0 newM := ⟨rfl, List.Pairwise.nil, Nat.zero_le _, (fun p hp => by cases hp), fun _ => ⟨by show (1 : Int) ≤ 1; decide, by show (1 : Int) ≤ _; decide⟩, (fun _ p hp => by cases hp), fun _ => List.Pairwise.nil, fun _ _ => rfl, fun _ _ => rfl⟩
theorem rightI_iff {t : Int} : rightI t = true ↔ 0 ≤ t ∧ t ≤ 1099511627776 := by
  unfold rightI
  simp only [Bool.and_eq_true, decide_eq_true_eq]
theorem start_ok {t : Int} (h : rightI t = true) : 0 ≤ startI t ∧ startI t ≤ 1099511627776 ∧ (startI t).tmod 10 = 0 := by
  obtain ⟨h0, h1⟩ := rightI_iff.1 h
  unfold startI
  rw [if_pos h]
  rw [Int.tmod_eq_emod_of_nonneg h0]
  refine ⟨by omega, by omega, ?_⟩
  rw [Int.tmod_eq_emod_of_nonneg (by omega)]
  omega
theorem over_mono {s m m' : Int} (h : overI s m = false) (h2 : overI s m' = true) : m < m' ∨ rightI m = false := by
  unfold overI at h h2
  simp only [Bool.and_eq_true, decide_eq_true_eq] at h2
  by_cases hr : rightI m = true
  · left
    rw [decide_eq_true h2.1.1, hr, Bool.true_and, Bool.true_and, decide_eq_false_iff_not] at h
    omega
  · right
    simpa using hr
theorem putW_mem {M : Wins} {k : Win} {a : A8} {p : Win × A8} (h : p ∈ putW M k a) : p = (k, a) ∨ p ∈ M := by
  unfold putW at h
  rcases List.mem_cons.1 ((insW_perm _ _).mem_iff.1 h) with h | h
  · exact .inl h
  · exact .inr (List.mem_filter.1 h).1
theorem putW_room {M : Wins} {k : Win} {a : A8} (hn : M.length ≤ 32) (h : roomW M k = true) (hr : Rise M) : (putW M k a).length ≤ 32 := by
  unfold putW
  rw [(insW_perm _ _).length_eq, List.length_cons]
  unfold roomW at h
  rw [Bool.or_eq_true, decide_eq_true_eq] at h
  rcases h with h | h
  · cases hl : lookW M k with
    | none => rw [hl] at h; cases h
    | some b =>
      have hm := lookW_some hl
      have : (delW M k).length < M.length := by
        unfold delW
        refine List.length_filter_lt_length_iff_exists.2 ⟨_, hm, ?_⟩
        simp
      omega
  · have : (delW M k).length ≤ M.length := List.length_filter_le _ _
    omega
theorem lput_sv {n : Nat} {S : PSt} {key : ByteArray} {t v : Int} (h : SV n S) (hv0 : -9223372036854775808 ≤ v) (hv1 : v < 9223372036854775808) (hn : n < 4611686018427387900) : SV (n + 1) { S with M := (lputM S.M S.mark key t v).1 } := by
  have h' := h.mono (Nat.le_succ n)
  unfold lputM
  split
  · exact h'
  · rename_i h1
    split
    · exact h'
    · rename_i h2
      have h3 : SV (n + 1) { S with M := (putS S.M key t v).1 } := by
        unfold putS
        rw [if_neg h1]
        split
        · exact h'
        · rename_i h4
          have hk : keyB key = true := by
            cases hk : keyB key
            · rw [hk] at h1; simp at h1
            · rfl
          have ht : rightI t = true := by
            cases ht : rightI t
            · rw [ht] at h1; simp at h1
            · rfl
          have hov : overI (startI t) S.mark = false := by
            unfold lateI at h2
            rw [ht, Bool.true_and] at h2
            simpa using h2
          obtain ⟨s0, s1, s2⟩ := start_ok ht
          refine ⟨h'.mark, h'.rise.put, putW_room h.room (by simpa using h4) h.rise, fun p hp => ?_, h'.lo, h'.cd, h'.cr, h'.lz, h'.cz⟩
          rcases putW_mem hp with rfl | hp
          · refine ⟨hk, s0, s1, s2, hov, ?_, ?_⟩
            · unfold getW
              cases hl : lookW S.M (startI t, key) with
              | none =>
                refine ⟨[v], by simp, by simp, ?_⟩
                have := IsOf.put (l := []) (a := A8.zero) IsOf.zero v (by decide)
                simpa using this
              | some b =>
                obtain ⟨l, l1, l2, l3⟩ := (h.win _ (lookW_some hl)).agg
                exact ⟨l ++ [v], by simp, by rw [List.length_append]; simp; omega, l3.put v (by omega)⟩
            · unfold getW
              cases hl : lookW S.M (startI t, key) with
              | none => exact put8_in zero_in hv0 hv1
              | some b => exact put8_in (h.win _ (lookW_some hl)).in_ hv0 hv1
          · exact h'.win p hp
      split <;> exact h3
theorem lmark_sv {n : Nat} {S : PSt} {t : Int} (h : SV n S) : SV n { S with M := (lmarkM S.M S.mark t).2.2.1, mark := (lmarkM S.M S.mark t).2.2.2 } := by
  unfold lmarkM
  split
  · exact h
  · rename_i h1
    split
    · exact h
    · rename_i h2
      have ht : rightI t = true := by simpa using h1
      unfold takeM
      refine ⟨ht, h.rise.filter _, Nat.le_trans (List.length_filter_le _ _) h.room, fun p hp => ?_, h.lo, h.cd, h.cr, h.lz, h.cz⟩
      obtain ⟨h3, h4⟩ := List.mem_filter.1 hp
      have h5 := h.win p h3
      refine ⟨h5.key, h5.st0, h5.st1, h5.ten, ?_, h5.agg, h5.in_⟩
      unfold overP at h4
      simpa using h4
theorem doM_sv {n : Nat} {S : PSt} {x : PItem} (h : SV n S) (hv0 : -9223372036854775808 ≤ x.n) (hv1 : x.n < 9223372036854775808) (hn : n < 4611686018427387900) : SV (n + 1) (doM S x).2.2 := by
  unfold doM
  split
  · exact lput_sv h hv0 hv1 hn
  · split
    · exact (lmark_sv h).mono (Nat.le_succ n)
    · exact h.mono (Nat.le_succ n)
theorem apply_sv {n : Nat} {S : PSt} {x : PItem} (h : SV n S) (hv0 : -9223372036854775808 ≤ x.n) (hv1 : x.n < 9223372036854775808) (hn : n < 4611686018427387900) : SV (n + 1) (applyM S x).2 := by
  by_cases hs : Sn S x
  · rw [(apply_sn hs).2.2]
    exact h.mono (Nat.le_succ n)
  · have hb : badB x.src x.seq x.low = false := by
      cases hb : badB x.src x.seq x.low
      · rfl
      · exact absurd (sn_iff.2 (.inl hb)) hs
    have hlo : S.lo x.src.toNat ≤ x.seq := by
      rcases Int.lt_or_le x.seq (S.lo x.src.toNat) with h2 | h2
      · exact absurd (sn_iff.2 (.inr (.inl h2))) hs
      · exact h2
    obtain ⟨b0, b1, b2, b3, b4, b5⟩ := badB_no hb
    have hi4 : x.src.toNat < 4 := by omega
    rw [apply_do hs]
    have hd := doM_sv (x := x) h hv0 hv1 hn
    have hc := codeB_do S x
    unfold codeB at hc
    simp only [Bool.and_eq_true, decide_eq_true_eq] at hc
    have hl := h.lo x.src.toNat
    refine ⟨hd.mark, hd.rise, hd.room, hd.win, fun i => ?_, fun i => ?_, fun i => ?_, fun i hi => ?_, fun i hi => ?_⟩
    · unfold noteS upd
      by_cases e : i = x.src.toNat
      · simp only [if_pos e]
        omega
      · simp only [if_neg e]
        exact h.lo i
    · intro p hp
      unfold noteS at hp ⊢
      by_cases e : i = x.src.toNat
      · subst e
        simp only [upd_at] at hp ⊢
        obtain ⟨hp1, hp2⟩ := List.mem_filter.1 hp
        have hp3 : max (S.lo x.src.toNat) x.low ≤ p.1 := by simpa using hp2
        rcases putC_mem.1 hp1 with rfl | ⟨hp4, _⟩
        · simp only at hp3 ⊢
          omega
        · have := h.cd _ p hp4
          omega
      · have e1 : (upd (upd S.cd x.src.toNat (putC (S.cd x.src.toNat) x.seq (doM S x).1)) x.src.toNat ((putC (S.cd x.src.toNat) x.seq (doM S x).1).filter fun p => !decide (p.1 < max (S.lo x.src.toNat) x.low))) i = S.cd i := by
          unfold upd
          rw [if_neg e, if_neg e]
        have e2 : upd S.lo x.src.toNat (max (S.lo x.src.toNat) x.low) i = S.lo i := by
          unfold upd
          rw [if_neg e]
        simp only [e1] at hp
        simp only [e2]
        exact h.cd i p hp
    · unfold noteS
      by_cases e : i = x.src.toNat
      · subst e
        simp only [upd_at]
        refine List.Pairwise.filter _ (insC_rise ((h.cr _).filter _) fun p hp => ?_)
        have := (List.mem_filter.1 hp).2
        simpa using this
      · have e1 : (upd (upd S.cd x.src.toNat (putC (S.cd x.src.toNat) x.seq (doM S x).1)) x.src.toNat ((putC (S.cd x.src.toNat) x.seq (doM S x).1).filter fun p => !decide (p.1 < max (S.lo x.src.toNat) x.low))) i = S.cd i := by
          unfold upd
          rw [if_neg e, if_neg e]
        simp only [e1]
        exact h.cr i
    · unfold noteS upd
      simp only [if_neg (show ¬ i = x.src.toNat by omega)]
      exact h.lz i hi
    · unfold noteS upd
      simp only [if_neg (show ¬ i = x.src.toNat by omega)]
      exact h.cz i hi
/-- All of a list. -/
def playM (S : PSt) : List PItem → Wins × PSt
  | [] => ([], S)
  | x :: l => ((applyM S x).1.2.1 ++ (playM (applyM S x).2 l).1, (playM (applyM S x).2 l).2)
theorem playM_snoc (x : PItem) : ∀ (l : List PItem) (S : PSt), playM S (l ++ [x]) = ((playM S l).1 ++ (applyM (playM S l).2 x).1.2.1, (applyM (playM S l).2 x).2)
  | [], S => by simp [playM]
  | y :: l, S => by
    rw [List.cons_append]
    unfold playM
    rw [playM_snoc x l]
    simp
theorem play_take {S : PSt} {l : List PItem} {j : Nat} (hj : j < l.length) : playM S (l.take (j + 1)) = ((playM S (l.take j)).1 ++ (applyM (playM S (l.take j)).2 l[j]).1.2.1, (applyM (playM S (l.take j)).2 l[j]).2) := by
  rw [List.take_succ_eq_append_getElem hj, playM_snoc]
end Go.Proofs.YtnjfjdfjheiocaaGreat
