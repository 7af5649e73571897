/-
  Of a state's own data gives the state back.
-/
import Derived.Test.YtnjfjdfjheiocaaGreatShOh
import Derived.Test.YtnjfjdfjheiocaaGreatAgP
import Derived.Test.YtnjfjdfjheiocaaGreatDgM
set_option linter.unusedSimpArgs false
set_option linter.unusedVariables false
namespace Go.Proofs.YtnjfjdfjheiocaaGreat
open Go.RowKit
theorem win_right {n : Nat} {mark : Int} {p : Win × A8} (h : WV n mark p) (hn : n < 4611686018427387900) : winR p = true := by
  obtain ⟨l, h1, h2, h3⟩ := h.agg
  have hr : rightB p.2 = true := right_isOf h3 (by omega) (fun e => absurd e h1)
  have hc : p.2.c ≠ 0 := by
    rw [h3.1]
    have := List.length_pos_iff.2 h1
    omega
  have he : ¬ endI p.1.1 < 0 := by
    unfold endI
    have hrt : rightI p.1.1 = true := rightI_iff.2 ⟨h.st0, h.st1⟩
    have := h.st0
    rw [hrt, h.ten]
    simp only [Bool.not_true, bne_self_eq_false, Bool.or_self, Bool.false_eq_true, if_false]
    omega
  unfold winR
  rw [h.key, hr, decide_eq_true he, decide_eq_true hc]
  rfl
theorem del_none : ∀ {M : Wins} {k : Win}, (∀ p ∈ M, p.1 ≠ k) → delW M k = M
  | M, k, h => by
    unfold delW
    rw [List.filter_eq_self]
    intro p hp
    exact decide_eq_true (h p hp)
theorem ins_end {x : Win × A8} : ∀ {M : Wins}, (∀ p ∈ M, winLt p.1 x.1 = true) → insW x M = M ++ [x]
  | [], _ => rfl
  | y :: r, h => by
    unfold insW
    have hy := h y List.mem_cons_self
    rw [if_neg (by
      intro h2
      have := winLt_trans hy h2
      rw [winLt_irrefl] at this
      cases this), ins_end fun p hp => h p (List.mem_cons_of_mem _ hp)]
    rfl
theorem look_none {M : Wins} {k : Win} (h : ∀ p ∈ M, p.1 ≠ k) : lookW M k = none := by
  unfold lookW
  rw [List.find?_eq_none.2 fun p hp => by simp [h p hp]]
  rfl
theorem sets_self {n : Nat} {mark : Int} (hn : n < 4611686018427387900) : ∀ (O M : Wins), Rise (M ++ O) → (M ++ O).length ≤ 32 → (∀ p ∈ O, WV n mark p) → setsM mark M O = (0, M ++ O)
  | [], M, _, _, _ => by
    unfold setsM
    rw [List.append_nil]
  | p :: r, M, hr, hl, hw => by
    have hp := hw p List.mem_cons_self
    have hlt : ∀ q ∈ M, winLt q.1 p.1 = true := fun q hq => (List.pairwise_append.1 hr).2.2 q hq p List.mem_cons_self
    have hne : ∀ q ∈ M, q.1 ≠ p.1 := fun q hq e => by
      have := hlt q hq
      rw [e, winLt_irrefl] at this
      cases this
    rw [List.length_append, List.length_cons] at hl
    have hs : setS M p = (M ++ [p], 0) := by
      unfold setS
      have hroom : roomW M p.1 = true := by
        unfold roomW
        rw [look_none hne, decide_eq_true (by omega)]
        rfl
      rw [win_right hp hn, look_none hne, hroom]
      have e : putW M p.1 p.2 = M ++ [p] := by
        unfold putW
        rw [del_none hne]
        exact ins_end hlt
      rw [e]
      rfl
    unfold setsM
    rw [hp.ov, hs]
    simp only [Bool.false_eq_true, if_false, ne_eq, not_true_eq_false]
    have e2 : M ++ p :: r = (M ++ [p]) ++ r := by simp
    rw [e2] at hr ⊢
    exact sets_self hn r (M ++ [p]) hr (by simp; omega) fun q hq => hw q (List.mem_cons_of_mem _ hq)
theorem tof_self {n : Nat} {S : PSt} (h : SV n S) (hn : n < 4611686018427387900) : tofM S.mark S.M = (0, S.M) := by
  unfold tofM
  rw [h.mark, if_pos rfl]
  exact sets_self hn S.M [] h.rise h.room h.win
/-- Entries up to a place: all of the tables ahead of i, and a first part of the table i. -/
def PreE (cd : Nat → Cods) (i : Nat) (m : Cods) : Nat → Cods := fun j => if j < i then cd j else if j = i then m else []
theorem insC_end {x : Int × Int} : ∀ {l : Cods}, (∀ p ∈ l, p.1 < x.1) → insC x l = l ++ [x]
  | [], _ => rfl
  | y :: r, h => by
    unfold insC
    have hy := h y List.mem_cons_self
    rw [if_neg (by omega), insC_end fun p hp => h p (List.mem_cons_of_mem _ hp)]
    rfl
theorem putC_end {l : Cods} {k c : Int} (h : ∀ p ∈ l, p.1 < k) : putC l k c = l ++ [(k, c)] := by
  unfold putC
  have e : delC l k = l := by
    unfold delC
    rw [List.filter_eq_self]
    intro p hp
    have := h p hp
    simp only [bne_iff_ne, ne_eq]
    omega
  rw [e]
  exact insC_end h
section
variable {n : Nat} {S : PSt}
def RiseE (l : List En) : Prop := l.Pairwise fun p q => notUp p q = false
theorem notUp_no {p q : En} (h : p.1 < q.1 ∨ (p.1 = q.1 ∧ p.2.1 < q.2.1)) : notUp p q = false := by
  unfold notUp
  rcases h with h | ⟨h1, h2⟩
  · rw [decide_eq_false (by omega : ¬ p.1 > q.1), decide_eq_false (by omega : ¬ p.1 = q.1)]
    rfl
  · rw [decide_eq_false (by omega : ¬ p.1 > q.1), decide_eq_false (by omega : ¬ p.2.1 ≥ q.2.1), Bool.and_false]
    rfl
theorem upE_mem {cd : Nat → Cods} {x : En} : ∀ {j : Nat}, x ∈ upE cd j → ∃ i, i < j ∧ ∃ p ∈ cd i, x = ((i : Int), p.1, p.2)
  | 0, h => by cases h
  | j + 1, h => by
    unfold upE at h
    rcases List.mem_append.1 h with h | h
    · obtain ⟨i, hi, r⟩ := upE_mem h
      exact ⟨i, by omega, r⟩
    · obtain ⟨p, hp, e⟩ := List.mem_map.1 h
      exact ⟨j, by omega, p, hp, e.symm⟩
theorem upE_rise {cd : Nat → Cods} (h : ∀ i, (cd i).Pairwise fun p q => p.1 < q.1) : ∀ j, RiseE (upE cd j)
  | 0 => List.Pairwise.nil
  | j + 1 => by
    unfold upE
    refine List.pairwise_append.2 ⟨upE_rise h j, ?_, fun x hx y hy => ?_⟩
    · unfold rowsE
      rw [List.pairwise_map]
      refine (h j).imp ?_
      intro a b hpq
      exact notUp_no (.inr ⟨rfl, hpq⟩)
    · obtain ⟨i, hi, p, hp, rfl⟩ := upE_mem hx
      obtain ⟨q, hq, rfl⟩ := List.mem_map.1 hy
      exact notUp_no (.inl (by show ((i : Nat) : Int) < (j : Nat); omega))
theorem prev_no {l : List En} (h : RiseE l) {j : Nat} (hj : j < l.length) : prevE l j l[j] = false := by
  unfold prevE
  cases j with
  | zero => rfl
  | succ i =>
    dsimp only
    rw [List.getElem?_eq_getElem (by omega)]
    exact List.pairwise_iff_getElem.1 h i (i + 1) (by omega) hj (by omega)
/-- Entries laid one by one, with no look at what they are. -/
def layE (l : List En) (cd : Nat → Cods) : Nat → Cods := l.foldl (fun cd x => upd cd x.1.toNat (putC (cd x.1.toNat) x.2.1 x.2.2)) cd
theorem ents_all {lo : Nat → Int} {l : List En} (h : RiseE l) (hb : ∀ x ∈ l, badE lo x = false) : ∀ (n j : Nat) (cd : Nat → Cods), j + n = l.length → entsM lo l n j cd = (0, layE (l.drop j) cd)
  | 0, j, cd, hj => by
    rw [List.drop_of_length_le (by omega)]
    rfl
  | n + 1, j, cd, hj => by
    have hjl : j < l.length := by omega
    unfold entsM
    rw [List.getElem?_eq_getElem hjl]
    dsimp only
    rw [hb _ (List.getElem_mem hjl), prev_no h hjl, List.drop_eq_getElem_cons hjl]
    simp only [Bool.false_eq_true, if_false]
    rw [ents_all h hb n (j + 1) _ (by omega)]
    rfl
theorem lay_rows {i : Nat} : ∀ (r m : Cods) (cd : Nat → Cods), (m ++ r).Pairwise (fun p q => p.1 < q.1) → cd i = m → layE (rowsE i r) cd = upd cd i (m ++ r)
  | [], m, cd, _, e => by
    rw [List.append_nil, ← e, upd_self]
    rfl
  | p :: r, m, cd, h, e => by
    unfold rowsE layE
    rw [List.map_cons, List.foldl_cons]
    dsimp only
    rw [show ((i : Nat) : Int).toNat = i from Int.toNat_natCast i, e, putC_end fun q hq => (List.pairwise_append.1 h).2.2 q hq p List.mem_cons_self]
    have e2 : m ++ p :: r = (m ++ [p]) ++ r := by simp
    rw [e2] at h ⊢
    have := lay_rows (i := i) r (m ++ [p]) (upd cd i (m ++ [p])) h upd_at
    unfold rowsE layE at this
    rw [this]
    funext j
    unfold upd
    by_cases hj : j = i
    · rw [if_pos hj, if_pos hj]
    · rw [if_neg hj, if_neg hj, if_neg hj]
theorem lay_up {cd : Nat → Cods} (h : ∀ i, (cd i).Pairwise fun p q => p.1 < q.1) : ∀ j, layE (upE cd j) (fun _ => []) = fun i => if i < j then cd i else []
  | 0 => by
    funext i
    rw [if_neg (Nat.not_lt_zero _)]
    rfl
  | j + 1 => by
    unfold upE
    have e : ∀ a b c, layE (a ++ b) c = layE b (layE a c) := fun a b c => List.foldl_append
    rw [e, lay_up h j, lay_rows (cd j) [] _ (by rw [List.nil_append]; exact h j) (if_neg (Nat.lt_irrefl _))]
    funext i
    unfold upd
    by_cases hi : i = j
    · subst hi
      rw [if_pos rfl, if_pos (Nat.lt_succ_self _)]
      rfl
    · rw [if_neg hi]
      dsimp only
      by_cases h2 : i < j
      · rw [if_pos h2, if_pos (by omega)]
      · rw [if_neg h2, if_neg (by omega)]
theorem lowF_self (h : SV n S) : lowF (loL S.lo) = S.lo := by
  funext i
  unfold lowF loL
  match i with
  | 0 => rfl
  | 1 => rfl
  | 2 => rfl
  | 3 => rfl
  | k + 4 =>
    rw [h.lz (k + 4) (by omega)]
    rfl
theorem sof_self (h : SV n S) : sofM (loL S.lo) (upE S.cd 4) = (0, S.lo, S.cd) := by
  unfold sofM
  have e : lowF (loL S.lo) = S.lo := lowF_self h
  have hlo : (loL S.lo).all lowB = true := by
    rw [List.all_eq_true]
    intro z hz
    have hl : ∀ i, lowB (S.lo i) = true := fun i => by
      unfold lowB
      rw [decide_eq_true (h.lo i).1, decide_eq_true (h.lo i).2]
      rfl
    unfold loL at hz
    simp only [List.mem_cons, List.not_mem_nil, or_false] at hz
    rcases hz with rfl | rfl | rfl | rfl <;> exact hl _
  have hb : ∀ x ∈ upE S.cd 4, badE S.lo x = false := fun x hx => by
    obtain ⟨i, hi, p, hp, rfl⟩ := upE_mem hx
    have hc := h.cd i p hp
    unfold badE
    dsimp only
    rw [show ((i : Nat) : Int).toNat = i from Int.toNat_natCast i, decide_eq_false (by omega : ¬ ((i : Nat) : Int) < 0), decide_eq_false (by omega : ¬ ((i : Nat) : Int) ≥ 4), decide_eq_false (by omega : ¬ p.1 < S.lo i), decide_eq_false (by omega : ¬ p.1 ≥ S.lo i + 16)]
    unfold codeB
    rw [decide_eq_true hc.2.2.2.1, decide_eq_true hc.2.2.2.2]
    rfl
  have e3 := ents_all (lo := S.lo) (upE_rise h.cr 4) hb (upE S.cd 4).length 0 (fun _ => []) (by omega)
  rw [e, if_neg (by simp [loL]), if_pos hlo, e3, List.drop_zero, lay_up h.cr 4]
  have e4 : (fun i => if i < 4 then S.cd i else []) = S.cd := by
    funext i
    by_cases hi : i < 4
    · rw [if_pos hi]
    · rw [if_neg hi, h.cz i (by omega)]
  rw [e4]
theorem of_self (h : SV n S) (hn : n < 4611686018427387900) : ofM S.mark S.M (loL S.lo) (upE S.cd 4) = (0, S) := by
  unfold ofM
  rw [tof_self h hn, sof_self h]
  rfl
end
end Go.Proofs.YtnjfjdfjheiocaaGreat
