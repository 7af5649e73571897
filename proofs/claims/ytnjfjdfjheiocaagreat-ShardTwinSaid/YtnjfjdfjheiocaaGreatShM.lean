/-
  Maps of windows, as plain data: a row of windows that rises, each with its aggregate.
-/
import Derived.Test.YtnjfjdfjheiocaaGreatAgC
import Derived.Test.YtnjfjdfjheiocaaGreatMsgQa
import Derived.Test.YtnjfjdfjheiocaaGreatRow
import Derived.Maps.OwnSet
import Derived.Maps.Range
import Derived.DeepKeys5
set_option linter.unusedSimpArgs false
set_option linter.unusedVariables false
namespace Go.Proofs.YtnjfjdfjheiocaaGreat
open Go.RowKit
/-! A map from ints, as a list that rises. -/
def heldE (v : Value) : Option (DataW Value × List MemPlace) := some (.held v, [])
abbrev Ents := List (Int × Value)
def mapD (l : Ents) : DataW Value := .map (l.map fun p => (.int .i64 p.1, .held p.2))
def MapAt (W : World) (b : Nat) (l : Ents) : Prop := W.ownsMap Tryz.prog 3 heldE b l.length (mapD l)
theorem intKeyed : Maps.Keyed Tryz.prog 3 := Maps.int_keyed Tryz.underlying3
/-! Windows in their row. -/
abbrev Win := Int × ByteArray
/-- Texts, byte by byte. -/
def sLt (a b : ByteArray) : Bool := Op.bytesLess a.toList b.toList
def winLt (a b : Win) : Bool := decide (a.1 < b.1) || (decide (a.1 = b.1) && sLt a.2 b.2)
theorem bl_irrefl : ∀ l : List UInt8, Op.bytesLess l l = false
  | [] => rfl
  | a :: l => by
    unfold Op.bytesLess
    rw [bl_irrefl l]
    simp
theorem bl_trans : ∀ {a b c : List UInt8}, Op.bytesLess a b = true → Op.bytesLess b c = true → Op.bytesLess a c = true
  | _, [], _, h, _ => by simp [Op.bytesLess] at h
  | _, _ :: _, [], _, h => by simp [Op.bytesLess] at h
  | [], _ :: _, _ :: _, _, _ => rfl
  | a :: x, b :: y, c :: z, h1, h2 => by
    unfold Op.bytesLess at h1 h2 ⊢
    simp only [Bool.or_eq_true, decide_eq_true_eq, Bool.and_eq_true, beq_iff_eq] at h1 h2 ⊢
    rcases h1 with h1 | ⟨rfl, h1⟩
    · rcases h2 with h2 | ⟨rfl, h2⟩
      · exact .inl (UInt8.lt_trans h1 h2)
      · exact .inl h1
    · rcases h2 with h2 | ⟨rfl, h2⟩
      · exact .inl h2
      · exact .inr ⟨rfl, bl_trans h1 h2⟩
theorem bl_total : ∀ {a b : List UInt8}, a ≠ b → Op.bytesLess a b = true ∨ Op.bytesLess b a = true
  | [], [], h => absurd rfl h
  | [], _ :: _, _ => .inl rfl
  | _ :: _, [], _ => .inr rfl
  | a :: x, b :: y, h => by
    unfold Op.bytesLess
    simp only [Bool.or_eq_true, decide_eq_true_eq, Bool.and_eq_true, beq_iff_eq]
    by_cases e : a = b
    · subst e
      rcases bl_total (a := x) (b := y) (fun e => h (by rw [e])) with h2 | h2
      · exact .inl (.inr ⟨rfl, h2⟩)
      · exact .inr (.inr ⟨rfl, h2⟩)
    · rcases Nat.lt_or_gt_of_ne (fun e2 => e (UInt8.toNat_inj.1 e2)) with h2 | h2
      · exact .inl (.inl h2)
      · exact .inr (.inl h2)
theorem toList_inj {a b : ByteArray} (h : a.toList = b.toList) : a = b := by
  have h2 : a.data.toList = b.data.toList := by rw [← ByteArray.toList_eq, ← ByteArray.toList_eq]; exact h
  exact ByteArray.ext (Array.toList_inj.1 h2)
theorem winLt_irrefl (a : Win) : winLt a a = false := by
  unfold winLt sLt
  rw [bl_irrefl, Bool.and_false, Bool.or_false]
  exact decide_eq_false (by omega)
theorem winLt_trans {a b c : Win} (h1 : winLt a b = true) (h2 : winLt b c = true) : winLt a c = true := by
  unfold winLt sLt at *
  simp only [Bool.or_eq_true, decide_eq_true_eq, Bool.and_eq_true] at *
  rcases h1 with h1 | ⟨e1, h1⟩
  · rcases h2 with h2 | ⟨e2, h2⟩
    · exact .inl (by omega)
    · exact .inl (by omega)
  · rcases h2 with h2 | ⟨e2, h2⟩
    · exact .inl (by omega)
    · exact .inr ⟨by omega, bl_trans h1 h2⟩
theorem winLt_total {a b : Win} (h : a ≠ b) : winLt a b = true ∨ winLt b a = true := by
  unfold winLt sLt
  simp only [Bool.or_eq_true, decide_eq_true_eq, Bool.and_eq_true]
  by_cases e : a.1 = b.1
  · have e2 : a.2.toList ≠ b.2.toList := fun e2 => h (Prod.ext e (toList_inj e2))
    rcases bl_total e2 with h2 | h2
    · exact .inl (.inr ⟨e, h2⟩)
    · exact .inr (.inr ⟨e.symm, h2⟩)
  · rcases Int.lt_or_gt_of_ne e with h2 | h2
    · exact .inl (.inl h2)
    · exact .inr (.inl h2)
abbrev Wins := List (Win × A8)
def insW (x : Win × A8) : Wins → Wins
  | [] => [x]
  | y :: r => if winLt x.1 y.1 then x :: y :: r else y :: insW x r
def delW (M : Wins) (k : Win) : Wins := M.filter fun p => decide (p.1 ≠ k)
def putW (M : Wins) (k : Win) (a : A8) : Wins := insW (k, a) (delW M k)
def lookW (M : Wins) (k : Win) : Option A8 := (M.find? fun p => decide (p.1 = k)).map (·.2)
theorem insW_perm (x : Win × A8) : ∀ M : Wins, (insW x M).Perm (x :: M)
  | [] => .refl _
  | y :: r => by
    unfold insW
    split
    · exact .refl _
    · exact ((insW_perm x r).cons y).trans (.swap _ _ _)
/-- Each stands ahead of those behind it. -/
def Rise (M : Wins) : Prop := M.Pairwise fun p q => winLt p.1 q.1 = true
theorem Rise.ins {x : Win × A8} : ∀ {M : Wins}, Rise M → (∀ p ∈ M, p.1 ≠ x.1) → Rise (insW x M)
  | [], _, _ => List.pairwise_singleton _ _
  | y :: r, h, hn => by
    obtain ⟨h1, h2⟩ := List.pairwise_cons.1 h
    unfold insW
    split
    · rename_i hb
      refine List.pairwise_cons.2 ⟨fun q hq => ?_, h⟩
      rcases List.mem_cons.1 hq with rfl | hq
      · exact hb
      · exact winLt_trans hb (h1 q hq)
    · rename_i hb
      have hyx : winLt y.1 x.1 = true := by
        rcases winLt_total (hn y (by simp)) with h3 | h3
        · exact h3
        · exact absurd h3 hb
      refine List.pairwise_cons.2 ⟨fun q hq => ?_, Rise.ins h2 fun p hp => hn p (by simp [hp])⟩
      rcases List.mem_cons.1 ((insW_perm x r).mem_iff.1 hq) with rfl | hq
      · exact hyx
      · exact h1 q hq
theorem Rise.del {M : Wins} {k : Win} (h : Rise M) : Rise (delW M k) := h.filter _
theorem Rise.put {M : Wins} {k : Win} {a : A8} (h : Rise M) : Rise (putW M k a) := h.del.ins fun p hp => by
  have := (List.mem_filter.1 hp).2
  simpa using this
theorem Rise.nodup {M : Wins} (h : Rise M) : (M.map (·.1)).Nodup := List.pairwise_map.2 (h.imp fun {p q} hlt e => by
  have e2 : p.1 = q.1 := e
  rw [e2, winLt_irrefl] at hlt
  cases hlt)
/-- A row that rises is known by what is in it. -/
theorem Rise.eq : ∀ {M M' : Wins}, Rise M → Rise M' → M.Perm M' → M = M'
  | [], M', _, _, hp => by rw [List.nil_perm.1 hp]
  | x :: r, [], _, _, hp => by simpa using hp.symm
  | x :: r, y :: s, h, h', hp => by
    obtain ⟨h1, h2⟩ := List.pairwise_cons.1 h
    obtain ⟨h3, h4⟩ := List.pairwise_cons.1 h'
    have e : x = y := by
      have hx : x ∈ y :: s := hp.mem_iff.1 (by simp)
      have hy : y ∈ x :: r := hp.mem_iff.2 (by simp)
      rcases List.mem_cons.1 hx with hx | hx
      · exact hx
      · rcases List.mem_cons.1 hy with hy | hy
        · exact hy.symm
        · have := winLt_trans (h1 y hy) (h3 x hx)
          rw [winLt_irrefl] at this
          cases this
    subst e
    rw [Rise.eq h2 h4 ((List.perm_cons _).1 hp)]
theorem lookW_some {M : Wins} {k : Win} {a : A8} (h : lookW M k = some a) : (k, a) ∈ M := by
  unfold lookW at h
  cases hf : M.find? (fun p => decide (p.1 = k)) with
  | none => rw [hf] at h; cases h
  | some p =>
    rw [hf] at h
    have h1 := List.mem_of_find?_eq_some hf
    have h2 := List.find?_some hf
    simp only [decide_eq_true_eq] at h2
    cases h
    rw [← h2]
    exact h1
theorem lookW_of {M : Wins} {k : Win} {a : A8} (hn : (M.map (·.1)).Nodup) (h : (k, a) ∈ M) : lookW M k = some a := by
  unfold lookW
  induction M with
  | nil => cases h
  | cons p r ih =>
    obtain ⟨h1, h2⟩ := List.nodup_cons.1 (show (p.1 :: r.map (·.1)).Nodup from hn)
    rw [List.find?_cons]
    by_cases e : p.1 = k
    · rw [decide_eq_true e]
      rcases List.mem_cons.1 h with h | h
      · rw [← h]
        rfl
      · exact absurd (List.mem_map.2 ⟨_, h, rfl⟩) (by rw [← e] at *; exact h1)
    · rw [decide_eq_false e]
      rcases List.mem_cons.1 h with h | h
      · exact absurd (by rw [← h]) e
      · exact ih h2 h
theorem lookW_none {M : Wins} {k : Win} (h : lookW M k = none) : ∀ p ∈ M, p.1 ≠ k := fun p hp e => by
  unfold lookW at h
  have h2 : M.find? (fun p => decide (p.1 = k)) = none := by simpa using h
  have := List.find?_eq_none.1 h2 p hp
  simp [e] at this
/-! A map of windows, in the world. -/
def winV (k : Win) : Value := .agg #[.int .i64 k.1, .string k.2]
def winLit (k : Win) : Lit := .string (keyBytes [.int .i64 k.1, .string k.2.data.toList])
def KOk (k : Win) : Prop := -9223372036854775808 ≤ k.1 ∧ k.1 < 9223372036854775808 ∧ k.2.size ≤ maxLen
theorem winKeyed : Maps.Keyed Tryz.prog 162 := Maps.Keyed.of_law (deep_law_gate laidOut_prog (of_decide_eq_true (by kernel_rfl)) (of_decide_eq_true (by kernel_rfl)) (by kernel_rfl) (by kernel_rfl))
theorem cells_win : Tryz.prog.cellsOf 162 = 2 := by kernel_rfl
theorem cells_i64 : Tryz.prog.cellsOf 2 = 1 := by kernel_rfl
theorem cells_str : Tryz.prog.cellsOf 9 = 1 := by kernel_rfl
theorem lits_int {z : Int} (hw : (Lit.int .i64 z).wf = true) (d : Nat) : Tryz.prog.keyLits (d + 1) 2 [.int .i64 z] = some [.int .i64 z] := by
  unfold Program.keyLits
  rw [Tryz.underlying2]
  simp [hw]
theorem lits_str {s : ByteArray} (hs : s.size ≤ maxLen) (d : Nat) : Tryz.prog.keyLits (d + 1) 9 [.string s] = some [.string s.data.toList] := by
  unfold Program.keyLits
  rw [Tryz.underlying9]
  simp [hs]
theorem win_lits {k : Win} {d : Nat} (hw : (Lit.int .i64 k.1).wf = true) (hs : k.2.size ≤ maxLen) : Tryz.prog.keyLits (d + 2) 162 (winV k).cells.toList = some [.int .i64 k.1, .string k.2.data.toList] := by
  have e : (winV k).cells.toList = [.int .i64 k.1, .string k.2] := rfl
  rw [e]
  unfold Program.keyLits
  rw [Tryz.underlying162]
  simp only [cells_win]
  simp [lits_int hw d, lits_str hs d, cells_i64, cells_str]
set_option maxRecDepth 100000 in
theorem winKey {k : Win} (h : KOk k) : keyOf Tryz.prog 162 (winV k) = some (winLit k) := by
  have hw : (Lit.int .i64 k.1).wf = true := WalkArith.wf_i64 (by have := h.1; have := h.2.1; omega)
  have hk : Tryz.prog.keyType 162 = true := by kernel_rfl
  have hf : (winV k).formed Tryz.prog 162 = true := by kernel_rfl
  have hl : Tryz.prog.keyLits (Tryz.prog.types.size + 1) 162 (winV k).cells.toList = some [.int .i64 k.1, .string k.2.data.toList] := by
    rw [show Tryz.prog.types.size + 1 = (Tryz.prog.types.size - 1) + 2 from by kernel_rfl]
    exact win_lits hw h.2.2
  unfold keyOf
  rw [Tryz.underlying162]
  simp only [hk, hf, Bool.and_self, if_true, hl]
  rfl
theorem winLit_inj {a b : Win} (ha : KOk a) (hb : KOk b) (e : winLit a = winLit b) : a = b := by
  have h := winKeyed.inj (winKey ha) (by rw [e]; exact winKey hb)
  unfold winV at h
  simp at h
  exact Prod.ext h.1 h.2
theorem same_win {a b : Win} (ha : KOk a) (hb : KOk b) : (winLit a).sameKey (winLit b) = decide (a = b) := by
  by_cases e : a = b
  · subst e
    rw [decide_eq_true rfl]
    exact WideAt.sameKey_self (winKeyed.key (winKey ha))
  · rw [decide_eq_false e]
    cases hs : (winLit a).sameKey (winLit b) with
    | false => rfl
    | true => exact absurd (winLit_inj ha hb (WideAt.sameKey_eq hs)) e
def wEnt (p : Win × A8) : Lit × DataW Value := (winLit p.1, .held (.agg p.2.arr))
/-- D is the map of the windows M. -/
structure WD (D : DataW Value) (M : Wins) : Prop where
  es : ∃ es, D = .map es ∧ es.Perm (M.map wEnt)
  rise : Rise M
  ok : ∀ p ∈ M, KOk p.1
def WinAt (W : World) (b : Nat) (M : Wins) : Prop := ∃ D, WD D M ∧ W.ownsMap Tryz.prog 162 heldE b M.length D
theorem wd_nil : WD (.map []) [] := ⟨⟨[], rfl, .refl _⟩, List.Pairwise.nil, fun p hp => by cases hp⟩
section
variable {D : DataW Value} {M : Wins} {k : Win} {a : A8} {W : World} {b : Nat}
theorem WD.size (h : WD D M) : Maps.size D = M.length := by
  obtain ⟨⟨es, rfl, hp⟩, _, _⟩ := h
  have := hp.length_eq
  simpa [Maps.size] using this
theorem WD.find (h : WD D M) (hk : KOk k) {es : List (Lit × DataW Value)} (he : D = .map es) : es.find? (fun p => p.1.sameKey (winLit k)) = (lookW M k).map fun a => wEnt (k, a) := by
  obtain ⟨⟨es2, he2, hp⟩, hr, ho⟩ := h
  rw [he] at he2
  cases he2
  cases hl : lookW M k with
  | none =>
    refine List.find?_eq_none.2 fun p hp2 => ?_
    obtain ⟨q, hq, rfl⟩ := List.mem_map.1 (hp.mem_iff.1 hp2)
    show ¬ (winLit q.1).sameKey (winLit k) = true
    rw [same_win (ho q hq) hk, decide_eq_false (lookW_none hl q hq)]
    decide
  | some a =>
    have hm := lookW_some hl
    have hin : wEnt (k, a) ∈ es := hp.mem_iff.2 (List.mem_map.2 ⟨_, hm, rfl⟩)
    cases hf : es.find? (fun p => p.1.sameKey (winLit k)) with
    | none =>
      have := List.find?_eq_none.1 hf _ hin
      exact absurd ((same_win hk hk).trans (decide_eq_true rfl)) this
    | some p =>
      have h1 := List.mem_of_find?_eq_some hf
      have h2 := List.find?_some hf
      obtain ⟨q, hq, rfl⟩ := List.mem_map.1 (hp.mem_iff.1 h1)
      have h3 : (winLit q.1).sameKey (winLit k) = true := h2
      rw [same_win (ho q hq) hk, decide_eq_true_eq] at h3
      have h4 := lookW_of hr.nodup (show (k, q.2) ∈ M by rw [← h3]; exact hq)
      rw [hl] at h4
      cases h4
      rw [← h3]
      rfl
theorem WD.at_ (h : WD D M) (hk : KOk k) (z : Value) : D.atKey (winLit k) (.held z) = .held (((lookW M k).map fun a => Value.agg a.arr).getD z) := by
  obtain ⟨es, rfl, hp⟩ := h.es
  unfold DataW.atKey
  simp only
  rw [h.find hk rfl]
  cases lookW M k <;> rfl
theorem WD.has (h : WD D M) (hk : KOk k) : Maps.has D (winLit k) = (lookW M k).isSome := by
  obtain ⟨es, rfl, hp⟩ := h.es
  have e : Maps.has (.map es) (winLit k) = es.any fun p => p.1.sameKey (winLit k) := rfl
  rw [e]
  have h2 := h.find hk rfl
  cases hl : lookW M k with
  | none =>
    rw [hl] at h2
    have h3 := List.find?_eq_none.1 h2
    simp only [Option.isSome_none]
    rw [List.any_eq_false]
    exact fun p hp => h3 p hp
  | some a =>
    rw [hl] at h2
    have h3 := List.mem_of_find?_eq_some h2
    have h4 := List.find?_some h2
    exact List.any_eq_true.2 ⟨_, h3, h4⟩
theorem WD.filt (h : WD D M) (hk : KOk k) {es : List (Lit × DataW Value)} (he : D = .map es) : (es.filter fun p => !p.1.sameKey (winLit k)).Perm ((delW M k).map wEnt) := by
  obtain ⟨⟨es2, he2, hp⟩, hr, ho⟩ := h
  rw [he] at he2
  cases he2
  refine (hp.filter _).trans ?_
  rw [List.filter_map]
  unfold delW
  have e : M.filter ((fun p => !p.1.sameKey (winLit k)) ∘ wEnt) = M.filter fun p => decide (p.1 ≠ k) := List.filter_congr fun p hp => by
    show (!(winLit p.1).sameKey (winLit k)) = _
    rw [same_win (ho p hp) hk]
    by_cases e : p.1 = k <;> simp [e]
  rw [e]
theorem WD.del (h : WD D M) (hk : KOk k) : WD (D.del (winLit k)) (delW M k) := by
  obtain ⟨es, rfl, hp⟩ := h.es
  exact ⟨⟨_, rfl, h.filt hk rfl⟩, h.rise.del, fun p hp => h.ok p (List.mem_filter.1 hp).1⟩
theorem WD.put (h : WD D M) (hk : KOk k) : WD (D.put (winLit k) (.held (.agg a.arr))) (putW M k a) := by
  obtain ⟨es, rfl, hp⟩ := h.es
  refine ⟨⟨_, rfl, ?_⟩, h.rise.put, fun p hp => ?_⟩
  · have h1 : ∀ (x : Lit × DataW Value) (l : List (Lit × DataW Value)), (DataW.insert x l).Perm (x :: l) := fun x l => Go.WideShapes.insert_perm x l
    refine (h1 _ _).trans ?_
    refine ((h.filt hk rfl).cons _).trans ?_
    exact ((insW_perm (k, a) (delW M k)).map wEnt).symm
  · rcases List.mem_cons.1 ((insW_perm (k, a) (delW M k)).mem_iff.1 hp) with rfl | hp
    · exact hk
    · exact h.ok p (List.mem_filter.1 hp).1
end
end Go.Proofs.YtnjfjdfjheiocaaGreat
