/-
  msg.Same: whether two messages are the same, as plain data.
-/
import Derived.Test.YtmmhchpilcjflaaPSamex
import Derived.Test.YtmmhchpilcjflaaMsgQh
set_option linter.unusedSimpArgs false
set_option linter.unusedVariables false
namespace Go.Proofs.Ytmmhchpilcjflaa
open Go.RowKit Go.Proofs.Ytmmhchpilcjflaa.PSame Go.Proofs.YtmmhchpilcjflaaW.PrintWords Go.Proofs.YtmmhchpilcjflaaW.PrintLast Go.Proofs.YtmmhchpilcjflaaW.PrintMore

theorem ite_some (p : Prop) [Decidable p] (b : Bool) : (if p then some b else some false) = some (decide p && b) := by
  by_cases h : p <;> simp [h]

theorem equal_l0 (xs ys : List Int) (hl : xs.length = ys.length) (hb : xs.length ≤ 9223372036854775807) : ∀ (d i k : Nat), i + d = xs.length → d < k →
    slices_Equal_int_int.l0 k xs ys (xs.length : Int) i = some (decide (xs.drop i = ys.drop i)) := by
  intro d
  induction d with
  | zero =>
    intro i k hi hk
    obtain ⟨k, rfl⟩ : ∃ j, k = j + 1 := ⟨k - 1, by omega⟩
    rw [slices_Equal_int_int.l0, if_neg (by omega)]
    simp [List.drop_eq_nil_of_le (show xs.length ≤ i by omega), List.drop_eq_nil_of_le (show ys.length ≤ i by omega)]
  | succ d ih =>
    intro i k hi hk
    obtain ⟨k, rfl⟩ : ∃ j, k = j + 1 := ⟨k - 1, by omega⟩
    have hx : i < xs.length := by omega
    have hy : i < ys.length := by omega
    have hw : wrap64 ((i : Int) + 1) = ((i + 1 : Nat) : Int) := by unfold wrap64; omega
    rw [slices_Equal_int_int.l0, if_pos (by omega), if_pos (by omega), if_pos (by omega), if_pos (by omega), hw]
    have ex : Go.Proofs.YtmmhchpilcjflaaW.PrintWords.rd xs i = xs[i] := by simp [Go.Proofs.YtmmhchpilcjflaaW.PrintWords.rd, hx]
    have ey : Go.Proofs.YtmmhchpilcjflaaW.PrintWords.rd ys i = ys[i] := by simp [Go.Proofs.YtmmhchpilcjflaaW.PrintWords.rd, hy]
    rw [ex, ey, ih (i + 1) k (by omega) (by omega), List.drop_eq_getElem_cons hx, List.drop_eq_getElem_cons hy]
    by_cases h : xs[i] = ys[i]
    · rw [if_pos h]
      exact congrArg some (decide_eq_decide.2 ⟨fun e => by rw [h, e], fun e => (List.cons.inj e).2⟩)
    · rw [if_neg h]
      exact congrArg some (Eq.symm (decide_eq_false fun e => h (List.cons.inj e).1))
theorem equal_f (xs ys : List Int) (hb : xs.length ≤ 9223372036854775807) (k : Nat) (hk : xs.length < k) : slices_Equal_int_int.f k xs ys = some (decide (xs = ys)) := by
  unfold slices_Equal_int_int.f
  by_cases hl : xs.length = ys.length
  · rw [if_pos (by omega)]
    have := equal_l0 xs ys hl hb xs.length 0 k (by omega) hk
    simpa using this
  · rw [if_neg (by omega)]
    have : xs ≠ ys := fun h => hl (by rw [h])
    simp [this]

/-- Are two messages the same? -/
def sameB (a b : PMsg) : Bool :=
  decide (a.set = b.set) && (decide (a.owner = b.owner) && (decide ((a.kind : Int) = b.kind) && (decide (a.move = b.move) && (decide (a.part = b.part) && (decide (a.to = b.to) && (decide (a.n = b.n) && (decide (a.count = b.count) && (decide (a.code = b.code) &&
    (decide ((a.digest : Int) = b.digest) && (decide (a.at_ = b.at_) &&
    ((a.isrc == b.isrc && (a.iseq == b.iseq && (a.ilow == b.ilow && ((a.ikind : Int) == (b.ikind : Int) && (a.ikey.toList == b.ikey.toList && (a.ipart == b.ipart && (a.iat == b.iat && a.iN == b.iN))))))) &&
    (decide (a.epoch = b.epoch) && (decide (a.nodes = b.nodes) && (a.data.toList == b.data.toList))))))))))))))

theorem Rd.kd {W : World} {v : Value} {l : List Int} (h : Rd W v l) (hl : l.length ≤ 9223372036854775807) : ∃ A c, v = .slice A l.length c ∧ Kd.C (Kd.int .i64) W A l.length l ∧ l.length ≤ c := by
  rcases h with ⟨rfl, rfl⟩ | ⟨a, c, rfl, hc, hcell⟩
  · exact ⟨none, 0, rfl, ⟨rfl, by simp, fun h => by simp at h⟩, Nat.le_refl _⟩
  · refine ⟨some a, c, rfl, ⟨rfl, by omega, fun _ => ⟨a, rfl, fun j p hj => ⟨[.int .i64 p], rfl, rfl, fun i u hu => ?_⟩⟩⟩, hc⟩
    have hi : i = 0 := by
      rcases i with _ | i
      · rfl
      · simp at hu
    subst hi
    simp at hu
    subst hu
    have := hcell j (.int .i64 p) (by simp [ints, hj])
    simpa [Kd.int, Kd.scalar] using this

theorem same_f (a b : PMsg) (hs : a.set.length ≤ 9223372036854775807) (ho : a.owner.length ≤ 9223372036854775807) :
    msg_Same.f 9223372036854775808 a.kind a.move a.part a.to a.n a.count a.code a.digest a.at_ a.isrc a.iseq a.ilow a.ikind a.ikey a.ipart a.iat a.iN a.epoch a.nodes a.owner a.set a.data
      b.kind b.move b.part b.to b.n b.count b.code b.digest b.at_ b.isrc b.iseq b.ilow b.ikind b.ikey b.ipart b.iat b.iN b.epoch b.nodes b.owner b.set b.data = some (sameB a b) := by
  unfold msg_Same.f
  rw [equal_f a.set b.set hs _ (by omega), equal_f a.owner b.owner ho _ (by omega)]
  simp only [ite_some, Option.bind_some]
  simp only [sameB, Bool.decide_eq_true]

theorem Same_any {W : World} {a b : PMsg} {ao aS bo bs : Value} (h1 : Rd W ao a.owner) (h2 : Rd W aS a.set) (h3 : Rd W bo b.owner) (h4 : Rd W bs b.set)
    (l1 : a.owner.length ≤ 9223372036854775807) (l2 : a.set.length ≤ 9223372036854775807) (l3 : b.owner.length ≤ 9223372036854775807) (l4 : b.set.length ≤ 9223372036854775807) :
    Calls Try.prog 13 #[.agg (mcells a ao aS), .agg (mcells b bo bs)] W fun e W' => e = .returned (.bool (sameB a b)) ∧ Below W.heap.size W W' := by
  obtain ⟨A1, c1, rfl, k1, n1⟩ := h1.kd l1
  obtain ⟨A2, c2, rfl, k2, n2⟩ := h2.kd l2
  obtain ⟨A3, c3, rfl, k3, n3⟩ := h3.kd l3
  obtain ⟨A4, c4, rfl, k4, n4⟩ := h4.kd l4
  exact msg_Same.calls 9223372036854775808 _ _ _ _ _ _ _ _ _ _ _ _ _ _ _ _ _ _ _ A1 c1 a.owner A2 c2 a.set _ _ _ _ _ _ _ _ _ _ _ _ _ _ _ _ _ _ _ _ A3 c3 b.owner A4 c4 b.set _ _ W k1 n1 k2 n2 k3 n3 k4 n4 (same_f a b l2 l1)
end Go.Proofs.Ytmmhchpilcjflaa
