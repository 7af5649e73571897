/-
  A parameter that is a slice of int64, opened; a parameter that is an aggregate, opened.
-/
import Derived.Test.YtoiakejagmeliaaAggSl
import Derived.Lib.SmallJoins
set_option linter.unusedSimpArgs false
set_option linter.unusedVariables false
namespace Go.Proofs.Ytoiakejagmeliaa
open Go.ChangeShapes Go.WideShapes Go.ChangeAt Go.RowKit Go.Joins

section
variable {H : Type} {enc : TypeId × Value → H} {w : World} {base : Nat}
theorem cells_i64 : Try.prog.cellsOf 2 = 1 := by kernel_rfl
theorem open_list {r : Reach} {b0 : Nat} {v : Value} {d : DataW H} {p : List MemPlace} (hv : Value.okWide Try.prog w r b0 32 v) (h : DataW.Trod enc Try.prog w base (fun _ => true) true 32 v d p) :
    ∃ zs : List Int, SliceOf w v zs ∧ zs.length ≤ maxLen ∧ ∀ x, x ∈ zs → R64 x := by
  obtain ⟨a0, len, cap, rfl⟩ := okWide_slice Try.underlying32 hv
  obtain ⟨fuel, hf⟩ := h
  rcases open_ints Try.underlying32 Try.underlying2 cells_i64 hf with ⟨hcs, hx⟩ | ⟨a, len', cap', zs, hcs, _, hl, hm, hz, hx, hcell, hwz⟩
  · simp [Value.cells] at hcs
    obtain ⟨rfl, rfl, rfl⟩ := hcs
    exact ⟨[], .inl ⟨rfl, _, _, rfl⟩, by simp, by simp⟩
  · simp [Value.cells] at hcs
    obtain ⟨rfl, rfl, rfl⟩ := hcs
    simp only [if_true] at hz
    refine ⟨zs.take len, ?_, by simp; omega, fun x hx => r64_wf (hwz x (List.mem_of_mem_take hx))⟩
    have hlen : (zs.take len).length = len := by simp; omega
    by_cases h0 : len = 0
    · subst h0
      exact .inl ⟨rfl, _, _, rfl⟩
    · obtain ⟨b, off, rfl, hc⟩ := ints_at hcell (by omega)
      refine .inr ⟨by omega, b, off, cap, by rw [hlen], by omega, ?_, fun j hj => ?_⟩
      · exact World.block_lt_of_cell? w ⟨b, off + 0, none⟩ (hc 0 (by omega))
      · rw [hlen] at hj
        rw [hc j (by omega)]
        congr 2
        rw [List.getD_eq_getElem?_getD, List.getD_eq_getElem?_getD, List.getElem?_take_of_lt hj]

theorem array8 {α : Type} {cs : Array α} (h : cs.size = 8) : ∃ c0 c1 c2 c3 c4 c5 c6 c7, cs = #[c0, c1, c2, c3, c4, c5, c6, c7] := by
  obtain ⟨l⟩ := cs
  match l, h with
  | [c0, c1, c2, c3, c4, c5, c6, c7], _ => exact ⟨c0, c1, c2, c3, c4, c5, c6, c7, rfl⟩
theorem one_num {n : Nat} {c : Value} {y : DataW H × List MemPlace} (h : DataW.trod enc Try.prog w base (fun _ => true) true n 2 [c] = some y) : ∃ x : Int, c = .int .i64 x ∧ R64 x := by
  obtain ⟨x, e, _, wx⟩ := DataW.trod_int Try.underlying2 h
  simp at e
  exact ⟨x, e, r64_wf wx⟩
set_option maxHeartbeats 1000000 in
theorem open_agg {r : Reach} {b0 : Nat} {v : Value} {d : DataW H} {p : List MemPlace} (hv : Value.okWide Try.prog w r b0 24 v) (h : DataW.Trod enc Try.prog w base (fun _ => true) true 24 v d p) :
    ∃ a : A8, v = .agg a.arr ∧ a.ok := by
  obtain ⟨cs, rfl, hsz⟩ := okWide_struct Try.underlying24 hv
  obtain ⟨c0, c1, c2, c3, c4, c5, c6, c7, rfl⟩ := array8 (hsz.trans (by kernel_rfl))
  obtain ⟨fuel, hf⟩ := h
  obtain ⟨xs, n, _, hx, _, hlen, hg⟩ := DataW.trod_struct Try.underlying24 hf
  match xs, hlen with
  | [y0, y1, y2, y3, y4], _ =>
    have g0 := hg 0 _ rfl
    have g1 := hg 1 _ rfl
    have g2 := hg 2 _ rfl
    have g3 := hg 3 _ rfl
    have g4 := hg 4 _ rfl
    simp [Value.cells, cells_i64] at g0 g1 g2 g3
    have c22 : Try.prog.cellsOf 22 = 4 := by kernel_rfl
    simp [Value.cells, c22] at g4
    obtain ⟨zs, m, _, _, _, hl4, hz⟩ := DataW.trod_array Try.underlying22 g4
    match zs, hl4 with
    | [z0, z1, z2, z3], _ =>
      have k0 := hz 0 (by omega)
      have k1 := hz 1 (by omega)
      have k2 := hz 2 (by omega)
      have k3 := hz 3 (by omega)
      simp [cells_i64] at k0 k1 k2 k3
      obtain ⟨x0, rfl, w0⟩ := one_num g0
      obtain ⟨x1, rfl, w1⟩ := one_num g1
      obtain ⟨x2, rfl, w2⟩ := one_num g2
      obtain ⟨x3, rfl, w3⟩ := one_num g3
      obtain ⟨x4, rfl, w4⟩ := one_num k0
      obtain ⟨x5, rfl, w5⟩ := one_num k1
      obtain ⟨x6, rfl, w6⟩ := one_num k2
      obtain ⟨x7, rfl, w7⟩ := one_num k3
      exact ⟨⟨x0, x1, x2, x3, x4, x5, x6, x7⟩, rfl, w0, w1, w2, w3, w4, w5, w6, w7⟩
end
end Go.Proofs.Ytoiakejagmeliaa
