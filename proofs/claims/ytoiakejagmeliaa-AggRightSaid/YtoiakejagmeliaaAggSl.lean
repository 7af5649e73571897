/-
  A list that came in: how its slice reads; what the two Of's come to on it, in any later world.
-/
import Derived.Test.YtoiakejagmeliaaAggAA
import Derived.Test.YtoiakejagmeliaaAggWk
import Derived.Test.YtoiakejagmeliaaRowR
set_option linter.unusedSimpArgs false
set_option linter.unusedVariables false
namespace Go.Proofs.Ytoiakejagmeliaa
open Go.RowKit

/-- v is a slice of int64 that reads as zs in W. -/
def SliceOf (W : World) (v : Value) (zs : List Int) : Prop :=
  (zs = [] ∧ ∃ a cap, v = .slice a 0 cap) ∨
  (0 < zs.length ∧ ∃ b off cap, v = .slice (some ⟨b, off, none⟩) zs.length cap ∧ zs.length ≤ cap ∧ b < W.heap.size ∧ ∀ j, j < zs.length → W.cell? ⟨b, off + j, none⟩ = some (.int .i64 (zs.getD j 0)))

theorem SliceOf.later {W W' : World} {v : Value} {zs : List Int} {B : Nat} (h : SliceOf W v zs) (hb : Below B W W') (hB : W.heap.size ≤ B) : SliceOf W' v zs := by
  rcases h with h | ⟨h0, b, off, cap, hv, hcap, hlt, hc⟩
  · exact .inl h
  · exact .inr ⟨h0, b, off, cap, hv, hcap, Nat.lt_of_lt_of_le hlt hb.size, fun j hj => (hb.cell (p := ⟨b, off + j, none⟩) (by dsimp only; omega)).trans (hc j hj)⟩

set_option maxHeartbeats 1000000 in
theorem of_empty (a : Option Addr) (cap : Nat) (w : World) : Calls Try.prog 19 #[.slice a 0 cap] w fun e w' => e = .returned (.agg (of8 []).arr) ∧ Below w.heap.size w w' := by
  go_enter Try.func19, Try.ntmps19
  go_wp2
  go_rounds 1
  exact bodyPost_ret (v := .agg #[.int .i64 0, .int .i64 0, .int .i64 0, .int .i64 0, .int .i64 0, .int .i64 0, .int .i64 0, .int .i64 0]) (by simp [results, Try.results19, go_sem]) rfl ⟨rfl, ((Below.refl _ _).alloc (Nat.le_refl _) _).alloc (by simp) _⟩
set_option maxHeartbeats 1000000 in
theorem rof_empty (a : Option Addr) (cap : Nat) (w : World) : Calls Try.prog 20 #[.slice a 0 cap] w fun e w' => e = .returned (.agg (of8 []).arr) ∧ Below w.heap.size w w' := by
  go_enter Try.func20, Try.ntmps20
  go_wp2
  go_rounds 1
  exact bodyPost_ret (v := .agg #[.int .i64 0, .int .i64 0, .int .i64 0, .int .i64 0, .int .i64 0, .int .i64 0, .int .i64 0, .int .i64 0]) (by simp [results, Try.results20, go_sem]) rfl ⟨rfl, ((Below.refl _ _).alloc (Nat.le_refl _) _).alloc (by simp) _⟩

theorem of_list {v : Value} {zs : List Int} {w : World} (h : SliceOf w v zs) (hl : zs.length ≤ 9223372036854775806) :
    Calls Try.prog 19 #[v] w fun e w' => e = .returned (.agg (of8 zs).arr) ∧ Below w.heap.size w w' := by
  rcases h with ⟨rfl, a, cap, rfl⟩ | ⟨h0, b, off, cap, rfl, hcap, hlt, hc⟩
  · exact of_empty a cap w
  · have := of_any b off zs.length cap zs w (Nat.le_refl _) hl hlt hc
    rwa [List.take_length] at this
theorem rof_list {v : Value} {zs : List Int} {w : World} (h : SliceOf w v zs) (hl : zs.length ≤ 9223372036854775806) (hr : ∀ x, x ∈ zs → R64 x) :
    Calls Try.prog 20 #[v] w fun e w' => e = .returned (.agg (of8 zs).arr) ∧ Below w.heap.size w w' := by
  rcases h with ⟨rfl, a, cap, rfl⟩ | ⟨h0, b, off, cap, rfl, hcap, hlt, hc⟩
  · exact rof_empty a cap w
  · have := rof_any b off zs.length cap zs w (Nat.le_refl _) hl hlt hr hc
    rwa [List.take_length] at this

theorem of8_form (l : List Int) : ∃ x0 x1 x2 x3 x4 x5 x6 x7 : Int, of8 l = ⟨x0, x1, x2, x3, x4, x5, x6, x7⟩ := ⟨_, _, _, _, _, _, _, _, rfl⟩
end Go.Proofs.Ytoiakejagmeliaa
