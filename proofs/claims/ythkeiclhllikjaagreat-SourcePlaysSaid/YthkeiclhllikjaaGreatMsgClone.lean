/-
  slices.Clone of integers: the same integers in a row of the call's own.
-/
import Derived.Test.YthkeiclhllikjaaGreatMsgQb
import Derived.Lib.SliceRun
set_option linter.unusedSimpArgs false
set_option linter.unusedVariables false
namespace Go.Proofs.YthkeiclhllikjaaGreat
open Go.RowKit
def ints (l : List Int) : List Value := l.map (Value.int .i64)
theorem ints_length (l : List Int) : (ints l).length = l.length := by simp [ints]
theorem ints_one (l : List Int) : ∀ u ∈ ints l, u.oneCell' = true := by
 intro u hu
 obtain ⟨b, _, rfl⟩ := List.mem_map.1 hu
 rfl
theorem infoInt : (Tryz.prog.info? 3).map (fun i => (i.zero, i.size, i.bytes)) = some (some (.int .i64 0), 1, 8) := by kernel_rfl
def Rd (W : World) (v : Value) (l : List Int) : Prop :=
 (v = .slice none 0 0 ∧ l = []) ∨ ∃ a c, v = .slice (some a) l.length c ∧ l.length ≤ c ∧ ∀ j u, (ints l)[j]? = some u → W.cell? (a.add j) = some u
theorem cell_some_lt {W : World} {a : Addr} {v : Value} (h : W.cell? a = some v) : a.block < W.heap.size := by
 rcases Nat.lt_or_ge a.block W.heap.size with hlt | hge
 ·exact hlt
 ·simp [World.cell?, Array.getElem?_eq_none hge] at h
theorem blk_kept_alloc {W : World} {g : Nat} (o : Obj) (h : g < W.heap.size) : (W.alloc o).heap[g]? = W.heap[g]? := Below.heap_alloc W o g h
theorem Rd.kept {W W' : World} {v : Value} {l : List Int} (h : Rd W v l) (hb : ∀ k, k < W.heap.size → W'.heap[k]? = W.heap[k]?) : Rd W' v l := by
 rcases h with h | ⟨a, c, rfl, hcc, hc⟩
 ·exact .inl h
 ·refine .inr ⟨a, c, rfl, hcc, fun j u hj => ?_⟩
  have h1 := hc j u hj
  rw [← h1]
  exact World.cell?_of_block (hb _ (cell_some_lt h1))
section
variable {w0 W : World} {L : List Blk} {v : Value} {l : List Int}
set_option maxRecDepth 100000 in
theorem clone_ok (hv : Rd W v l) (h : Live w0 L W) (hl : l.length ≤ 1000000000000) :
  Calls Tryz.prog 52 #[v] W fun e W' => ∃ v' R, e = .returned v' ∧ RowIs 3 v' (ints l) R ∧ Live w0 (R ++ L) W' := by
 obtain ⟨i0, hi, hz0, hz1, hz2⟩ := info_parts infoInt
 have qT : ∀ (w : World) (a : Option Addr) (n c n' c' : Nat), (binOp .eql 26 (.slice a n c) (.slice none n' c')).run Tryz.prog w = .ok (.bool a.isNone) w := fun w a n c n' c' => Lib.run_eql_slice_nil w _ _ a n c n' c' Tryz.underlying26
 rcases hv with ⟨rfl, rfl⟩ | ⟨a, c, rfl, _, hc⟩
 ·go_enter Tryz.func52, Tryz.ntmps52
  go_wp2
  go_ret
  exact ⟨_, [], rfl, RowIs.nil _, h⟩
 ·have Hc : Hid (∀ j u, (ints l)[j]? = some u → W.cell? (a.add j) = some u) := hc
  have Hl := Lib.hid hl
  clear hc hl
  have hnew : RowIs 3 (.slice (some ⟨W.heap.size, 0, none⟩) 0 0) [] [(W.heap.size, #[], 3)] := .inr ⟨W.heap.size, 0, #[], rfl, rfl, Nat.le_refl _, by unfold maxLen; omega, rfl, rfl⟩
  have hlive := h.alloc #[] 3
  go_enter Tryz.func52, Tryz.ntmps52
  go_wp2_with (at_builtin; refine wpList_append_row rfl (.tmp 5) (.tmp 6) 26 rfl 3 i0 (.int .i64 0) 8 Tryz.underlying26 hi hz0 hz1 hz2 rfl _ [] rfl hnew hlive a l.length c (ints l) rfl (ints_length l) (fun j u hu => (World.cell?_of_block (blk_kept_alloc _ (cell_some_lt (Hc.out j u hu)))).trans (Hc.out j u hu)) (ints_one l) (by have := Hl.out; unfold maxLen; simp; omega) (by have := Hl.out; simp; omega) ?_)
  intro v' W' R hr' hl' _
  go_wp2
  go_ret
  exact ⟨v', R, rfl, by simpa using hr', hl'⟩
end
end Go.Proofs.YthkeiclhllikjaaGreat
