/-
  What was told is put behind what was told before.
-/
import Derived.Test.YtnjfjdfjheiocaaGreatShY
import Derived.Laws.OwnMore
set_option linter.unusedSimpArgs false
set_option linter.unusedVariables false
namespace Go.Proofs.YtnjfjdfjheiocaaGreat
open Go.RowKit
section
variable {w0 W w : World} {L X X2 : List Thg} {v v2 : Value} {Z M : Wins}
theorem outF_one (M : Wins) : ∀ u ∈ outF M, u.oneCell' = true := fun u hu => by
  obtain ⟨p, _, hp⟩ := List.mem_flatMap.1 hu
  exact outE_one p u hp
theorem outF_two (Z M : Wins) : outF (Z ++ M) = outF Z ++ outF M := by
  unfold outF
  simp
theorem app_outs (hr : PRow 57 10 v Z.length (outF Z) X) (hr2 : PRow 57 10 v2 M.length (outF M) X2) (hL : LV w0 (X ++ (X2 ++ L)) W) (hn : Z.length + M.length ≤ 1000000) (ty : TypeId) :
    ∃ v' W' X', (Builtin.append_ #[27, 27] ty #[v, v2]).run Tryz.prog W = .ok v' W' ∧ PRow 57 10 v' (Z ++ M).length (outF (Z ++ M)) X' ∧ LV w0 (X' ++ (X2 ++ L)) W' := by
  obtain ⟨i0, hi, hz0, hz1, hz2⟩ := info_parts infoOut
  rcases hr2.2 with ⟨rfl, h0, rfl⟩ | ⟨g, cap, cur, rfl, rfl, h1, h2, h3, h4⟩
  · have hM0 : M = [] := List.length_eq_zero_iff.1 h0
    subst hM0
    have hrun := run_append_owned_none (P := Tryz.prog) (w := W) w0.heap.size 27 ty 57 i0 10 Tryz.underlying27 hi v _ _ (hr.owns hL)
    exact ⟨v, W, X, hrun, by rw [List.append_nil]; exact hr, hL⟩
  · have hL2 : LV w0 (bk g cur 57 :: (X ++ L)) W := LV.bk1 hL
    have hcel : ∀ j u, (outF M)[j]? = some u → W.cell? ((⟨g, 0, none⟩ : Addr).add j) = some u := by
      intro j u hj
      have e1 : (⟨g, 0, none⟩ : Addr).add j = ⟨g, j, none⟩ := by cases j <;> simp [Addr.add]
      have h5 : j < (outF M).length := (List.getElem?_eq_some_iff.1 hj).1
      rw [outF_len] at h5
      rw [e1, hL2.cell j, ← Array.getElem?_toList, ← hj, ← h4, List.getElem?_take, if_pos h5]
    obtain ⟨v', W', X', hrun, hr3, hL3⟩ := app_cells (gn := g) (cn := cap) (m := M.length) (news := outF M) hr hL hcel Tryz.underlying27 hi hz0 hz1 hz2 rfl (by decide) (outF_len M) (outF_one M) hn (by decide) ty
    exact ⟨v', W', X', hrun, by rw [List.length_append, outF_two]; exact hr3, hL3⟩
end
end Go.Proofs.YtnjfjdfjheiocaaGreat
