/-
  ShardTwin: a twin and a state made of another's data stand apart from it, and all three go on alike: of any items ahead and behind, with no condition.
-/
import Derived.Test.YtnjfjdfjheiocaaGreatShTn
import Derived.Test.YtnjfjdfjheiocaaGreatRowN
import Derived.ChangeMaps5
set_option linter.unusedSimpArgs false
set_option linter.unusedVariables false
namespace Go.Proofs.YtnjfjdfjheiocaaGreat.shardTwin
open Go.ChangeShapes Go.WideShapes Go.ChangeAt Go.RowKit Go.ChangeMaps

set_option maxRecDepth 100000 in
theorem lifted (os : Os) (started : os.Started) (H : Type) (enc : TypeId × Value → H) :
    ReturnsInHanded {} Tryz.checked os 8 .any (Rows.shardTwinSpec.pre6 enc Tryz.prog Tryz.f8 Rows.shardTwinRow.domain false) (Rows.shardTwinSpec.post enc Tryz.prog Tryz.f8 false true false false) := by
  refine returnsInHanded_of_change (C := Tryz.checked) own_prog started (by kernel_rfl) Tryz.func8
    (ChangeSpec.witness6 (enc := enc) (C := Tryz.checked) false ⟨#[], #[.slice none 0 0, .slice none 0 0], []⟩ 8 (by kernel_rfl) (by kernel_rfl) (by kernel_rfl) (by kernel_rfl)) ?_
  intro W base args ds gs before hval0 hW hcnd _
  have hval : ∀ (j : Nat) t v, Tryz.f8.params[j]? = some t → args[j]? = some v → Value.okWide Tryz.prog W .any base t v := hval0
  have hW' := hW
  obtain ⟨p, q, hA0, hV, rfl, hfz, hnd⟩ := hW
  have hA : DataW.TrodAll enc Tryz.prog W 0 (fun _ => true) true Tryz.f8.params.toList args.toList ds p := hA0
  rw [Tryz.params8] at hA hval
  obtain ⟨v0, vs0, d0, ds0, p0, q0, hargs, rfl, rfl, h0, r0⟩ := trodAll_cons hA
  obtain ⟨v1, vs1, d1, ds1, p1, q1, rfl, rfl, rfl, h1, r1⟩ := trodAll_cons r0
  obtain ⟨rfl, rfl, rfl⟩ := trodAll_nil r1
  obtain rfl : args = #[v0, v1] := by cases args; simp_all
  obtain ⟨rfl, rfl⟩ := trodVars_none hV
  clear hA0 hval0
  obtain ⟨l0, rl0, ok0, ll0⟩ := open_rowsV (f := itC) Tryz.underlying22 cs24i (fun _ _ _ h => open_itemC h) (hval 0 22 v0 rfl rfl) h0
  obtain ⟨l1, rl1, ok1, ll1⟩ := open_rowsV (f := itC) Tryz.underlying22 cs24i (fun _ _ _ h => open_itemC h) (hval 1 22 v1 rfl rfl) h1
  have ml : maxLen ≤ 9223372036854775807 := by unfold maxLen; omega
  refine (twin_any rl0 ll0 (fun x hx => ⟨(ok0 x hx).n0, (ok0 x hx).n1⟩) rl1 ll1 (fun x hx => ⟨(ok1 x hx).n0, (ok1 x hx).n1⟩)).mono fun e W' ⟨he, hb⟩ => ?_
  subst he
  exact ⟨_, rfl, law_post laidOut_prog (by kernel_rfl) rfl Tryz.underlying4 rfl rfl rfl rfl hW' hb⟩

theorem over : Rows.shardTwinRow.holds Tryz.pinned (OpenSpec.ofChange Rows.shardTwinSpec) :=
  OpenClaim.holds_of_wide 8 Tryz.f8 rfl rfl rfl rfl rfl rfl rfl ⟨rfl, rfl, rfl, rfl, rfl⟩ rfl rfl rfl rfl rfl (by kernel_rfl) Tryz.func8 (by kernel_rfl)
    (of_decide_eq_true (by kernel_rfl)) (by unfold Func.isWrapper; first | (rw [if_pos (by decide +kernel)]; kernel_rfl) | (rw [if_neg (by decide +kernel)]; exact ⟨rfl, rfl⟩))
    (fun os started H enc _ => lifted os started H enc)

theorem proved : Rows.ShardTwinSaid :=
  over
#print axioms proved
end Go.Proofs.YtnjfjdfjheiocaaGreat.shardTwin
