/-
  meterlaw04.MsgSame, out of both Sames.
-/
import Derived.Test.YtmmhchpilcjflaaMsgQi
import Derived.Test.YtmmhchpilcjflaaMsgGt
import Derived.Test.YtmmhchpilcjflaaMsgQa
set_option linter.unusedSimpArgs false
set_option linter.unusedVariables false
namespace Go.Proofs.Ytmmhchpilcjflaa
open Go.RowKit

theorem sameB_self (a : PMsg) : sameB a a = true := by
  have h1 : ∀ l : List UInt8, (l == l) = true := fun l => by simp
  simp [sameB]

theorem load_yields {P : Program} {o : Oper} {a : Act} {w : World} {ty : TypeId} {x : Operand} {g : Nat} {t : TypeId} {cs : Array Value} {fr : Nat × Nat} {d : TypeDesc} (ho : o.op = .load ty x) (hx : a.eval x = .pointer (some ⟨g, 0, none⟩))
    (hg : w.heap[g]? = some (.cells cs t fr)) (hu : P.underlying ty = some d) (hd : (match d with | .struct _ | .array _ _ => true | _ => false) = true) (hi : (P.info? ty).map (·.size) = some cs.size) :
    (execOp a.eval o).run P w = .ok (.value (.agg cs)) w := by
  unfold execOp
  simp only [ho, hx, Instr.loadAt, Instr.sureAddr, Sem.run_bind, Sem.run_pure, Result.andThen_ok, run_loadVar_row w g t ty cs fr d hg hu hd hi]
theorem wpList_load_row_gd {P : Program} {ops : Array Oper} {rest : List Oper} {o : Oper} {a : Act} {w : World} {Q : Exit → Act → World → Prop} (hw : Region.wanted o (yielded ops a.tmps) = true) (ty : TypeId) (x : Operand) (ho : o.op = .load ty x)
    (g : Nat) (hx : a.eval x = .pointer (some ⟨g, 0, none⟩)) (t : TypeId) (cs : Array Value) (fr : Nat × Nat) (d : TypeDesc) (hg : w.heap[g]? = some (.cells cs t fr))
    (hu : P.underlying ty = some d) (hd : (match d with | .struct _ | .array _ _ => true | _ => false) = true) (hi : (P.info? ty).map (·.size) = some cs.size)
    (h : wpList P ops Q rest (a.put o.dst (.agg cs)) w) : wpList P ops Q (o :: rest) a w :=
  wpList_step fun K hK => by
    rw [if_pos hw]
    exact wp_load_row ty x ho g hx t cs fr d hg hu hd hi (hK _ _ h)
section
variable {W : World} {a b : PMsg} {ao aS bo bs : Value}
set_option maxHeartbeats 4000000 in
set_option maxRecDepth 100000 in
theorem same_law (ref : ∀ w : World, Rd w ao a.owner → Rd w aS a.set → Rd w bo b.owner → Rd w bs b.set → greatB a = false → greatB b = false →
      Calls Try.prog 14 #[.agg (mcells a ao aS), .agg (mcells b bo bs)] w fun e W' => e = .returned (.bool (sameB a b)) ∧ Below w.heap.size w W')
    (h1 : Rd W ao a.owner) (h2 : Rd W aS a.set) (h3 : Rd W bo b.owner) (h4 : Rd W bs b.set)
    (l1 : a.owner.length ≤ 9223372036854775807) (l2 : a.set.length ≤ 9223372036854775807) (l3 : b.owner.length ≤ 9223372036854775807) (l4 : b.set.length ≤ 9223372036854775807) :
    Calls Try.prog 3 #[.agg (mcells a ao aS), .agg (mcells b bo bs)] W fun e W' => e = .returned (.bool true) ∧ Below W.heap.size W W' := by
  have hL := ((Live.init W).alloc (mcells a ao aS) 29).alloc (mcells b bo bs) 29
  have hs1 : ∀ (w : World) (o : Obj), (w.alloc o).heap.size = w.heap.size + 1 := fun w o => by simp
  simp only [hs1] at hL
  have K1 : ∀ w, Below W.heap.size W w → Rd w ao a.owner := fun w hb => h1.kept fun k hk => hb.block k hk
  have K2 : ∀ w, Below W.heap.size W w → Rd w aS a.set := fun w hb => h2.kept fun k hk => hb.block k hk
  have K3 : ∀ w, Below W.heap.size W w → Rd w bo b.owner := fun w hb => h3.kept fun k hk => hb.block k hk
  have K4 : ∀ w, Below W.heap.size W w → Rd w bs b.set := fun w hb => h4.kept fun k hk => hb.block k hk
  have hga : ∀ w, Below W.heap.size W w → Calls Try.prog 12 #[.agg (mcells a ao aS)] w fun e W' => e = .returned (.bool (greatB a)) ∧ Below w.heap.size w W' := fun w hb => Great_any (K1 w hb) (K2 w hb) l1 l2
  have hgb : ∀ w, Below W.heap.size W w → Calls Try.prog 12 #[.agg (mcells b bo bs)] w fun e W' => e = .returned (.bool (greatB b)) ∧ Below w.heap.size w W' := fun w hb => Great_any (K3 w hb) (K4 w hb) l3 l4
  have hab : ∀ w, Below W.heap.size W w → Calls Try.prog 13 #[.agg (mcells a ao aS), .agg (mcells b bo bs)] w fun e W' => e = .returned (.bool (sameB a b)) ∧ Below w.heap.size w W' := fun w hb => Same_any (K1 w hb) (K2 w hb) (K3 w hb) (K4 w hb) l1 l2 l3 l4
  have haa : ∀ w, Below W.heap.size W w → Calls Try.prog 13 #[.agg (mcells a ao aS), .agg (mcells a ao aS)] w fun e W' => e = .returned (.bool true) ∧ Below w.heap.size w W' := fun w hb => by
    have h := Same_any (K1 w hb) (K2 w hb) (K1 w hb) (K2 w hb) l1 l2 l1 l2
    rw [sameB_self] at h
    exact h
  have href : ∀ w, Below W.heap.size W w → greatB a = false → greatB b = false → Calls Try.prog 14 #[.agg (mcells a ao aS), .agg (mcells b bo bs)] w fun e W' => e = .returned (.bool (sameB a b)) ∧ Below w.heap.size w W' := fun w hb => ref w (K1 w hb) (K2 w hb) (K3 w hb) (K4 w hb)
  clear ref h1 h2 h3 h4 l1 l2 l3 l4 K1 K2 K3 K4
  go_enter Try.func3, Try.ntmps3
  go_wp2_with fail
  refine awake_ok.mono ?_
  rintro e W1 ⟨rfl, hb1⟩
  have h1 := hL.call hb1
  have ha1 := h1.tail.at_
  go_wp2_with (refine wpList_load_row rfl 29 (.tmp 2) rfl W.heap.size rfl 29 (mcells a ao aS) (0, 0) _ ha1 Try.underlying29 rfl (mcells_info _ _ _) ?_)
  refine Calls.mono (hga W1 h1.1) ?_
  rintro e W2 ⟨rfl, hb2⟩
  have h2 := h1.call hb2
  have hb2' := h2.at_
  cases ea : greatB a
  · go_wp2_with (refine wpList_load_row_gd (by rfl) 29 (.tmp 3) rfl (W.heap.size + 1) rfl 29 (mcells b bo bs) (0, 0) _ hb2' Try.underlying29 rfl (mcells_info _ _ _) ?_)
    refine Calls.mono (hgb W2 h2.1) ?_
    rintro e W3 ⟨rfl, hb3⟩
    have h3 := h2.call hb3
    cases eb : greatB b
    · clear h1 h2 hb1 hb2 hb3 ha1 hb2' hL hga hgb
      go_wp2_with fail
      refine wp_region_held_drew (S := fun w' => Live W [(W.heap.size + 1, (mcells b bo bs), 29), (W.heap.size, (mcells a ao aS), 29)] w') (by kernel_rfl) h3.drew (fun hHeld => ?_)
      refine take_at (i := 0) (v := .agg (mcells a ao aS)) rfl rfl (by kernel_rfl) (by kernel_rfl) (by kernel_rfl) (fun _ _ _ h => h) (Or.inl ⟨by rfl, ?_⟩) (by assumption) ?_
      · intro w hSw
        exact load_yields rfl rfl (hSw.tail.at_) Try.underlying29 rfl (mcells_info _ _ _)
      simp only [Act.put, List.setIfInBounds_toArray, List.set_cons_zero, List.set_cons_succ]
      refine take_at (i := 1) (v := .agg (mcells b bo bs)) rfl rfl (by kernel_rfl) (by kernel_rfl) (by kernel_rfl) (fun _ _ _ h => h) (Or.inl ⟨by rfl, ?_⟩) (by assumption) ?_
      · intro w hSw
        exact load_yields rfl rfl (hSw.at_) Try.underlying29 rfl (mcells_info _ _ _)
      simp only [Act.put, List.setIfInBounds_toArray, List.set_cons_zero, List.set_cons_succ]
      refine take_at (i := 3) (v := .agg (mcells a ao aS)) rfl rfl (by kernel_rfl) (by kernel_rfl) (by kernel_rfl) (fun _ _ _ h => h) (Or.inl ⟨by rfl, ?_⟩) (by assumption) ?_
      · intro w hSw
        exact load_yields rfl rfl (hSw.tail.at_) Try.underlying29 rfl (mcells_info _ _ _)
      simp only [Act.put, List.setIfInBounds_toArray, List.set_cons_zero, List.set_cons_succ]
      refine take_at (i := 4) (v := .agg (mcells b bo bs)) rfl rfl (by kernel_rfl) (by kernel_rfl) (by kernel_rfl) (fun _ _ _ h => h) (Or.inl ⟨by rfl, ?_⟩) (by assumption) ?_
      · intro w hSw
        exact load_yields rfl rfl (hSw.at_) Try.underlying29 rfl (mcells_info _ _ _)
      simp only [Act.put, List.setIfInBounds_toArray, List.set_cons_zero, List.set_cons_succ]
      refine step_at (i := 2) (by kernel_rfl) rfl rfl (by rfl) (fun K hK => ?_)
      go_simp
      refine Calls.mono (hab _ hHeld.1) ?_
      rintro e w' ⟨rfl, hb⟩
      have hHeld2 := hHeld.call hb
      refine hK.out _ _ hHeld2 (fun hHeld3 => ?_)
      clear hK K hb hHeld
      have hHeld := hHeld2
      clear hHeld2 hHeld3
      simp only [Act.put, List.setIfInBounds_toArray, List.set_cons_zero, List.set_cons_succ]
      refine step_at (i := 5) (by kernel_rfl) rfl rfl (by rfl) (fun K hK => ?_)
      go_simp
      refine Calls.mono (href _ hHeld.1 ea eb) ?_
      rintro e w' ⟨rfl, hb⟩
      have hHeld2 := hHeld.call hb
      refine hK.out _ _ hHeld2 (fun hHeld3 => ?_)
      clear hK K hb hHeld
      have hHeld := hHeld2
      clear hHeld2 hHeld3
      simp only [Act.put, List.setIfInBounds_toArray, List.set_cons_zero, List.set_cons_succ]
      refine take_at (i := 6) (v := .bool true) rfl rfl (by kernel_rfl) (by kernel_rfl) (by kernel_rfl) (fun _ _ _ h => h) (Or.inl ⟨by rfl, ?_⟩) (by assumption) ?_
      · (intro w hSw; go_simp; try with_reducible rfl)
      simp only [Act.put, List.setIfInBounds_toArray, List.set_cons_zero, List.set_cons_succ]
      refine take_at (i := 7) (v := .bool true) rfl rfl (by kernel_rfl) (by kernel_rfl) (by kernel_rfl) (fun _ _ _ h => h) (Or.inl ⟨by rfl, ?_⟩) (by assumption) ?_
      · (intro w hSw; go_simp; try with_reducible rfl)
      simp only [Act.put, List.setIfInBounds_toArray, List.set_cons_zero, List.set_cons_succ]
      refine take_at (i := 8) (v := .agg (mcells a ao aS)) rfl rfl (by kernel_rfl) (by kernel_rfl) (by kernel_rfl) (fun _ _ _ h => h) (Or.inl ⟨by rfl, ?_⟩) (by assumption) ?_
      · intro w hSw
        exact load_yields rfl rfl (hSw.tail.at_) Try.underlying29 rfl (mcells_info _ _ _)
      simp only [Act.put, List.setIfInBounds_toArray, List.set_cons_zero, List.set_cons_succ]
      refine take_at (i := 9) (v := .agg (mcells a ao aS)) rfl rfl (by kernel_rfl) (by kernel_rfl) (by kernel_rfl) (fun _ _ _ h => h) (Or.inl ⟨by rfl, ?_⟩) (by assumption) ?_
      · intro w hSw
        exact load_yields rfl rfl (hSw.tail.at_) Try.underlying29 rfl (mcells_info _ _ _)
      simp only [Act.put, List.setIfInBounds_toArray, List.set_cons_zero, List.set_cons_succ]
      refine step_at (i := 10) (by kernel_rfl) rfl rfl (by rfl) (fun K hK => ?_)
      go_simp
      refine Calls.mono (haa _ hHeld.1) ?_
      rintro e w' ⟨rfl, hb⟩
      have hHeld2 := hHeld.call hb
      refine hK.out _ _ hHeld2 (fun hHeld3 => ?_)
      clear hK K hb hHeld
      have hHeld := hHeld2
      clear hHeld2 hHeld3
      simp only [Act.put, List.setIfInBounds_toArray, List.set_cons_zero, List.set_cons_succ]
      refine take_at (i := 11) (v := .bool true) rfl rfl (by kernel_rfl) (by kernel_rfl) (by kernel_rfl) (fun _ _ _ h => h) (Or.inl ⟨by rfl, ?_⟩) (by assumption) ?_
      · (intro w hSw; go_simp; try with_reducible rfl)
      simp only [Act.put, List.setIfInBounds_toArray, List.set_cons_zero, List.set_cons_succ]
      refine take_at (i := 12) (v := .bool true) rfl rfl (by kernel_rfl) (by kernel_rfl) (by kernel_rfl) (fun _ _ _ h => h) (Or.inl ⟨by rfl, ?_⟩) (by assumption) ?_
      · (intro w hSw; go_simp; try with_reducible rfl)
      simp only [Act.put, List.setIfInBounds_toArray, List.set_cons_zero, List.set_cons_succ]
      refine wpAnyH_done (by kernel_rfl) ?_ _
      go_wp2
      go_ret
      exact ⟨rfl, hHeld.1⟩
    · go_wp2
      go_ret
      exact ⟨rfl, h3.1⟩
  · go_wp2
    go_ret
    exact ⟨rfl, h2.1⟩
end
end Go.Proofs.Ytmmhchpilcjflaa
