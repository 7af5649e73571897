/-
  The law AggJoins: the walk. Printed by genJoins.py.
-/
import Derived.Test.YtoiakejagmeliaaAggSt
import Derived.Test.YtoiakejagmeliaaAggPure
import Derived.Test.YtoiakejagmeliaaMemT
import Derived.Deep.RegionHeld3
import Derived.Deep.QuietTactic
import Derived.BigQuiet
import Derived.Deep.DeepCutAuto
set_option linter.unusedSimpArgs false
set_option linter.unusedVariables false
namespace Go.Proofs.Ytoiakejagmeliaa
open Go.RowKit
attribute [local go_sem ↓] run_eq_agg

theorem joins_facts {k l m : List Int} {a b c ab x bc y : A8} (Ha : Hid (of8 k = a)) (Hb : Hid (of8 l = b)) (Hc : Hid (of8 m = c)) (Hab : Hid (join8 a b = ab)) (Hx : Hid (join8 ab c = x)) (Hbc : Hid (join8 b c = bc)) (Hy : Hid (join8 a bc = y))
    (r0 : ∀ x, x ∈ k → R64 x) (r1 : ∀ x, x ∈ l → R64 x) (r2 : ∀ x, x ∈ m → R64 x) (hlen : k.length ≤ 300 ∧ l.length ≤ 300 ∧ m.length ≤ 300) :
    Hid (join8 a A8.zero = a) ∧ Hid (join8 A8.zero a = a) ∧ Hid (x.c = y.c ∧ x.mn = y.mn ∧ x.mx = y.mx ∧ x.h0 = y.h0 ∧ x.h1 = y.h1 ∧ x.h2 = y.h2 ∧ x.h3 = y.h3) ∧ Hid (rightB x = true) ∧ Hid (rightB y = true) := by
  have Ia : IsOf k a := Ha ▸ isOf_of8 k (by omega)
  have Ib : IsOf l b := Hb ▸ isOf_of8 l (by omega)
  have Ic : IsOf m c := Hc ▸ isOf_of8 m (by omega)
  have za : k = [] → a.s = 0 := fun e => by rw [← Ha.out, e]; rfl
  have zb : l = [] → b.s = 0 := fun e => by rw [← Hb.out, e]; rfl
  have zc : m = [] → c.s = 0 := fun e => by rw [← Hc.out, e]; rfl
  have oa : a.ok := Ha ▸ of8_ok k r0
  have Iab := right_join Ia Ib za zb (by omega)
  have Ibc := right_join Ib Ic zb zc (by omega)
  rw [Hab.out] at Iab
  rw [Hbc.out] at Ibc
  have Ix := right_join Iab.1 Ic Iab.2 zc (by simp; omega)
  have Iy := right_join Ia Ibc.1 za Ibc.2 (by simp; omega)
  rw [Hx.out] at Ix
  rw [Hy.out] at Iy
  have hz := join8_zero Ia oa
  exact ⟨hz, (join8_comm _ _).trans hz, Ix.1.same Iy.1 (by rw [List.append_assoc]), right_isOf Ix.1 (by simp; omega) Ix.2, right_isOf Iy.1 (by simp; omega) Iy.2⟩

theorem wpAnyH_blk {P : Program} {ops : Array Oper} {Q : Exit → Act → World → Prop} {md : Region.Mode} {S : World → Prop} {fuel : Nat} {listed : Array Bool} {a : Act} {w w0 : World} {L : List (Nat × Array Value)} {g : Nat} {o : Obj}
    (h : w.heap[g]? = some o) (h' : St w0 L w) (k : ∀ w : World, w.heap[g]? = some o → St w0 L w → wpAnyH P md ops Q S fuel listed a w) : wpAnyH P md ops Q S fuel listed a w := k w h h'

set_option maxRecDepth 100000 in
set_option maxHeartbeats 2000000 in
theorem joins_law (v0 v1 v2 : Value) (k l m : List Int) (W0 : World) (h0 : SliceOf W0 v0 k) (h1 : SliceOf W0 v1 l) (h2 : SliceOf W0 v2 m) (l0 : k.length ≤ maxLen) (l1 : l.length ≤ maxLen) (l2 : m.length ≤ maxLen)
    (r0 : ∀ x, x ∈ k → R64 x) (r1 : ∀ x, x ∈ l → R64 x) (r2 : ∀ x, x ∈ m → R64 x) :
    Calls Try.prog 9 #[v0, v1, v2] W0 fun e w' => e = .returned (.bool true) ∧ Below W0.heap.size W0 w' := by
  obtain ⟨s0, c0, hv⟩ := h0.form
  subst hv
  have HS0 := Lib.hid h0
  clear h0
  obtain ⟨s1, c1, hv⟩ := h1.form
  subst hv
  have HS1 := Lib.hid h1
  clear h1
  obtain ⟨s2, c2, hv⟩ := h2.form
  subst hv
  have HS2 := Lib.hid h2
  clear h2
  unfold maxLen at *
  by_cases hbig : 300 < k.length ∨ 300 < l.length ∨ 300 < m.length
  · have HB := Lib.hid (Below.refl W0.heap.size W0)
    rcases (by omega : 300 < k.length ∨ (k.length ≤ 300 ∧ 300 < l.length) ∨ (k.length ≤ 300 ∧ l.length ≤ 300 ∧ 300 < m.length)) with hb0 | ⟨hb0, hb1⟩ | ⟨hb0, hb1, hb2⟩
    all_goals
      clear hbig
      go_enter Try.func9, Try.ntmps9
      go_wp2_with (go_at_call 18; refine (wakes_any _).mono ?_; rintro e w1 ⟨rfl, hbel⟩)
      go_ret
      exact ⟨rfl, hbel⟩
  · have hk : k.length ≤ 300 := by omega
    have hl : l.length ≤ 300 := by omega
    have hm : m.length ≤ 300 := by omega
    clear hbig
    obtain ⟨a, Ha⟩ : ∃ a : A8, Hid (of8 k = a) := ⟨_, rfl⟩
    obtain ⟨b, Hb⟩ : ∃ b : A8, Hid (of8 l = b) := ⟨_, rfl⟩
    obtain ⟨c, Hc⟩ : ∃ c : A8, Hid (of8 m = c) := ⟨_, rfl⟩
    obtain ⟨ab, Hab⟩ : ∃ ab : A8, Hid (join8 a b = ab) := ⟨_, rfl⟩
    obtain ⟨x, Hx⟩ : ∃ x : A8, Hid (join8 ab c = x) := ⟨_, rfl⟩
    obtain ⟨bc, Hbc⟩ : ∃ bc : A8, Hid (join8 b c = bc) := ⟨_, rfl⟩
    obtain ⟨y, Hy⟩ : ∃ y : A8, Hid (join8 a bc = y) := ⟨_, rfl⟩
    have Hba : Hid (join8 b a = ab) := (join8_comm b a).trans Hab
    have Hz : Hid (join8 c ab = x) := (join8_comm c ab).trans Hx
    obtain ⟨HaZ, HZa, Hxy, Rx, Ry⟩ := joins_facts Ha Hb Hc Hab Hx Hbc Hy r0 r1 r2 (by omega)
    have HZ : Hid (of8 [] = A8.zero) := rfl
    clear r0 r1 r2
    have HST := Lib.hid (St.init W0)
    go_enter Try.func9, Try.ntmps9
    go_wp2_with fail
    refine (of_list (HST.out.list HS0.out) (by omega)).mono ?_
    rintro e u0 ⟨rfl, hb⟩
    rw [Ha.out]
    have hST := (HST.out.call hb).alloc #[.int .i64 a.c, .int .i64 a.s, .int .i64 a.mn, .int .i64 a.mx, .int .i64 a.h0, .int .i64 a.h1, .int .i64 a.h2, .int .i64 a.h3]
    clear HST hb
    have HST := Lib.hid hST
    clear hST
    unfold A8.arr
    dsimp only
    go_wp2_with fail
    refine (of_list (HST.out.list HS1.out) (by omega)).mono ?_
    rintro e u1 ⟨rfl, hb⟩
    rw [Hb.out]
    have hST := (HST.out.call hb).alloc #[.int .i64 b.c, .int .i64 b.s, .int .i64 b.mn, .int .i64 b.mx, .int .i64 b.h0, .int .i64 b.h1, .int .i64 b.h2, .int .i64 b.h3]
    clear HST hb
    have HST := Lib.hid hST
    clear hST
    unfold A8.arr
    dsimp only
    go_wp2_with fail
    refine (of_list (HST.out.list HS2.out) (by omega)).mono ?_
    rintro e u2 ⟨rfl, hb⟩
    rw [Hc.out]
    have hST := (HST.out.call hb).alloc #[.int .i64 c.c, .int .i64 c.s, .int .i64 c.mn, .int .i64 c.mx, .int .i64 c.h0, .int .i64 c.h1, .int .i64 c.h2, .int .i64 c.h3]
    clear HST hb
    have HST := Lib.hid hST
    clear hST
    unfold A8.arr
    dsimp only
    go_wp2_with fail
    generalize hV : World.alloc u2 _ = V0 at HST ⊢
    clear hV
    go_upto_region 6 with fail
    go_cut [10] (fun v w => ∃ g : Nat, v = .pointer (some ⟨g, 0, none⟩) ∧ St W0 ((g, #[.int .i64 x.c, .int .i64 x.s, .int .i64 x.mn, .int .i64 x.mx, .int .i64 x.h0, .int .i64 x.h1, .int .i64 x.h2, .int .i64 x.h3]) :: [(u2.heap.size, #[.int .i64 c.c, .int .i64 c.s, .int .i64 c.mn, .int .i64 c.mx, .int .i64 c.h0, .int .i64 c.h1, .int .i64 c.h2, .int .i64 c.h3]), (u1.heap.size, #[.int .i64 b.c, .int .i64 b.s, .int .i64 b.mn, .int .i64 b.mx, .int .i64 b.h0, .int .i64 b.h1, .int .i64 b.h2, .int .i64 b.h3]), (u0.heap.size, #[.int .i64 a.c, .int .i64 a.s, .int .i64 a.mn, .int .i64 a.mx, .int .i64 a.h0, .int .i64 a.h1, .int .i64 a.h2, .int .i64 a.h3])]) w ∧ ∀ p : Nat × Array Value, p ∈ ([(u2.heap.size, #[.int .i64 c.c, .int .i64 c.s, .int .i64 c.mn, .int .i64 c.mx, .int .i64 c.h0, .int .i64 c.h1, .int .i64 c.h2, .int .i64 c.h3]), (u1.heap.size, #[.int .i64 b.c, .int .i64 b.s, .int .i64 b.mn, .int .i64 b.mx, .int .i64 b.h0, .int .i64 b.h1, .int .i64 b.h2, .int .i64 b.h3]), (u0.heap.size, #[.int .i64 a.c, .int .i64 a.s, .int .i64 a.mn, .int .i64 a.mx, .int .i64 a.h0, .int .i64 a.h1, .int .i64 a.h2, .int .i64 a.h3])] : List (Nat × Array Value)) → p.1 ≠ g)
    case first =>
      refine wp_region_held_drew (S := St W0 [(u2.heap.size, #[.int .i64 c.c, .int .i64 c.s, .int .i64 c.mn, .int .i64 c.mx, .int .i64 c.h0, .int .i64 c.h1, .int .i64 c.h2, .int .i64 c.h3]), (u1.heap.size, #[.int .i64 b.c, .int .i64 b.s, .int .i64 b.mn, .int .i64 b.mx, .int .i64 b.h0, .int .i64 b.h1, .int .i64 b.h2, .int .i64 b.h3]), (u0.heap.size, #[.int .i64 a.c, .int .i64 a.s, .int .i64 a.mn, .int .i64 a.mx, .int .i64 a.h0, .int .i64 a.h1, .int .i64 a.h2, .int .i64 a.h3])]) (by kernel_rfl) HST.out.drew (fun hHeld => ?_)
      refine take_at (i := 0) (v := ?_) rfl rfl (by kernel_rfl) (by kernel_rfl) (by kernel_rfl) (fun _ _ _ h => h) (Or.inl ⟨by rfl, ?_⟩) (by assumption) ?_
      rotate_left; (intro w hSw; have hcc := hSw.cells (u2.heap.size) #[.int .i64 c.c, .int .i64 c.s, .int .i64 c.mn, .int .i64 c.mx, .int .i64 c.h0, .int .i64 c.h1, .int .i64 c.h2, .int .i64 c.h3] (by simp); have hcb := hSw.cells (u1.heap.size) #[.int .i64 b.c, .int .i64 b.s, .int .i64 b.mn, .int .i64 b.mx, .int .i64 b.h0, .int .i64 b.h1, .int .i64 b.h2, .int .i64 b.h3] (by simp); have hca := hSw.cells (u0.heap.size) #[.int .i64 a.c, .int .i64 a.s, .int .i64 a.mn, .int .i64 a.mx, .int .i64 a.h0, .int .i64 a.h1, .int .i64 a.h2, .int .i64 a.h3] (by simp); clear hSw; go_simp; try with_reducible rfl)
      simp only [Act.put, List.setIfInBounds_toArray, List.set_cons_zero, List.set_cons_succ]
      refine take_at (i := 1) (v := ?_) rfl rfl (by kernel_rfl) (by kernel_rfl) (by kernel_rfl) (fun _ _ _ h => h) (Or.inl ⟨by rfl, ?_⟩) (by assumption) ?_
      rotate_left; (intro w hSw; have hcc := hSw.cells (u2.heap.size) #[.int .i64 c.c, .int .i64 c.s, .int .i64 c.mn, .int .i64 c.mx, .int .i64 c.h0, .int .i64 c.h1, .int .i64 c.h2, .int .i64 c.h3] (by simp); have hcb := hSw.cells (u1.heap.size) #[.int .i64 b.c, .int .i64 b.s, .int .i64 b.mn, .int .i64 b.mx, .int .i64 b.h0, .int .i64 b.h1, .int .i64 b.h2, .int .i64 b.h3] (by simp); have hca := hSw.cells (u0.heap.size) #[.int .i64 a.c, .int .i64 a.s, .int .i64 a.mn, .int .i64 a.mx, .int .i64 a.h0, .int .i64 a.h1, .int .i64 a.h2, .int .i64 a.h3] (by simp); clear hSw; go_simp; try with_reducible rfl)
      simp only [Act.put, List.setIfInBounds_toArray, List.set_cons_zero, List.set_cons_succ]
      refine take_at (i := 3) (v := ?_) rfl rfl (by kernel_rfl) (by kernel_rfl) (by kernel_rfl) (fun _ _ _ h => h) (Or.inl ⟨by rfl, ?_⟩) (by assumption) ?_
      rotate_left; (intro w hSw; have hcc := hSw.cells (u2.heap.size) #[.int .i64 c.c, .int .i64 c.s, .int .i64 c.mn, .int .i64 c.mx, .int .i64 c.h0, .int .i64 c.h1, .int .i64 c.h2, .int .i64 c.h3] (by simp); have hcb := hSw.cells (u1.heap.size) #[.int .i64 b.c, .int .i64 b.s, .int .i64 b.mn, .int .i64 b.mx, .int .i64 b.h0, .int .i64 b.h1, .int .i64 b.h2, .int .i64 b.h3] (by simp); have hca := hSw.cells (u0.heap.size) #[.int .i64 a.c, .int .i64 a.s, .int .i64 a.mn, .int .i64 a.mx, .int .i64 a.h0, .int .i64 a.h1, .int .i64 a.h2, .int .i64 a.h3] (by simp); clear hSw; go_simp; try with_reducible rfl)
      simp only [Act.put, List.setIfInBounds_toArray, List.set_cons_zero, List.set_cons_succ]
      refine step2_at (i := 2) (j := 5) (by kernel_rfl) rfl rfl rfl rfl (by rfl) (by rfl) (fun K hK => ?_) (fun K hK => ?_)
      · go_simp
        refine (join_8 a b _).mono ?_
        rintro e w1 ⟨rfl, hb1⟩
        rw [Hab.out]
        unfold A8.arr
        dsimp only
        refine hK.out _ _ (hHeld.call hb1) (fun hHeld2 => ?_)
        clear hK K hHeld hb1
        have hHeld := hHeld2
        clear hHeld2
        simp only [Act.put, List.setIfInBounds_toArray, List.set_cons_zero, List.set_cons_succ]
        refine step2_at (i := 4) (j := 5) (by kernel_rfl) rfl rfl rfl rfl (by rfl) (by rfl) (fun K hK => ?_) (fun K hK => ?_)
        · go_simp
          refine (join_8 ab c _).mono ?_
          rintro e w1 ⟨rfl, hb1⟩
          rw [Hx.out]
          unfold A8.arr
          dsimp only
          refine hK.out _ _ (hHeld.call hb1) (fun hHeld2 => ?_)
          clear hK K hHeld hb1
          have hHeld := hHeld2
          clear hHeld2
          simp only [Act.put, List.setIfInBounds_toArray, List.set_cons_zero, List.set_cons_succ]
          refine step_at (i := 5) (by kernel_rfl) rfl rfl (by rfl) (fun K hK => ?_)
          go_simp
          obtain ⟨hgb, hg0, hne⟩ := hHeld.newblk #[.int .i64 0, .int .i64 0, .int .i64 0, .int .i64 0, .int .i64 0, .int .i64 0, .int .i64 0, .int .i64 0]
          try simp only [show ∀ w : World, w.drew.heap = w.heap from fun _ => rfl] at hgb hg0 hne
          refine hK.out _ _ (hHeld.other _) (fun hHeld2 => ?_)
          clear hK K hHeld
          simp only [Act.put, List.setIfInBounds_toArray, List.set_cons_zero, List.set_cons_succ]
          refine wpAnyH_blk (w0 := W0) hgb hHeld2 ?_
          clear hgb hHeld2
          intro wa hgb hHeld
          have hcz := cells_at hgb
          have hfz := thaw_at hgb
          have h8 := hHeld.store8 hgb hg0 hne (.int .i64 x.c) (.int .i64 x.s) (.int .i64 x.mn) (.int .i64 x.mx) (.int .i64 x.h0) (.int .i64 x.h1) (.int .i64 x.h2) (.int .i64 x.h3)
          refine wpAnyH_ready (rs := [6]) (by kernel_rfl) (by simp) (AllReadyH.cons rfl (fun K hK => ?_) AllReadyH.nil)
          go_simp
          clear hcz hfz
          refine hK.out _ _ h8.tail (fun hHeld2 => ?_)
          clear hK K hHeld hHeld2
          refine wpAnyH_done (by kernel_rfl) ?_ _
          go_wp2_with fail
          go_meet
          exact ⟨_, rfl, h8, hne⟩
        · go_simp
          obtain ⟨hgb, hg0, hne⟩ := hHeld.newblk #[.int .i64 0, .int .i64 0, .int .i64 0, .int .i64 0, .int .i64 0, .int .i64 0, .int .i64 0, .int .i64 0]
          try simp only [show ∀ w : World, w.drew.heap = w.heap from fun _ => rfl] at hgb hg0 hne
          refine hK.out _ _ (hHeld.other _) (fun hHeld2 => ?_)
          clear hK K hHeld
          simp only [Act.put, List.setIfInBounds_toArray, List.set_cons_zero, List.set_cons_succ]
          refine wpAnyH_blk (w0 := W0) hgb hHeld2 ?_
          clear hgb hHeld2
          intro wa hgb hHeld
          refine step_at (i := 4) (by kernel_rfl) rfl rfl (by rfl) (fun K hK => ?_)
          go_simp
          refine (join_8 ab c _).mono ?_
          rintro e w1 ⟨rfl, hb1⟩
          rw [Hx.out]
          unfold A8.arr
          dsimp only
          replace hgb := (hb1.block _ (blk_lt hgb)).trans hgb
          refine hK.out _ _ (hHeld.call hb1) (fun hHeld2 => ?_)
          clear hK K hHeld hb1
          have hHeld := hHeld2
          clear hHeld2
          simp only [Act.put, List.setIfInBounds_toArray, List.set_cons_zero, List.set_cons_succ]
          have hcz := cells_at hgb
          have hfz := thaw_at hgb
          have h8 := hHeld.store8 hgb hg0 hne (.int .i64 x.c) (.int .i64 x.s) (.int .i64 x.mn) (.int .i64 x.mx) (.int .i64 x.h0) (.int .i64 x.h1) (.int .i64 x.h2) (.int .i64 x.h3)
          refine wpAnyH_ready (rs := [6]) (by kernel_rfl) (by simp) (AllReadyH.cons rfl (fun K hK => ?_) AllReadyH.nil)
          go_simp
          clear hcz hfz
          refine hK.out _ _ h8.tail (fun hHeld2 => ?_)
          clear hK K hHeld hHeld2
          refine wpAnyH_done (by kernel_rfl) ?_ _
          go_wp2_with fail
          go_meet
          exact ⟨_, rfl, h8, hne⟩
      · go_simp
        obtain ⟨hgb, hg0, hne⟩ := hHeld.newblk #[.int .i64 0, .int .i64 0, .int .i64 0, .int .i64 0, .int .i64 0, .int .i64 0, .int .i64 0, .int .i64 0]
        try simp only [show ∀ w : World, w.drew.heap = w.heap from fun _ => rfl] at hgb hg0 hne
        refine hK.out _ _ (hHeld.other _) (fun hHeld2 => ?_)
        clear hK K hHeld
        simp only [Act.put, List.setIfInBounds_toArray, List.set_cons_zero, List.set_cons_succ]
        refine wpAnyH_blk (w0 := W0) hgb hHeld2 ?_
        clear hgb hHeld2
        intro wa hgb hHeld
        refine step_at (i := 2) (by kernel_rfl) rfl rfl (by rfl) (fun K hK => ?_)
        go_simp
        refine (join_8 a b _).mono ?_
        rintro e w1 ⟨rfl, hb1⟩
        rw [Hab.out]
        unfold A8.arr
        dsimp only
        replace hgb := (hb1.block _ (blk_lt hgb)).trans hgb
        refine hK.out _ _ (hHeld.call hb1) (fun hHeld2 => ?_)
        clear hK K hHeld hb1
        have hHeld := hHeld2
        clear hHeld2
        simp only [Act.put, List.setIfInBounds_toArray, List.set_cons_zero, List.set_cons_succ]
        refine step_at (i := 4) (by kernel_rfl) rfl rfl (by rfl) (fun K hK => ?_)
        go_simp
        refine (join_8 ab c _).mono ?_
        rintro e w1 ⟨rfl, hb1⟩
        rw [Hx.out]
        unfold A8.arr
        dsimp only
        replace hgb := (hb1.block _ (blk_lt hgb)).trans hgb
        refine hK.out _ _ (hHeld.call hb1) (fun hHeld2 => ?_)
        clear hK K hHeld hb1
        have hHeld := hHeld2
        clear hHeld2
        simp only [Act.put, List.setIfInBounds_toArray, List.set_cons_zero, List.set_cons_succ]
        have hcz := cells_at hgb
        have hfz := thaw_at hgb
        have h8 := hHeld.store8 hgb hg0 hne (.int .i64 x.c) (.int .i64 x.s) (.int .i64 x.mn) (.int .i64 x.mx) (.int .i64 x.h0) (.int .i64 x.h1) (.int .i64 x.h2) (.int .i64 x.h3)
        refine wpAnyH_ready (rs := [6]) (by kernel_rfl) (by simp) (AllReadyH.cons rfl (fun K hK => ?_) AllReadyH.nil)
        go_simp
        clear hcz hfz
        refine hK.out _ _ h8.tail (fun hHeld2 => ?_)
        clear hK K hHeld hHeld2
        refine wpAnyH_done (by kernel_rfl) ?_ _
        go_wp2_with fail
        go_meet
        exact ⟨_, rfl, h8, hne⟩
    case rest =>
      obtain ⟨gx, rfl, hST, hnex⟩ := hcut
      have HST := Lib.hid hST
      have Hnex := Lib.hid hnex
      clear hST hnex
      go_upto_region 7 with fail
      go_cut [11] (fun v w => ∃ g : Nat, v = .pointer (some ⟨g, 0, none⟩) ∧ St W0 ((g, #[.int .i64 y.c, .int .i64 y.s, .int .i64 y.mn, .int .i64 y.mx, .int .i64 y.h0, .int .i64 y.h1, .int .i64 y.h2, .int .i64 y.h3]) :: [(gx, #[.int .i64 x.c, .int .i64 x.s, .int .i64 x.mn, .int .i64 x.mx, .int .i64 x.h0, .int .i64 x.h1, .int .i64 x.h2, .int .i64 x.h3]), (u2.heap.size, #[.int .i64 c.c, .int .i64 c.s, .int .i64 c.mn, .int .i64 c.mx, .int .i64 c.h0, .int .i64 c.h1, .int .i64 c.h2, .int .i64 c.h3]), (u1.heap.size, #[.int .i64 b.c, .int .i64 b.s, .int .i64 b.mn, .int .i64 b.mx, .int .i64 b.h0, .int .i64 b.h1, .int .i64 b.h2, .int .i64 b.h3]), (u0.heap.size, #[.int .i64 a.c, .int .i64 a.s, .int .i64 a.mn, .int .i64 a.mx, .int .i64 a.h0, .int .i64 a.h1, .int .i64 a.h2, .int .i64 a.h3])]) w ∧ ∀ p : Nat × Array Value, p ∈ ([(gx, #[.int .i64 x.c, .int .i64 x.s, .int .i64 x.mn, .int .i64 x.mx, .int .i64 x.h0, .int .i64 x.h1, .int .i64 x.h2, .int .i64 x.h3]), (u2.heap.size, #[.int .i64 c.c, .int .i64 c.s, .int .i64 c.mn, .int .i64 c.mx, .int .i64 c.h0, .int .i64 c.h1, .int .i64 c.h2, .int .i64 c.h3]), (u1.heap.size, #[.int .i64 b.c, .int .i64 b.s, .int .i64 b.mn, .int .i64 b.mx, .int .i64 b.h0, .int .i64 b.h1, .int .i64 b.h2, .int .i64 b.h3]), (u0.heap.size, #[.int .i64 a.c, .int .i64 a.s, .int .i64 a.mn, .int .i64 a.mx, .int .i64 a.h0, .int .i64 a.h1, .int .i64 a.h2, .int .i64 a.h3])] : List (Nat × Array Value)) → p.1 ≠ g)
      case first =>
        refine wp_region_held_drew (S := St W0 [(gx, #[.int .i64 x.c, .int .i64 x.s, .int .i64 x.mn, .int .i64 x.mx, .int .i64 x.h0, .int .i64 x.h1, .int .i64 x.h2, .int .i64 x.h3]), (u2.heap.size, #[.int .i64 c.c, .int .i64 c.s, .int .i64 c.mn, .int .i64 c.mx, .int .i64 c.h0, .int .i64 c.h1, .int .i64 c.h2, .int .i64 c.h3]), (u1.heap.size, #[.int .i64 b.c, .int .i64 b.s, .int .i64 b.mn, .int .i64 b.mx, .int .i64 b.h0, .int .i64 b.h1, .int .i64 b.h2, .int .i64 b.h3]), (u0.heap.size, #[.int .i64 a.c, .int .i64 a.s, .int .i64 a.mn, .int .i64 a.mx, .int .i64 a.h0, .int .i64 a.h1, .int .i64 a.h2, .int .i64 a.h3])]) (by kernel_rfl) HST.out.drew (fun hHeld => ?_)
        refine take_at (i := 0) (v := ?_) rfl rfl (by kernel_rfl) (by kernel_rfl) (by kernel_rfl) (fun _ _ _ h => h) (Or.inl ⟨by rfl, ?_⟩) (by assumption) ?_
        rotate_left; (intro w hSw; have hcc := hSw.cells (u2.heap.size) #[.int .i64 c.c, .int .i64 c.s, .int .i64 c.mn, .int .i64 c.mx, .int .i64 c.h0, .int .i64 c.h1, .int .i64 c.h2, .int .i64 c.h3] (by simp); have hcb := hSw.cells (u1.heap.size) #[.int .i64 b.c, .int .i64 b.s, .int .i64 b.mn, .int .i64 b.mx, .int .i64 b.h0, .int .i64 b.h1, .int .i64 b.h2, .int .i64 b.h3] (by simp); have hca := hSw.cells (u0.heap.size) #[.int .i64 a.c, .int .i64 a.s, .int .i64 a.mn, .int .i64 a.mx, .int .i64 a.h0, .int .i64 a.h1, .int .i64 a.h2, .int .i64 a.h3] (by simp); clear hSw; go_simp; try with_reducible rfl)
        simp only [Act.put, List.setIfInBounds_toArray, List.set_cons_zero, List.set_cons_succ]
        refine take_at (i := 1) (v := ?_) rfl rfl (by kernel_rfl) (by kernel_rfl) (by kernel_rfl) (fun _ _ _ h => h) (Or.inl ⟨by rfl, ?_⟩) (by assumption) ?_
        rotate_left; (intro w hSw; have hcc := hSw.cells (u2.heap.size) #[.int .i64 c.c, .int .i64 c.s, .int .i64 c.mn, .int .i64 c.mx, .int .i64 c.h0, .int .i64 c.h1, .int .i64 c.h2, .int .i64 c.h3] (by simp); have hcb := hSw.cells (u1.heap.size) #[.int .i64 b.c, .int .i64 b.s, .int .i64 b.mn, .int .i64 b.mx, .int .i64 b.h0, .int .i64 b.h1, .int .i64 b.h2, .int .i64 b.h3] (by simp); have hca := hSw.cells (u0.heap.size) #[.int .i64 a.c, .int .i64 a.s, .int .i64 a.mn, .int .i64 a.mx, .int .i64 a.h0, .int .i64 a.h1, .int .i64 a.h2, .int .i64 a.h3] (by simp); clear hSw; go_simp; try with_reducible rfl)
        simp only [Act.put, List.setIfInBounds_toArray, List.set_cons_zero, List.set_cons_succ]
        refine take_at (i := 2) (v := ?_) rfl rfl (by kernel_rfl) (by kernel_rfl) (by kernel_rfl) (fun _ _ _ h => h) (Or.inl ⟨by rfl, ?_⟩) (by assumption) ?_
        rotate_left; (intro w hSw; have hcc := hSw.cells (u2.heap.size) #[.int .i64 c.c, .int .i64 c.s, .int .i64 c.mn, .int .i64 c.mx, .int .i64 c.h0, .int .i64 c.h1, .int .i64 c.h2, .int .i64 c.h3] (by simp); have hcb := hSw.cells (u1.heap.size) #[.int .i64 b.c, .int .i64 b.s, .int .i64 b.mn, .int .i64 b.mx, .int .i64 b.h0, .int .i64 b.h1, .int .i64 b.h2, .int .i64 b.h3] (by simp); have hca := hSw.cells (u0.heap.size) #[.int .i64 a.c, .int .i64 a.s, .int .i64 a.mn, .int .i64 a.mx, .int .i64 a.h0, .int .i64 a.h1, .int .i64 a.h2, .int .i64 a.h3] (by simp); clear hSw; go_simp; try with_reducible rfl)
        simp only [Act.put, List.setIfInBounds_toArray, List.set_cons_zero, List.set_cons_succ]
        refine step2_at (i := 3) (j := 5) (by kernel_rfl) rfl rfl rfl rfl (by rfl) (by rfl) (fun K hK => ?_) (fun K hK => ?_)
        · go_simp
          refine (join_8 b c _).mono ?_
          rintro e w1 ⟨rfl, hb1⟩
          rw [Hbc.out]
          unfold A8.arr
          dsimp only
          refine hK.out _ _ (hHeld.call hb1) (fun hHeld2 => ?_)
          clear hK K hHeld hb1
          have hHeld := hHeld2
          clear hHeld2
          simp only [Act.put, List.setIfInBounds_toArray, List.set_cons_zero, List.set_cons_succ]
          refine step2_at (i := 4) (j := 5) (by kernel_rfl) rfl rfl rfl rfl (by rfl) (by rfl) (fun K hK => ?_) (fun K hK => ?_)
          · go_simp
            refine (join_8 a bc _).mono ?_
            rintro e w1 ⟨rfl, hb1⟩
            rw [Hy.out]
            unfold A8.arr
            dsimp only
            refine hK.out _ _ (hHeld.call hb1) (fun hHeld2 => ?_)
            clear hK K hHeld hb1
            have hHeld := hHeld2
            clear hHeld2
            simp only [Act.put, List.setIfInBounds_toArray, List.set_cons_zero, List.set_cons_succ]
            refine step_at (i := 5) (by kernel_rfl) rfl rfl (by rfl) (fun K hK => ?_)
            go_simp
            obtain ⟨hgb, hg0, hne⟩ := hHeld.newblk #[.int .i64 0, .int .i64 0, .int .i64 0, .int .i64 0, .int .i64 0, .int .i64 0, .int .i64 0, .int .i64 0]
            try simp only [show ∀ w : World, w.drew.heap = w.heap from fun _ => rfl] at hgb hg0 hne
            refine hK.out _ _ (hHeld.other _) (fun hHeld2 => ?_)
            clear hK K hHeld
            simp only [Act.put, List.setIfInBounds_toArray, List.set_cons_zero, List.set_cons_succ]
            refine wpAnyH_blk (w0 := W0) hgb hHeld2 ?_
            clear hgb hHeld2
            intro wa hgb hHeld
            have hcz := cells_at hgb
            have hfz := thaw_at hgb
            have h8 := hHeld.store8 hgb hg0 hne (.int .i64 y.c) (.int .i64 y.s) (.int .i64 y.mn) (.int .i64 y.mx) (.int .i64 y.h0) (.int .i64 y.h1) (.int .i64 y.h2) (.int .i64 y.h3)
            refine wpAnyH_ready (rs := [6]) (by kernel_rfl) (by simp) (AllReadyH.cons rfl (fun K hK => ?_) AllReadyH.nil)
            go_simp
            clear hcz hfz
            refine hK.out _ _ h8.tail (fun hHeld2 => ?_)
            clear hK K hHeld hHeld2
            refine wpAnyH_done (by kernel_rfl) ?_ _
            go_wp2_with fail
            go_meet
            exact ⟨_, rfl, h8, hne⟩
          · go_simp
            obtain ⟨hgb, hg0, hne⟩ := hHeld.newblk #[.int .i64 0, .int .i64 0, .int .i64 0, .int .i64 0, .int .i64 0, .int .i64 0, .int .i64 0, .int .i64 0]
            try simp only [show ∀ w : World, w.drew.heap = w.heap from fun _ => rfl] at hgb hg0 hne
            refine hK.out _ _ (hHeld.other _) (fun hHeld2 => ?_)
            clear hK K hHeld
            simp only [Act.put, List.setIfInBounds_toArray, List.set_cons_zero, List.set_cons_succ]
            refine wpAnyH_blk (w0 := W0) hgb hHeld2 ?_
            clear hgb hHeld2
            intro wa hgb hHeld
            refine step_at (i := 4) (by kernel_rfl) rfl rfl (by rfl) (fun K hK => ?_)
            go_simp
            refine (join_8 a bc _).mono ?_
            rintro e w1 ⟨rfl, hb1⟩
            rw [Hy.out]
            unfold A8.arr
            dsimp only
            replace hgb := (hb1.block _ (blk_lt hgb)).trans hgb
            refine hK.out _ _ (hHeld.call hb1) (fun hHeld2 => ?_)
            clear hK K hHeld hb1
            have hHeld := hHeld2
            clear hHeld2
            simp only [Act.put, List.setIfInBounds_toArray, List.set_cons_zero, List.set_cons_succ]
            have hcz := cells_at hgb
            have hfz := thaw_at hgb
            have h8 := hHeld.store8 hgb hg0 hne (.int .i64 y.c) (.int .i64 y.s) (.int .i64 y.mn) (.int .i64 y.mx) (.int .i64 y.h0) (.int .i64 y.h1) (.int .i64 y.h2) (.int .i64 y.h3)
            refine wpAnyH_ready (rs := [6]) (by kernel_rfl) (by simp) (AllReadyH.cons rfl (fun K hK => ?_) AllReadyH.nil)
            go_simp
            clear hcz hfz
            refine hK.out _ _ h8.tail (fun hHeld2 => ?_)
            clear hK K hHeld hHeld2
            refine wpAnyH_done (by kernel_rfl) ?_ _
            go_wp2_with fail
            go_meet
            exact ⟨_, rfl, h8, hne⟩
        · go_simp
          obtain ⟨hgb, hg0, hne⟩ := hHeld.newblk #[.int .i64 0, .int .i64 0, .int .i64 0, .int .i64 0, .int .i64 0, .int .i64 0, .int .i64 0, .int .i64 0]
          try simp only [show ∀ w : World, w.drew.heap = w.heap from fun _ => rfl] at hgb hg0 hne
          refine hK.out _ _ (hHeld.other _) (fun hHeld2 => ?_)
          clear hK K hHeld
          simp only [Act.put, List.setIfInBounds_toArray, List.set_cons_zero, List.set_cons_succ]
          refine wpAnyH_blk (w0 := W0) hgb hHeld2 ?_
          clear hgb hHeld2
          intro wa hgb hHeld
          refine step_at (i := 3) (by kernel_rfl) rfl rfl (by rfl) (fun K hK => ?_)
          go_simp
          refine (join_8 b c _).mono ?_
          rintro e w1 ⟨rfl, hb1⟩
          rw [Hbc.out]
          unfold A8.arr
          dsimp only
          replace hgb := (hb1.block _ (blk_lt hgb)).trans hgb
          refine hK.out _ _ (hHeld.call hb1) (fun hHeld2 => ?_)
          clear hK K hHeld hb1
          have hHeld := hHeld2
          clear hHeld2
          simp only [Act.put, List.setIfInBounds_toArray, List.set_cons_zero, List.set_cons_succ]
          refine step_at (i := 4) (by kernel_rfl) rfl rfl (by rfl) (fun K hK => ?_)
          go_simp
          refine (join_8 a bc _).mono ?_
          rintro e w1 ⟨rfl, hb1⟩
          rw [Hy.out]
          unfold A8.arr
          dsimp only
          replace hgb := (hb1.block _ (blk_lt hgb)).trans hgb
          refine hK.out _ _ (hHeld.call hb1) (fun hHeld2 => ?_)
          clear hK K hHeld hb1
          have hHeld := hHeld2
          clear hHeld2
          simp only [Act.put, List.setIfInBounds_toArray, List.set_cons_zero, List.set_cons_succ]
          have hcz := cells_at hgb
          have hfz := thaw_at hgb
          have h8 := hHeld.store8 hgb hg0 hne (.int .i64 y.c) (.int .i64 y.s) (.int .i64 y.mn) (.int .i64 y.mx) (.int .i64 y.h0) (.int .i64 y.h1) (.int .i64 y.h2) (.int .i64 y.h3)
          refine wpAnyH_ready (rs := [6]) (by kernel_rfl) (by simp) (AllReadyH.cons rfl (fun K hK => ?_) AllReadyH.nil)
          go_simp
          clear hcz hfz
          refine hK.out _ _ h8.tail (fun hHeld2 => ?_)
          clear hK K hHeld hHeld2
          refine wpAnyH_done (by kernel_rfl) ?_ _
          go_wp2_with fail
          go_meet
          exact ⟨_, rfl, h8, hne⟩
      case rest =>
        obtain ⟨gy, rfl, hST, hney⟩ := hcut
        have HST := Lib.hid hST
        have Hney := Lib.hid hney
        clear hST hney
        go_upto_region 8 with fail
        go_cut [12] (fun v w => ∃ g : Nat, v = .pointer (some ⟨g, 0, none⟩) ∧ St W0 ((g, #[.int .i64 x.c, .int .i64 x.s, .int .i64 x.mn, .int .i64 x.mx, .int .i64 x.h0, .int .i64 x.h1, .int .i64 x.h2, .int .i64 x.h3]) :: [(gy, #[.int .i64 y.c, .int .i64 y.s, .int .i64 y.mn, .int .i64 y.mx, .int .i64 y.h0, .int .i64 y.h1, .int .i64 y.h2, .int .i64 y.h3]), (gx, #[.int .i64 x.c, .int .i64 x.s, .int .i64 x.mn, .int .i64 x.mx, .int .i64 x.h0, .int .i64 x.h1, .int .i64 x.h2, .int .i64 x.h3]), (u2.heap.size, #[.int .i64 c.c, .int .i64 c.s, .int .i64 c.mn, .int .i64 c.mx, .int .i64 c.h0, .int .i64 c.h1, .int .i64 c.h2, .int .i64 c.h3]), (u1.heap.size, #[.int .i64 b.c, .int .i64 b.s, .int .i64 b.mn, .int .i64 b.mx, .int .i64 b.h0, .int .i64 b.h1, .int .i64 b.h2, .int .i64 b.h3]), (u0.heap.size, #[.int .i64 a.c, .int .i64 a.s, .int .i64 a.mn, .int .i64 a.mx, .int .i64 a.h0, .int .i64 a.h1, .int .i64 a.h2, .int .i64 a.h3])]) w ∧ ∀ p : Nat × Array Value, p ∈ ([(gy, #[.int .i64 y.c, .int .i64 y.s, .int .i64 y.mn, .int .i64 y.mx, .int .i64 y.h0, .int .i64 y.h1, .int .i64 y.h2, .int .i64 y.h3]), (gx, #[.int .i64 x.c, .int .i64 x.s, .int .i64 x.mn, .int .i64 x.mx, .int .i64 x.h0, .int .i64 x.h1, .int .i64 x.h2, .int .i64 x.h3]), (u2.heap.size, #[.int .i64 c.c, .int .i64 c.s, .int .i64 c.mn, .int .i64 c.mx, .int .i64 c.h0, .int .i64 c.h1, .int .i64 c.h2, .int .i64 c.h3]), (u1.heap.size, #[.int .i64 b.c, .int .i64 b.s, .int .i64 b.mn, .int .i64 b.mx, .int .i64 b.h0, .int .i64 b.h1, .int .i64 b.h2, .int .i64 b.h3]), (u0.heap.size, #[.int .i64 a.c, .int .i64 a.s, .int .i64 a.mn, .int .i64 a.mx, .int .i64 a.h0, .int .i64 a.h1, .int .i64 a.h2, .int .i64 a.h3])] : List (Nat × Array Value)) → p.1 ≠ g)
        case first =>
          refine wp_region_held_drew (S := St W0 [(gy, #[.int .i64 y.c, .int .i64 y.s, .int .i64 y.mn, .int .i64 y.mx, .int .i64 y.h0, .int .i64 y.h1, .int .i64 y.h2, .int .i64 y.h3]), (gx, #[.int .i64 x.c, .int .i64 x.s, .int .i64 x.mn, .int .i64 x.mx, .int .i64 x.h0, .int .i64 x.h1, .int .i64 x.h2, .int .i64 x.h3]), (u2.heap.size, #[.int .i64 c.c, .int .i64 c.s, .int .i64 c.mn, .int .i64 c.mx, .int .i64 c.h0, .int .i64 c.h1, .int .i64 c.h2, .int .i64 c.h3]), (u1.heap.size, #[.int .i64 b.c, .int .i64 b.s, .int .i64 b.mn, .int .i64 b.mx, .int .i64 b.h0, .int .i64 b.h1, .int .i64 b.h2, .int .i64 b.h3]), (u0.heap.size, #[.int .i64 a.c, .int .i64 a.s, .int .i64 a.mn, .int .i64 a.mx, .int .i64 a.h0, .int .i64 a.h1, .int .i64 a.h2, .int .i64 a.h3])]) (by kernel_rfl) HST.out.drew (fun hHeld => ?_)
          refine take_at (i := 0) (v := ?_) rfl rfl (by kernel_rfl) (by kernel_rfl) (by kernel_rfl) (fun _ _ _ h => h) (Or.inl ⟨by rfl, ?_⟩) (by assumption) ?_
          rotate_left; (intro w hSw; have hcc := hSw.cells (u2.heap.size) #[.int .i64 c.c, .int .i64 c.s, .int .i64 c.mn, .int .i64 c.mx, .int .i64 c.h0, .int .i64 c.h1, .int .i64 c.h2, .int .i64 c.h3] (by simp); have hcb := hSw.cells (u1.heap.size) #[.int .i64 b.c, .int .i64 b.s, .int .i64 b.mn, .int .i64 b.mx, .int .i64 b.h0, .int .i64 b.h1, .int .i64 b.h2, .int .i64 b.h3] (by simp); have hca := hSw.cells (u0.heap.size) #[.int .i64 a.c, .int .i64 a.s, .int .i64 a.mn, .int .i64 a.mx, .int .i64 a.h0, .int .i64 a.h1, .int .i64 a.h2, .int .i64 a.h3] (by simp); clear hSw; go_simp; try with_reducible rfl)
          simp only [Act.put, List.setIfInBounds_toArray, List.set_cons_zero, List.set_cons_succ]
          refine take_at (i := 1) (v := ?_) rfl rfl (by kernel_rfl) (by kernel_rfl) (by kernel_rfl) (fun _ _ _ h => h) (Or.inl ⟨by rfl, ?_⟩) (by assumption) ?_
          rotate_left; (intro w hSw; have hcc := hSw.cells (u2.heap.size) #[.int .i64 c.c, .int .i64 c.s, .int .i64 c.mn, .int .i64 c.mx, .int .i64 c.h0, .int .i64 c.h1, .int .i64 c.h2, .int .i64 c.h3] (by simp); have hcb := hSw.cells (u1.heap.size) #[.int .i64 b.c, .int .i64 b.s, .int .i64 b.mn, .int .i64 b.mx, .int .i64 b.h0, .int .i64 b.h1, .int .i64 b.h2, .int .i64 b.h3] (by simp); have hca := hSw.cells (u0.heap.size) #[.int .i64 a.c, .int .i64 a.s, .int .i64 a.mn, .int .i64 a.mx, .int .i64 a.h0, .int .i64 a.h1, .int .i64 a.h2, .int .i64 a.h3] (by simp); clear hSw; go_simp; try with_reducible rfl)
          simp only [Act.put, List.setIfInBounds_toArray, List.set_cons_zero, List.set_cons_succ]
          refine take_at (i := 2) (v := ?_) rfl rfl (by kernel_rfl) (by kernel_rfl) (by kernel_rfl) (fun _ _ _ h => h) (Or.inl ⟨by rfl, ?_⟩) (by assumption) ?_
          rotate_left; (intro w hSw; have hcc := hSw.cells (u2.heap.size) #[.int .i64 c.c, .int .i64 c.s, .int .i64 c.mn, .int .i64 c.mx, .int .i64 c.h0, .int .i64 c.h1, .int .i64 c.h2, .int .i64 c.h3] (by simp); have hcb := hSw.cells (u1.heap.size) #[.int .i64 b.c, .int .i64 b.s, .int .i64 b.mn, .int .i64 b.mx, .int .i64 b.h0, .int .i64 b.h1, .int .i64 b.h2, .int .i64 b.h3] (by simp); have hca := hSw.cells (u0.heap.size) #[.int .i64 a.c, .int .i64 a.s, .int .i64 a.mn, .int .i64 a.mx, .int .i64 a.h0, .int .i64 a.h1, .int .i64 a.h2, .int .i64 a.h3] (by simp); clear hSw; go_simp; try with_reducible rfl)
          simp only [Act.put, List.setIfInBounds_toArray, List.set_cons_zero, List.set_cons_succ]
          refine step2_at (i := 3) (j := 5) (by kernel_rfl) rfl rfl rfl rfl (by rfl) (by rfl) (fun K hK => ?_) (fun K hK => ?_)
          · go_simp
            refine (join_8 b a _).mono ?_
            rintro e w1 ⟨rfl, hb1⟩
            rw [Hba.out]
            unfold A8.arr
            dsimp only
            refine hK.out _ _ (hHeld.call hb1) (fun hHeld2 => ?_)
            clear hK K hHeld hb1
            have hHeld := hHeld2
            clear hHeld2
            simp only [Act.put, List.setIfInBounds_toArray, List.set_cons_zero, List.set_cons_succ]
            refine step2_at (i := 4) (j := 5) (by kernel_rfl) rfl rfl rfl rfl (by rfl) (by rfl) (fun K hK => ?_) (fun K hK => ?_)
            · go_simp
              refine (join_8 c ab _).mono ?_
              rintro e w1 ⟨rfl, hb1⟩
              rw [Hz.out]
              unfold A8.arr
              dsimp only
              refine hK.out _ _ (hHeld.call hb1) (fun hHeld2 => ?_)
              clear hK K hHeld hb1
              have hHeld := hHeld2
              clear hHeld2
              simp only [Act.put, List.setIfInBounds_toArray, List.set_cons_zero, List.set_cons_succ]
              refine step_at (i := 5) (by kernel_rfl) rfl rfl (by rfl) (fun K hK => ?_)
              go_simp
              obtain ⟨hgb, hg0, hne⟩ := hHeld.newblk #[.int .i64 0, .int .i64 0, .int .i64 0, .int .i64 0, .int .i64 0, .int .i64 0, .int .i64 0, .int .i64 0]
              try simp only [show ∀ w : World, w.drew.heap = w.heap from fun _ => rfl] at hgb hg0 hne
              refine hK.out _ _ (hHeld.other _) (fun hHeld2 => ?_)
              clear hK K hHeld
              simp only [Act.put, List.setIfInBounds_toArray, List.set_cons_zero, List.set_cons_succ]
              refine wpAnyH_blk (w0 := W0) hgb hHeld2 ?_
              clear hgb hHeld2
              intro wa hgb hHeld
              have hcz := cells_at hgb
              have hfz := thaw_at hgb
              have h8 := hHeld.store8 hgb hg0 hne (.int .i64 x.c) (.int .i64 x.s) (.int .i64 x.mn) (.int .i64 x.mx) (.int .i64 x.h0) (.int .i64 x.h1) (.int .i64 x.h2) (.int .i64 x.h3)
              refine wpAnyH_ready (rs := [6]) (by kernel_rfl) (by simp) (AllReadyH.cons rfl (fun K hK => ?_) AllReadyH.nil)
              go_simp
              clear hcz hfz
              refine hK.out _ _ h8.tail (fun hHeld2 => ?_)
              clear hK K hHeld hHeld2
              refine wpAnyH_done (by kernel_rfl) ?_ _
              go_wp2_with fail
              go_meet
              exact ⟨_, rfl, h8, hne⟩
            · go_simp
              obtain ⟨hgb, hg0, hne⟩ := hHeld.newblk #[.int .i64 0, .int .i64 0, .int .i64 0, .int .i64 0, .int .i64 0, .int .i64 0, .int .i64 0, .int .i64 0]
              try simp only [show ∀ w : World, w.drew.heap = w.heap from fun _ => rfl] at hgb hg0 hne
              refine hK.out _ _ (hHeld.other _) (fun hHeld2 => ?_)
              clear hK K hHeld
              simp only [Act.put, List.setIfInBounds_toArray, List.set_cons_zero, List.set_cons_succ]
              refine wpAnyH_blk (w0 := W0) hgb hHeld2 ?_
              clear hgb hHeld2
              intro wa hgb hHeld
              refine step_at (i := 4) (by kernel_rfl) rfl rfl (by rfl) (fun K hK => ?_)
              go_simp
              refine (join_8 c ab _).mono ?_
              rintro e w1 ⟨rfl, hb1⟩
              rw [Hz.out]
              unfold A8.arr
              dsimp only
              replace hgb := (hb1.block _ (blk_lt hgb)).trans hgb
              refine hK.out _ _ (hHeld.call hb1) (fun hHeld2 => ?_)
              clear hK K hHeld hb1
              have hHeld := hHeld2
              clear hHeld2
              simp only [Act.put, List.setIfInBounds_toArray, List.set_cons_zero, List.set_cons_succ]
              have hcz := cells_at hgb
              have hfz := thaw_at hgb
              have h8 := hHeld.store8 hgb hg0 hne (.int .i64 x.c) (.int .i64 x.s) (.int .i64 x.mn) (.int .i64 x.mx) (.int .i64 x.h0) (.int .i64 x.h1) (.int .i64 x.h2) (.int .i64 x.h3)
              refine wpAnyH_ready (rs := [6]) (by kernel_rfl) (by simp) (AllReadyH.cons rfl (fun K hK => ?_) AllReadyH.nil)
              go_simp
              clear hcz hfz
              refine hK.out _ _ h8.tail (fun hHeld2 => ?_)
              clear hK K hHeld hHeld2
              refine wpAnyH_done (by kernel_rfl) ?_ _
              go_wp2_with fail
              go_meet
              exact ⟨_, rfl, h8, hne⟩
          · go_simp
            obtain ⟨hgb, hg0, hne⟩ := hHeld.newblk #[.int .i64 0, .int .i64 0, .int .i64 0, .int .i64 0, .int .i64 0, .int .i64 0, .int .i64 0, .int .i64 0]
            try simp only [show ∀ w : World, w.drew.heap = w.heap from fun _ => rfl] at hgb hg0 hne
            refine hK.out _ _ (hHeld.other _) (fun hHeld2 => ?_)
            clear hK K hHeld
            simp only [Act.put, List.setIfInBounds_toArray, List.set_cons_zero, List.set_cons_succ]
            refine wpAnyH_blk (w0 := W0) hgb hHeld2 ?_
            clear hgb hHeld2
            intro wa hgb hHeld
            refine step_at (i := 3) (by kernel_rfl) rfl rfl (by rfl) (fun K hK => ?_)
            go_simp
            refine (join_8 b a _).mono ?_
            rintro e w1 ⟨rfl, hb1⟩
            rw [Hba.out]
            unfold A8.arr
            dsimp only
            replace hgb := (hb1.block _ (blk_lt hgb)).trans hgb
            refine hK.out _ _ (hHeld.call hb1) (fun hHeld2 => ?_)
            clear hK K hHeld hb1
            have hHeld := hHeld2
            clear hHeld2
            simp only [Act.put, List.setIfInBounds_toArray, List.set_cons_zero, List.set_cons_succ]
            refine step_at (i := 4) (by kernel_rfl) rfl rfl (by rfl) (fun K hK => ?_)
            go_simp
            refine (join_8 c ab _).mono ?_
            rintro e w1 ⟨rfl, hb1⟩
            rw [Hz.out]
            unfold A8.arr
            dsimp only
            replace hgb := (hb1.block _ (blk_lt hgb)).trans hgb
            refine hK.out _ _ (hHeld.call hb1) (fun hHeld2 => ?_)
            clear hK K hHeld hb1
            have hHeld := hHeld2
            clear hHeld2
            simp only [Act.put, List.setIfInBounds_toArray, List.set_cons_zero, List.set_cons_succ]
            have hcz := cells_at hgb
            have hfz := thaw_at hgb
            have h8 := hHeld.store8 hgb hg0 hne (.int .i64 x.c) (.int .i64 x.s) (.int .i64 x.mn) (.int .i64 x.mx) (.int .i64 x.h0) (.int .i64 x.h1) (.int .i64 x.h2) (.int .i64 x.h3)
            refine wpAnyH_ready (rs := [6]) (by kernel_rfl) (by simp) (AllReadyH.cons rfl (fun K hK => ?_) AllReadyH.nil)
            go_simp
            clear hcz hfz
            refine hK.out _ _ h8.tail (fun hHeld2 => ?_)
            clear hK K hHeld hHeld2
            refine wpAnyH_done (by kernel_rfl) ?_ _
            go_wp2_with fail
            go_meet
            exact ⟨_, rfl, h8, hne⟩
        case rest =>
          obtain ⟨gz, rfl, hST, hnez⟩ := hcut
          have HST := Lib.hid hST
          have Hnez := Lib.hid hnez
          clear hST hnez
          go_wp2_with fail
          refine wp_region_held_drew (S := St W0 [(gz, #[.int .i64 x.c, .int .i64 x.s, .int .i64 x.mn, .int .i64 x.mx, .int .i64 x.h0, .int .i64 x.h1, .int .i64 x.h2, .int .i64 x.h3]), (gy, #[.int .i64 y.c, .int .i64 y.s, .int .i64 y.mn, .int .i64 y.mx, .int .i64 y.h0, .int .i64 y.h1, .int .i64 y.h2, .int .i64 y.h3]), (gx, #[.int .i64 x.c, .int .i64 x.s, .int .i64 x.mn, .int .i64 x.mx, .int .i64 x.h0, .int .i64 x.h1, .int .i64 x.h2, .int .i64 x.h3]), (u2.heap.size, #[.int .i64 c.c, .int .i64 c.s, .int .i64 c.mn, .int .i64 c.mx, .int .i64 c.h0, .int .i64 c.h1, .int .i64 c.h2, .int .i64 c.h3]), (u1.heap.size, #[.int .i64 b.c, .int .i64 b.s, .int .i64 b.mn, .int .i64 b.mx, .int .i64 b.h0, .int .i64 b.h1, .int .i64 b.h2, .int .i64 b.h3]), (u0.heap.size, #[.int .i64 a.c, .int .i64 a.s, .int .i64 a.mn, .int .i64 a.mx, .int .i64 a.h0, .int .i64 a.h1, .int .i64 a.h2, .int .i64 a.h3])]) (by kernel_rfl) HST.out.drew (fun hHeld => ?_)
          refine take_at (i := 0) (v := ?_) rfl rfl (by kernel_rfl) (by kernel_rfl) (by kernel_rfl) (fun _ _ _ h => h) (Or.inl ⟨by rfl, ?_⟩) (by assumption) ?_
          rotate_left; (intro w hSw; have hcb := hSw.cells (u1.heap.size) #[.int .i64 b.c, .int .i64 b.s, .int .i64 b.mn, .int .i64 b.mx, .int .i64 b.h0, .int .i64 b.h1, .int .i64 b.h2, .int .i64 b.h3] (by simp); have hca := hSw.cells (u0.heap.size) #[.int .i64 a.c, .int .i64 a.s, .int .i64 a.mn, .int .i64 a.mx, .int .i64 a.h0, .int .i64 a.h1, .int .i64 a.h2, .int .i64 a.h3] (by simp); clear hSw; go_simp; try with_reducible rfl)
          simp only [Act.put, List.setIfInBounds_toArray, List.set_cons_zero, List.set_cons_succ]
          refine take_at (i := 1) (v := ?_) rfl rfl (by kernel_rfl) (by kernel_rfl) (by kernel_rfl) (fun _ _ _ h => h) (Or.inl ⟨by rfl, ?_⟩) (by assumption) ?_
          rotate_left; (intro w hSw; have hcb := hSw.cells (u1.heap.size) #[.int .i64 b.c, .int .i64 b.s, .int .i64 b.mn, .int .i64 b.mx, .int .i64 b.h0, .int .i64 b.h1, .int .i64 b.h2, .int .i64 b.h3] (by simp); have hca := hSw.cells (u0.heap.size) #[.int .i64 a.c, .int .i64 a.s, .int .i64 a.mn, .int .i64 a.mx, .int .i64 a.h0, .int .i64 a.h1, .int .i64 a.h2, .int .i64 a.h3] (by simp); clear hSw; go_simp; try with_reducible rfl)
          simp only [Act.put, List.setIfInBounds_toArray, List.set_cons_zero, List.set_cons_succ]
          refine take_at (i := 3) (v := ?_) rfl rfl (by kernel_rfl) (by kernel_rfl) (by kernel_rfl) (fun _ _ _ h => h) (Or.inl ⟨by rfl, ?_⟩) (by assumption) ?_
          rotate_left; (intro w hSw; have hcb := hSw.cells (u1.heap.size) #[.int .i64 b.c, .int .i64 b.s, .int .i64 b.mn, .int .i64 b.mx, .int .i64 b.h0, .int .i64 b.h1, .int .i64 b.h2, .int .i64 b.h3] (by simp); have hca := hSw.cells (u0.heap.size) #[.int .i64 a.c, .int .i64 a.s, .int .i64 a.mn, .int .i64 a.mx, .int .i64 a.h0, .int .i64 a.h1, .int .i64 a.h2, .int .i64 a.h3] (by simp); clear hSw; go_simp; try with_reducible rfl)
          simp only [Act.put, List.setIfInBounds_toArray, List.set_cons_zero, List.set_cons_succ]
          refine take_at (i := 4) (v := ?_) rfl rfl (by kernel_rfl) (by kernel_rfl) (by kernel_rfl) (fun _ _ _ h => h) (Or.inl ⟨by rfl, ?_⟩) (by assumption) ?_
          rotate_left; (intro w hSw; have hcb := hSw.cells (u1.heap.size) #[.int .i64 b.c, .int .i64 b.s, .int .i64 b.mn, .int .i64 b.mx, .int .i64 b.h0, .int .i64 b.h1, .int .i64 b.h2, .int .i64 b.h3] (by simp); have hca := hSw.cells (u0.heap.size) #[.int .i64 a.c, .int .i64 a.s, .int .i64 a.mn, .int .i64 a.mx, .int .i64 a.h0, .int .i64 a.h1, .int .i64 a.h2, .int .i64 a.h3] (by simp); clear hSw; go_simp; try with_reducible rfl)
          simp only [Act.put, List.setIfInBounds_toArray, List.set_cons_zero, List.set_cons_succ]
          refine step_at (i := 2) (by kernel_rfl) rfl rfl (by rfl) (fun K hK => ?_)
          go_simp
          refine (join_8 a b _).mono ?_
          rintro e w1 ⟨rfl, hb1⟩
          rw [Hab.out]
          unfold A8.arr
          dsimp only
          refine hK.out _ _ (hHeld.call hb1) (fun hHeld2 => ?_)
          clear hK K hHeld
          have hHeld := hHeld2
          clear hHeld2
          simp only [Act.put, List.setIfInBounds_toArray, List.set_cons_zero, List.set_cons_succ]
          clear hb1
          refine step_at (i := 5) (by kernel_rfl) rfl rfl (by rfl) (fun K hK => ?_)
          go_simp
          refine (join_8 b a _).mono ?_
          rintro e w1 ⟨rfl, hb1⟩
          rw [Hba.out]
          unfold A8.arr
          dsimp only
          refine hK.out _ _ (hHeld.call hb1) (fun hHeld2 => ?_)
          clear hK K hHeld
          have hHeld := hHeld2
          clear hHeld2
          simp only [Act.put, List.setIfInBounds_toArray, List.set_cons_zero, List.set_cons_succ]
          clear hb1
          refine take_at (i := 6) (v := ?_) rfl rfl (by kernel_rfl) (by kernel_rfl) (by kernel_rfl) (fun _ _ _ h => h) (Or.inl ⟨by rfl, ?_⟩) (by assumption) ?_
          rotate_left; (intro w hSw; (try dsimp only at hSw); go_simp; try with_reducible rfl)
          simp only [Act.put, List.setIfInBounds_toArray, List.set_cons_zero, List.set_cons_succ]
          refine take_at (i := 7) (v := ?_) rfl rfl (by kernel_rfl) (by kernel_rfl) (by kernel_rfl) (fun _ _ _ h => h) (Or.inl ⟨by rfl, ?_⟩) (by assumption) ?_
          rotate_left; (intro w hSw; (try dsimp only at hSw); go_simp; try with_reducible rfl)
          simp only [Act.put, List.setIfInBounds_toArray, List.set_cons_zero, List.set_cons_succ]
          refine take_at (i := 8) (v := ?_) rfl rfl (by kernel_rfl) (by kernel_rfl) (by kernel_rfl) (fun _ _ _ h => h) (Or.inl ⟨by rfl, ?_⟩) (by assumption) ?_
          rotate_left; (intro w hSw; have hcb := hSw.cells (u1.heap.size) #[.int .i64 b.c, .int .i64 b.s, .int .i64 b.mn, .int .i64 b.mx, .int .i64 b.h0, .int .i64 b.h1, .int .i64 b.h2, .int .i64 b.h3] (by simp); have hca := hSw.cells (u0.heap.size) #[.int .i64 a.c, .int .i64 a.s, .int .i64 a.mn, .int .i64 a.mx, .int .i64 a.h0, .int .i64 a.h1, .int .i64 a.h2, .int .i64 a.h3] (by simp); clear hSw; go_simp; try with_reducible rfl)
          simp only [Act.put, List.setIfInBounds_toArray, List.set_cons_zero, List.set_cons_succ]
          refine take_at (i := 11) (v := ?_) rfl rfl (by kernel_rfl) (by kernel_rfl) (by kernel_rfl) (fun _ _ _ h => h) (Or.inl ⟨by rfl, ?_⟩) (by assumption) ?_
          rotate_left; (intro w hSw; have hcb := hSw.cells (u1.heap.size) #[.int .i64 b.c, .int .i64 b.s, .int .i64 b.mn, .int .i64 b.mx, .int .i64 b.h0, .int .i64 b.h1, .int .i64 b.h2, .int .i64 b.h3] (by simp); have hca := hSw.cells (u0.heap.size) #[.int .i64 a.c, .int .i64 a.s, .int .i64 a.mn, .int .i64 a.mx, .int .i64 a.h0, .int .i64 a.h1, .int .i64 a.h2, .int .i64 a.h3] (by simp); clear hSw; go_simp; try with_reducible rfl)
          simp only [Act.put, List.setIfInBounds_toArray, List.set_cons_zero, List.set_cons_succ]
          refine step_at (i := 9) (by kernel_rfl) rfl rfl (by rfl) (fun K hK => ?_)
          go_simp
          refine (of_empty _ _ _).mono ?_
          rintro e w1 ⟨rfl, hb1⟩
          rw [HZ.out]
          unfold A8.arr
          dsimp only
          refine hK.out _ _ (hHeld.call hb1) (fun hHeld2 => ?_)
          clear hK K hHeld
          have hHeld := hHeld2
          clear hHeld2
          simp only [Act.put, List.setIfInBounds_toArray, List.set_cons_zero, List.set_cons_succ]
          clear hb1
          refine step_at (i := 10) (by kernel_rfl) rfl rfl (by rfl) (fun K hK => ?_)
          go_simp
          refine (join_8 a A8.zero _).mono ?_
          rintro e w1 ⟨rfl, hb1⟩
          rw [HaZ.out]
          unfold A8.arr
          dsimp only
          refine hK.out _ _ (hHeld.call hb1) (fun hHeld2 => ?_)
          clear hK K hHeld
          have hHeld := hHeld2
          clear hHeld2
          simp only [Act.put, List.setIfInBounds_toArray, List.set_cons_zero, List.set_cons_succ]
          clear hb1
          refine take_at (i := 12) (v := ?_) rfl rfl (by kernel_rfl) (by kernel_rfl) (by kernel_rfl) (fun _ _ _ h => h) (Or.inl ⟨by rfl, ?_⟩) (by assumption) ?_
          rotate_left; (intro w hSw; (try dsimp only at hSw); go_simp; try with_reducible rfl)
          simp only [Act.put, List.setIfInBounds_toArray, List.set_cons_zero, List.set_cons_succ]
          refine take_at (i := 13) (v := ?_) rfl rfl (by kernel_rfl) (by kernel_rfl) (by kernel_rfl) (fun _ _ _ h => h) (Or.inl ⟨by rfl, ?_⟩) (by assumption) ?_
          rotate_left; (intro w hSw; (try dsimp only at hSw); go_simp; try with_reducible rfl)
          simp only [Act.put, List.setIfInBounds_toArray, List.set_cons_zero, List.set_cons_succ]
          refine take_at (i := 14) (v := ?_) rfl rfl (by kernel_rfl) (by kernel_rfl) (by kernel_rfl) (fun _ _ _ h => h) (Or.inl ⟨by rfl, ?_⟩) (by assumption) ?_
          rotate_left; (intro w hSw; (try dsimp only at hSw); go_simp; try with_reducible rfl)
          simp only [Act.put, List.setIfInBounds_toArray, List.set_cons_zero, List.set_cons_succ]
          refine take_at (i := 16) (v := ?_) rfl rfl (by kernel_rfl) (by kernel_rfl) (by kernel_rfl) (fun _ _ _ h => h) (Or.inl ⟨by rfl, ?_⟩) (by assumption) ?_
          rotate_left; (intro w hSw; have hcb := hSw.cells (u1.heap.size) #[.int .i64 b.c, .int .i64 b.s, .int .i64 b.mn, .int .i64 b.mx, .int .i64 b.h0, .int .i64 b.h1, .int .i64 b.h2, .int .i64 b.h3] (by simp); have hca := hSw.cells (u0.heap.size) #[.int .i64 a.c, .int .i64 a.s, .int .i64 a.mn, .int .i64 a.mx, .int .i64 a.h0, .int .i64 a.h1, .int .i64 a.h2, .int .i64 a.h3] (by simp); clear hSw; go_simp; try with_reducible rfl)
          simp only [Act.put, List.setIfInBounds_toArray, List.set_cons_zero, List.set_cons_succ]
          refine take_at (i := 18) (v := ?_) rfl rfl (by kernel_rfl) (by kernel_rfl) (by kernel_rfl) (fun _ _ _ h => h) (Or.inl ⟨by rfl, ?_⟩) (by assumption) ?_
          rotate_left; (intro w hSw; have hcb := hSw.cells (u1.heap.size) #[.int .i64 b.c, .int .i64 b.s, .int .i64 b.mn, .int .i64 b.mx, .int .i64 b.h0, .int .i64 b.h1, .int .i64 b.h2, .int .i64 b.h3] (by simp); have hca := hSw.cells (u0.heap.size) #[.int .i64 a.c, .int .i64 a.s, .int .i64 a.mn, .int .i64 a.mx, .int .i64 a.h0, .int .i64 a.h1, .int .i64 a.h2, .int .i64 a.h3] (by simp); clear hSw; go_simp; try with_reducible rfl)
          simp only [Act.put, List.setIfInBounds_toArray, List.set_cons_zero, List.set_cons_succ]
          refine step_at (i := 15) (by kernel_rfl) rfl rfl (by rfl) (fun K hK => ?_)
          go_simp
          refine (of_empty _ _ _).mono ?_
          rintro e w1 ⟨rfl, hb1⟩
          rw [HZ.out]
          unfold A8.arr
          dsimp only
          refine hK.out _ _ (hHeld.call hb1) (fun hHeld2 => ?_)
          clear hK K hHeld
          have hHeld := hHeld2
          clear hHeld2
          simp only [Act.put, List.setIfInBounds_toArray, List.set_cons_zero, List.set_cons_succ]
          clear hb1
          refine step_at (i := 17) (by kernel_rfl) rfl rfl (by rfl) (fun K hK => ?_)
          go_simp
          refine (join_8 A8.zero a _).mono ?_
          rintro e w1 ⟨rfl, hb1⟩
          rw [HZa.out]
          unfold A8.arr
          dsimp only
          refine hK.out _ _ (hHeld.call hb1) (fun hHeld2 => ?_)
          clear hK K hHeld
          have hHeld := hHeld2
          clear hHeld2
          simp only [Act.put, List.setIfInBounds_toArray, List.set_cons_zero, List.set_cons_succ]
          clear hb1
          refine take_at (i := 19) (v := ?_) rfl rfl (by kernel_rfl) (by kernel_rfl) (by kernel_rfl) (fun _ _ _ h => h) (Or.inl ⟨by rfl, ?_⟩) (by assumption) ?_
          rotate_left; (intro w hSw; (try dsimp only at hSw); go_simp; try with_reducible rfl)
          simp only [Act.put, List.setIfInBounds_toArray, List.set_cons_zero, List.set_cons_succ]
          refine take_at (i := 20) (v := ?_) rfl rfl (by kernel_rfl) (by kernel_rfl) (by kernel_rfl) (fun _ _ _ h => h) (Or.inl ⟨by rfl, ?_⟩) (by assumption) ?_
          rotate_left; (intro w hSw; (try dsimp only at hSw); go_simp; try with_reducible rfl)
          simp only [Act.put, List.setIfInBounds_toArray, List.set_cons_zero, List.set_cons_succ]
          refine take_at (i := 21) (v := ?_) rfl rfl (by kernel_rfl) (by kernel_rfl) (by kernel_rfl) (fun _ _ _ h => h) (Or.inl ⟨by rfl, ?_⟩) (by assumption) ?_
          rotate_left; (intro w hSw; (try dsimp only at hSw); go_simp; try with_reducible rfl)
          simp only [Act.put, List.setIfInBounds_toArray, List.set_cons_zero, List.set_cons_succ]
          refine wpAnyH_done (by kernel_rfl) ?_ _
          replace HST := Lib.hid hHeld
          clear hHeld
          have hc := HST.out.cells gx #[.int .i64 x.c, .int .i64 x.s, .int .i64 x.mn, .int .i64 x.mx, .int .i64 x.h0, .int .i64 x.h1, .int .i64 x.h2, .int .i64 x.h3] (by simp)
          go_wp2_with fail
          refine (right_8 x _).mono ?_
          rintro e w1 ⟨rfl, hb1⟩
          rw [Rx.out]
          replace HST := Lib.hid (HST.out.call hb1)
          clear hb1 hc
          have hc := HST.out.cells gy #[.int .i64 y.c, .int .i64 y.s, .int .i64 y.mn, .int .i64 y.mx, .int .i64 y.h0, .int .i64 y.h1, .int .i64 y.h2, .int .i64 y.h3] (by simp)
          go_wp2_with fail
          refine (right_8 y _).mono ?_
          rintro e w1 ⟨rfl, hb1⟩
          rw [Ry.out]
          replace HST := Lib.hid (HST.out.call hb1)
          clear hb1 hc
          have hc := HST.out.cells gz #[.int .i64 x.c, .int .i64 x.s, .int .i64 x.mn, .int .i64 x.mx, .int .i64 x.h0, .int .i64 x.h1, .int .i64 x.h2, .int .i64 x.h3] (by simp)
          go_wp2_with fail
          refine (right_8 x _).mono ?_
          rintro e w1 ⟨rfl, hb1⟩
          rw [Rx.out]
          replace HST := Lib.hid (HST.out.call hb1)
          clear hb1 hc
          have hS3 := HST.out.sub (L' := [(gy, #[.int .i64 y.c, .int .i64 y.s, .int .i64 y.mn, .int .i64 y.mx, .int .i64 y.h0, .int .i64 y.h1, .int .i64 y.h2, .int .i64 y.h3]), (gx, #[.int .i64 x.c, .int .i64 x.s, .int .i64 x.mn, .int .i64 x.mx, .int .i64 x.h0, .int .i64 x.h1, .int .i64 x.h2, .int .i64 x.h3]), (gz, #[.int .i64 x.c, .int .i64 x.s, .int .i64 x.mn, .int .i64 x.mx, .int .i64 x.h0, .int .i64 x.h1, .int .i64 x.h2, .int .i64 x.h3])]) (fun p hp => by simp only [List.mem_cons, List.not_mem_nil, or_false] at hp ⊢; rcases hp with rfl | rfl | rfl <;> simp)
          have hcx := hS3.cells gx #[.int .i64 x.c, .int .i64 x.s, .int .i64 x.mn, .int .i64 x.mx, .int .i64 x.h0, .int .i64 x.h1, .int .i64 x.h2, .int .i64 x.h3] (by simp)
          have hcy := hS3.cells gy #[.int .i64 y.c, .int .i64 y.s, .int .i64 y.mn, .int .i64 y.mx, .int .i64 y.h0, .int .i64 y.h1, .int .i64 y.h2, .int .i64 y.h3] (by simp)
          have hcz := hS3.cells gz #[.int .i64 x.c, .int .i64 x.s, .int .i64 x.mn, .int .i64 x.mx, .int .i64 x.h0, .int .i64 x.h1, .int .i64 x.h2, .int .i64 x.h3] (by simp)
          have hfy := hS3.thaw gy #[.int .i64 y.c, .int .i64 y.s, .int .i64 y.mn, .int .i64 y.mx, .int .i64 y.h0, .int .i64 y.h1, .int .i64 y.h2, .int .i64 y.h3] (by simp)
          have hfz := hS3.thaw gz #[.int .i64 x.c, .int .i64 x.s, .int .i64 x.mn, .int .i64 x.mx, .int .i64 x.h0, .int .i64 x.h1, .int .i64 x.h2, .int .i64 x.h3] (by simp)
          have ne1 : gx ≠ gy := Hney.out (gx, #[.int .i64 x.c, .int .i64 x.s, .int .i64 x.mn, .int .i64 x.mx, .int .i64 x.h0, .int .i64 x.h1, .int .i64 x.h2, .int .i64 x.h3]) (by simp)
          have ne2 : gx ≠ gz := Hnez.out (gx, #[.int .i64 x.c, .int .i64 x.s, .int .i64 x.mn, .int .i64 x.mx, .int .i64 x.h0, .int .i64 x.h1, .int .i64 x.h2, .int .i64 x.h3]) (by simp)
          have ne3 : gy ≠ gz := Hnez.out (gy, #[.int .i64 y.c, .int .i64 y.s, .int .i64 y.mn, .int .i64 y.mx, .int .i64 y.h0, .int .i64 y.h1, .int .i64 y.h2, .int .i64 y.h3]) (by simp)
          have HS3 := Lib.hid hS3
          clear hS3
          go_upto_region 12 with fail
          have hS4 := HS3.out.put1 (fun p hp => by simp only [List.mem_cons, List.not_mem_nil, or_false] at hp; rcases hp with rfl | rfl; exact ne1; exact (Ne.symm ne3)) 1 (.int .i64 x.s)
          simp only [List.setIfInBounds_toArray, List.set_cons_zero, List.set_cons_succ] at hS4
          clear hcx hcy hcz hfy hfz
          generalize hV5 : World.setCell _ _ _ = V5 at hS4
          clear hV5
          have hS5 := hS4.sub (L' := [(gz, #[.int .i64 x.c, .int .i64 x.s, .int .i64 x.mn, .int .i64 x.mx, .int .i64 x.h0, .int .i64 x.h1, .int .i64 x.h2, .int .i64 x.h3]), (gx, #[.int .i64 x.c, .int .i64 x.s, .int .i64 x.mn, .int .i64 x.mx, .int .i64 x.h0, .int .i64 x.h1, .int .i64 x.h2, .int .i64 x.h3]), (gy, #[.int .i64 y.c, .int .i64 x.s, .int .i64 y.mn, .int .i64 y.mx, .int .i64 y.h0, .int .i64 y.h1, .int .i64 y.h2, .int .i64 y.h3])]) (fun p hp => by simp only [List.mem_cons, List.not_mem_nil, or_false] at hp ⊢; rcases hp with rfl | rfl | rfl <;> simp)
          clear hS4
          have hcx := hS5.cells gx #[.int .i64 x.c, .int .i64 x.s, .int .i64 x.mn, .int .i64 x.mx, .int .i64 x.h0, .int .i64 x.h1, .int .i64 x.h2, .int .i64 x.h3] (by simp)
          have hcz := hS5.cells gz #[.int .i64 x.c, .int .i64 x.s, .int .i64 x.mn, .int .i64 x.mx, .int .i64 x.h0, .int .i64 x.h1, .int .i64 x.h2, .int .i64 x.h3] (by simp)
          have hfz := hS5.thaw gz #[.int .i64 x.c, .int .i64 x.s, .int .i64 x.mn, .int .i64 x.mx, .int .i64 x.h0, .int .i64 x.h1, .int .i64 x.h2, .int .i64 x.h3] (by simp)
          have HS5 := Lib.hid hS5
          clear hS5
          go_upto_region 13 with fail
          have hS6 := HS5.out.put1 (fun p hp => by simp only [List.mem_cons, List.not_mem_nil, or_false] at hp; rcases hp with rfl | rfl; exact ne2; exact ne3) 1 (.int .i64 x.s)
          simp only [List.setIfInBounds_toArray, List.set_cons_zero, List.set_cons_succ] at hS6
          clear hcx hcz hfz
          generalize hV6 : World.setCell _ _ _ = V6 at hS6
          clear hV6
          have hcx := hS6.cells gx #[.int .i64 x.c, .int .i64 x.s, .int .i64 x.mn, .int .i64 x.mx, .int .i64 x.h0, .int .i64 x.h1, .int .i64 x.h2, .int .i64 x.h3] (by simp)
          have hcy := hS6.cells gy #[.int .i64 y.c, .int .i64 x.s, .int .i64 y.mn, .int .i64 y.mx, .int .i64 y.h0, .int .i64 y.h1, .int .i64 y.h2, .int .i64 y.h3] (by simp)
          have hcz := hS6.cells gz #[.int .i64 x.c, .int .i64 x.s, .int .i64 x.mn, .int .i64 x.mx, .int .i64 x.h0, .int .i64 x.h1, .int .i64 x.h2, .int .i64 x.h3] (by simp)
          have HS6 := Lib.hid hS6
          clear hS6 ne1 ne2 ne3
          obtain ⟨q1, q2, q3, q4, q5, q6, q7⟩ := Hxy.out
          go_wp2_with fail
          refine (wakes_any _).mono ?_
          rintro e w9 ⟨rfl, hb9⟩
          have hbel := (HS6.out.call hb9).1
          clear hcx hcy hcz hb9
          go_wp2
          go_ret
          exact ⟨rfl, hbel⟩
end Go.Proofs.Ytoiakejagmeliaa
