/-
  The law AggRight: the walk, first part: the list turned round.
-/
import Derived.Test.YtoiakejagmeliaaAggSt
import Derived.Test.YtoiakejagmeliaaAggPureB
import Derived.Test.YtoiakejagmeliaaMemT
import Derived.Deep.RegionHeld3
import Derived.Deep.QuietTactic
import Derived.BigQuiet
import Derived.Deep.DeepCutAuto
import Derived.LoopTactic
import Derived.WalkSpells
import Derived.Lib.SmallJoins
set_option linter.unusedSimpArgs false
set_option linter.unusedVariables false
namespace Go.Proofs.Ytoiakejagmeliaa
open Go.RowKit
attribute [local go_sem ↓] run_eq_agg

def RevRel (zs : List Int) (W0 : World) (j : Nat) (tv sm : Value) (wr : World) : Prop :=
  wr.ownsRow W0.heap.size 2 1 tv (zs.length - j) ((zs.drop j).reverse.map (Value.int .i64)) ∧ Below W0.heap.size W0 wr ∧ sm = .bool (smallB (zs.drop j))
theorem Try.infoN : (Try.prog.info? 2).map (fun i => (i.zero, i.size, i.bytes)) = some (some (.int .i64 0), 1, 8) := by kernel_rfl
theorem drop_step (zs : List Int) (j : Nat) (h : j < zs.length) : zs.drop j = zs.getD j 0 :: zs.drop (j + 1) := by
  rw [List.drop_eq_getElem_cons h]
  simp [List.getD, h]

theorem own_slice {w : World} {base n : Nat} {e : TypeId} {v : Value} {xs : List Int} (h : w.ownsRow base e 1 v n (xs.map (Value.int .i64))) : SliceOf w v xs := by
  have hn : xs.length = n := by have := h.1; simpa using this
  rcases h.2 with ⟨rfl, h0⟩ | ⟨g, cap, cur, rfl, hg, hb, hcap, _, hsz, ht⟩
  · exact .inl ⟨List.length_eq_zero_iff.1 (by omega), _, _, rfl⟩
  · by_cases h0 : n = 0
    · subst h0; exact .inl ⟨List.length_eq_zero_iff.1 hn, _, _, rfl⟩
    · refine .inr ⟨by omega, g, 0, cap, by rw [hn], by omega, blk_lt hb, fun j hj => ?_⟩
      rw [Nat.zero_add, cells_at hb j]
      have h1 : (cur.toList.take (n * 1))[j]? = (xs.map (Value.int .i64))[j]? := by rw [ht]
      rw [List.getElem?_take_of_lt (by omega)] at h1
      simp only [Array.getElem?_toList] at h1
      rw [h1]
      simp [List.getD, hj]
theorem SliceOf.takeK {w : World} {b off cap : Nat} {l : List Int} (h : SliceOf w (.slice (some ⟨b, off, none⟩) l.length cap) l) {K : Nat} (hK : K < l.length) : SliceOf w (.slice (some ⟨b, off, none⟩) K cap) (l.take K) := by
  rcases h with ⟨rfl, _⟩ | ⟨_, b', off', cap', hv, hcap, hlt, hc⟩
  · simp at hK
  · simp only [Value.slice.injEq, Option.some.injEq, Addr.mk.injEq, and_true, true_and] at hv
    obtain ⟨⟨rfl, rfl⟩, rfl⟩ := hv
    have hlen : (l.take K).length = K := by simp; omega
    by_cases h0 : K = 0
    · subst h0; exact .inl ⟨rfl, _, _, rfl⟩
    · refine .inr ⟨by omega, b, off, cap, by rw [hlen], by omega, hlt, fun j hj => ?_⟩
      rw [hc j (by omega)]
      congr 2
      rw [List.getD_eq_getElem?_getD, List.getD_eq_getElem?_getD, List.getElem?_take_of_lt (by omega)]
theorem SliceOf.dropK {w : World} {b off cap : Nat} {l : List Int} (h : SliceOf w (.slice (some ⟨b, off, none⟩) l.length cap) l) {K : Nat} (hK : K < l.length) : SliceOf w (.slice (some ⟨b, off + K, none⟩) (l.length - K) (cap - K)) (l.drop K) := by
  rcases h with ⟨rfl, _⟩ | ⟨_, b', off', cap', hv, hcap, hlt, hc⟩
  · simp at hK
  · simp only [Value.slice.injEq, Option.some.injEq, Addr.mk.injEq, and_true, true_and] at hv
    obtain ⟨⟨rfl, rfl⟩, rfl⟩ := hv
    have hlen : (l.drop K).length = l.length - K := by simp
    refine .inr ⟨by omega, b, off + K, cap - K, by rw [hlen], by omega, hlt, fun j hj => ?_⟩
    rw [Nat.add_assoc, hc (K + j) (by omega)]
    congr 2
    rw [List.getD_eq_getElem?_getD, List.getD_eq_getElem?_getD, List.getElem?_drop]
theorem wpAnyH_blk {P : Program} {ops : Array Oper} {Q : Exit → Act → World → Prop} {md : Region.Mode} {S : World → Prop} {fuel : Nat} {listed : Array Bool} {a : Act} {w w0 : World} {L : List (Nat × Array Value)} {g : Nat} {o : Obj}
    (h : w.heap[g]? = some o) (h' : St w0 L w) (k : ∀ w : World, w.heap[g]? = some o → St w0 L w → wpAnyH P md ops Q S fuel listed a w) : wpAnyH P md ops Q S fuel listed a w := k w h h'
theorem own_ge {w : World} {base size n : Nat} {e : TypeId} {v : Value} {xs : List Value} (h : w.ownsRow base e size v n xs) : ∀ k, v.ownBlock = some k → base ≤ k := fun k hk => by
  rcases h.2 with ⟨rfl, _⟩ | ⟨g, cap, cur, rfl, hg, _⟩
  · cases hk
  · simp [Value.ownBlock] at hk; omega

set_option maxRecDepth 100000 in
set_option maxHeartbeats 1500000 in
theorem agg_right_some (b off cap : Nat) (l : List Int) (at' : Int) (W0 : World) (h0 : SliceOf W0 (.slice (some ⟨b, off, none⟩) l.length cap) l) (hc : ∀ j, j < l.length → W0.cell? ⟨b, off + j, none⟩ = some (.int .i64 (l.getD j 0))) (hbw : b < W0.heap.size) (hcap : l.length ≤ cap)
    (hpos : 0 < l.length) (hl : l.length ≤ 1000) (hr : ∀ x, x ∈ l → R64 x) (ha : R64 at') :
    Calls Try.prog 7 #[.slice (some ⟨b, off, none⟩) l.length cap, .int .i64 at'] W0 fun e w' => e = .returned (.bool true) ∧ Below W0.heap.size W0 w' := by
  have HS := Lib.hid h0
  have HC := Lib.hid hc
  have HR := Lib.hid hr
  have HA := Lib.hid ha
  clear h0 hc hr ha
  obtain ⟨i0, hi, hz0, hz1, hz2⟩ := info_parts Try.infoN
  go_enter Try.func7, Try.ntmps7
  have hb1 : at'.tmod (l.length : Int) < l.length := Int.tmod_lt_of_pos _ (by omega)
  have hb2 : -(l.length : Int) < at'.tmod (l.length : Int) := Int.lt_tmod_of_pos _ (by omega)
  have HB := Lib.hid (And.intro hb1 hb2)
  clear hb1 hb2
  go_upto_if 18 with fail
  go_cut [5] (fun v w => (∃ K : Nat, v = .int .i64 K ∧ K < l.length) ∧ w = W0)
  case first =>
    go_wp2
    · go_meet
      exact ⟨⟨(at'.tmod (l.length : Int) + l.length).toNat, congrArg (Value.int .i64) (by have := HB.out; unfold wrap64; omega), by have := HB.out; omega⟩, rfl⟩
    · go_meet
      exact ⟨⟨(at'.tmod (l.length : Int)).toNat, congrArg (Value.int .i64) (by omega), by have := HB.out; omega⟩, rfl⟩
  case rest =>
    obtain ⟨⟨K, rfl, hK⟩, rfl⟩ := hcut
    clear HB HA
    go_wp2_with fail
    go_loopw [6, 7, 8] (fun tv sm t wr => ∃ j : Nat, j ≤ l.length ∧ t = .int .i64 ((j : Int) - 1) ∧ RevRel l wc j tv sm wr) (fun _ _ t _ => (intOf t + 1).toNat)
    case atStart =>
      refine ⟨l.length, Nat.le_refl _, rfl, ?_, Below.refl _ _, ?_⟩
      · rw [List.drop_length, Nat.sub_self]
        exact ⟨rfl, .inl ⟨rfl, rfl⟩⟩
      · rw [List.drop_length]; rfl
    case round =>
      obtain ⟨j, hj, rfl, hown, hbl, rfl⟩ := hrel
      have Hb := Lib.hid hbl
      clear hbl
      by_cases hj0 : j = 0
      · subst hj0
        have HtS := Lib.hid (own_slice (by rw [Nat.sub_zero, List.drop_zero] at hown; exact hown))
        rw [List.drop_zero]
        clear hown
        have HST := Lib.hid (show St wc [] wr from ⟨Hb.out, by simp⟩)
        obtain ⟨a, Ha⟩ : ∃ a : A8, Hid (of8 l = a) := ⟨_, rfl⟩
        obtain ⟨b', Hb'⟩ : ∃ b : A8, Hid (of8 l.reverse = b) := ⟨_, rfl⟩
        obtain ⟨c1, Hc1⟩ : ∃ b : A8, Hid (of8 (l.take K) = b) := ⟨_, rfl⟩
        obtain ⟨c2, Hc2⟩ : ∃ b : A8, Hid (of8 (l.drop K) = b) := ⟨_, rfl⟩
        obtain ⟨c, Hc⟩ : ∃ b : A8, Hid (join8 c1 c2 = b) := ⟨_, rfl⟩
        have HF := Lib.hid (agg_right_facts Ha.out Hb'.out Hc1.out Hc2.out Hc.out hl)
        go_wp2_with fail
        refine (of_list (HST.out.list HS.out) (by omega)).mono ?_
        rintro e u0 ⟨rfl, hb⟩
        rw [Ha.out]
        have HtS1 := Lib.hid ((HtS.out.later hb (Nat.le_refl _)).later (((Below.refl _ _).alloc (Nat.le_refl _) (.cells #[.int .i64 a.c, .int .i64 a.s, .int .i64 a.mn, .int .i64 a.mx, .int .i64 a.h0, .int .i64 a.h1, .int .i64 a.h2, .int .i64 a.h3] 24))) (Nat.le_refl _))
        have hST := (HST.out.call hb).alloc #[.int .i64 a.c, .int .i64 a.s, .int .i64 a.mn, .int .i64 a.mx, .int .i64 a.h0, .int .i64 a.h1, .int .i64 a.h2, .int .i64 a.h3]
        clear HST hb HtS
        have HST := Lib.hid hST
        clear hST
        unfold A8.arr
        dsimp only
        go_wp2_with fail
        refine (of_list HtS1.out (by simp; omega)).mono ?_
        rintro e u1 ⟨rfl, hb⟩
        rw [Hb'.out]
        have Hne01 : Hid (u0.heap.size ≠ u1.heap.size) := (((HST.out.call hb).newblk #[]).2.2 (u0.heap.size, #[.int .i64 a.c, .int .i64 a.s, .int .i64 a.mn, .int .i64 a.mx, .int .i64 a.h0, .int .i64 a.h1, .int .i64 a.h2, .int .i64 a.h3]) (by simp))
        have hST := (HST.out.call hb).alloc #[.int .i64 b'.c, .int .i64 b'.s, .int .i64 b'.mn, .int .i64 b'.mx, .int .i64 b'.h0, .int .i64 b'.h1, .int .i64 b'.h2, .int .i64 b'.h3]
        clear HST hb HtS1
        have HST := Lib.hid hST
        clear hST
        unfold A8.arr
        dsimp only
        go_upto_region 17 with fail
        generalize hV : World.alloc u1 _ = V0 at HST
        clear hV
        go_cut [11] (fun v w => ∃ g : Nat, v = .pointer (some ⟨g, 0, none⟩) ∧ St wc ((g, #[.int .i64 c.c, .int .i64 c.s, .int .i64 c.mn, .int .i64 c.mx, .int .i64 c.h0, .int .i64 c.h1, .int .i64 c.h2, .int .i64 c.h3]) :: [(u1.heap.size, #[.int .i64 b'.c, .int .i64 b'.s, .int .i64 b'.mn, .int .i64 b'.mx, .int .i64 b'.h0, .int .i64 b'.h1, .int .i64 b'.h2, .int .i64 b'.h3]), (u0.heap.size, #[.int .i64 a.c, .int .i64 a.s, .int .i64 a.mn, .int .i64 a.mx, .int .i64 a.h0, .int .i64 a.h1, .int .i64 a.h2, .int .i64 a.h3])]) w ∧ ∀ p : Nat × Array Value, p ∈ ([(u1.heap.size, #[.int .i64 b'.c, .int .i64 b'.s, .int .i64 b'.mn, .int .i64 b'.mx, .int .i64 b'.h0, .int .i64 b'.h1, .int .i64 b'.h2, .int .i64 b'.h3]), (u0.heap.size, #[.int .i64 a.c, .int .i64 a.s, .int .i64 a.mn, .int .i64 a.mx, .int .i64 a.h0, .int .i64 a.h1, .int .i64 a.h2, .int .i64 a.h3])] : List (Nat × Array Value)) → p.1 ≠ g)
        case first =>
          have kb1 : (0 : Int) ≤ (K : Int) := by omega
          have kb2 : (K : Int) ≤ (cap : Int) := by omega
          have kb3 : (K : Int) ≤ (l.length : Int) := by omega
          have kb4 : (l.length : Int) ≤ (cap : Int) := by omega
          have kb5 : ¬ (cap : Int) = (K : Int) := by omega
          have kb6 : ¬ cap = K := by omega
          refine wp_region_held_drew (S := St wc [(u1.heap.size, #[.int .i64 b'.c, .int .i64 b'.s, .int .i64 b'.mn, .int .i64 b'.mx, .int .i64 b'.h0, .int .i64 b'.h1, .int .i64 b'.h2, .int .i64 b'.h3]), (u0.heap.size, #[.int .i64 a.c, .int .i64 a.s, .int .i64 a.mn, .int .i64 a.mx, .int .i64 a.h0, .int .i64 a.h1, .int .i64 a.h2, .int .i64 a.h3])]) (by kernel_rfl) HST.out.drew (fun hHeld => ?_)
          refine take_at (i := 0) (v := ?_) rfl rfl (by kernel_rfl) (by kernel_rfl) (by kernel_rfl) (fun _ _ _ h => h) (Or.inl ⟨by rfl, ?_⟩) (by assumption) ?_
          rotate_left; (intro w hSw; (try dsimp only at hSw); go_simp; try with_reducible rfl)
          simp only [Act.put, List.setIfInBounds_toArray, List.set_cons_zero, List.set_cons_succ]
          refine take_at (i := 1) (v := ?_) rfl rfl (by kernel_rfl) (by kernel_rfl) (by kernel_rfl) (fun _ _ _ h => h) (Or.inl ⟨by rfl, ?_⟩) (by assumption) ?_
          rotate_left; (intro w hSw; (try dsimp only at hSw); go_simp; try with_reducible rfl)
          simp only [Act.put, List.setIfInBounds_toArray, List.set_cons_zero, List.set_cons_succ]
          refine take_at (i := 2) (v := ?_) rfl rfl (by kernel_rfl) (by kernel_rfl) (by kernel_rfl) (fun _ _ _ h => h) (Or.inl ⟨by rfl, ?_⟩) (by assumption) ?_
          rotate_left; (intro w hSw; (try dsimp only at hSw); go_simp; try with_reducible rfl)
          try simp only [Act.put, List.setIfInBounds_toArray, List.set_cons_zero, List.set_cons_succ]
          refine take_at (i := 4) (v := ?_) rfl rfl (by kernel_rfl) (by kernel_rfl) (by kernel_rfl) (fun _ _ _ h => h) (Or.inl ⟨by rfl, ?_⟩) (by assumption) ?_
          rotate_left; (intro w hSw; (try dsimp only at hSw); go_simp; try with_reducible rfl)
          simp only [Act.put, List.setIfInBounds_toArray, List.set_cons_zero, List.set_cons_succ]
          refine take_at (i := 5) (v := ?_) rfl rfl (by kernel_rfl) (by kernel_rfl) (by kernel_rfl) (fun _ _ _ h => h) (Or.inl ⟨by rfl, ?_⟩) (by assumption) ?_
          rotate_left; (intro w hSw; (try dsimp only at hSw); go_simp; try with_reducible rfl)
          simp only [Act.put, List.setIfInBounds_toArray, List.set_cons_zero, List.set_cons_succ]
          refine take_at (i := 6) (v := ?_) rfl rfl (by kernel_rfl) (by kernel_rfl) (by kernel_rfl) (fun _ _ _ h => h) (Or.inl ⟨by rfl, ?_⟩) (by assumption) ?_
          rotate_left; (intro w hSw; (try dsimp only at hSw); go_simp; try with_reducible rfl)
          try simp only [Act.put, List.setIfInBounds_toArray, List.set_cons_zero, List.set_cons_succ]
          refine step2_at (i := 3) (j := 9) (by kernel_rfl) rfl rfl rfl rfl (by rfl) (by rfl) (fun K' hK' => ?_) (fun K' hK' => ?_)
          · go_simp
            refine (of_list ((hHeld.list HS.out).takeK hK) (by simp; omega)).mono ?_
            rintro e w1 ⟨rfl, hb1⟩
            rw [Hc1.out]
            unfold A8.arr
            dsimp only
            refine hK'.out _ _ (hHeld.call hb1) (fun hHeld2 => ?_)
            clear hK' K' hHeld hb1
            have hHeld := hHeld2
            clear hHeld2
            simp only [Act.put, List.setIfInBounds_toArray, List.set_cons_zero, List.set_cons_succ]
            refine step2_at (i := 7) (j := 9) (by kernel_rfl) rfl rfl rfl rfl (by rfl) (by rfl) (fun K' hK' => ?_) (fun K' hK' => ?_)
            · go_simp
              refine (of_list ((hHeld.list HS.out).dropK hK) (by simp; omega)).mono ?_
              rintro e w1 ⟨rfl, hb1⟩
              rw [Hc2.out]
              unfold A8.arr
              dsimp only
              refine hK'.out _ _ (hHeld.call hb1) (fun hHeld2 => ?_)
              clear hK' K' hHeld hb1
              have hHeld := hHeld2
              clear hHeld2
              simp only [Act.put, List.setIfInBounds_toArray, List.set_cons_zero, List.set_cons_succ]
              refine step2_at (i := 8) (j := 9) (by kernel_rfl) rfl rfl rfl rfl (by rfl) (by rfl) (fun K' hK' => ?_) (fun K' hK' => ?_)
              · go_simp
                refine (join_8 c1 c2 _).mono ?_
                rintro e w1 ⟨rfl, hb1⟩
                rw [Hc.out]
                unfold A8.arr
                dsimp only
                refine hK'.out _ _ (hHeld.call hb1) (fun hHeld2 => ?_)
                clear hK' K' hHeld hb1
                have hHeld := hHeld2
                clear hHeld2
                simp only [Act.put, List.setIfInBounds_toArray, List.set_cons_zero, List.set_cons_succ]
                refine step_at (i := 9) (by kernel_rfl) rfl rfl (by rfl) (fun K' hK' => ?_)
                go_simp
                obtain ⟨hgb, hg0, hne⟩ := hHeld.newblk #[.int .i64 0, .int .i64 0, .int .i64 0, .int .i64 0, .int .i64 0, .int .i64 0, .int .i64 0, .int .i64 0]
                try simp only [show ∀ w : World, w.drew.heap = w.heap from fun _ => rfl] at hgb hg0 hne
                refine hK'.out _ _ (hHeld.other _) (fun hHeld2 => ?_)
                clear hK' K' hHeld
                simp only [Act.put, List.setIfInBounds_toArray, List.set_cons_zero, List.set_cons_succ]
                refine wpAnyH_blk (w0 := wc) hgb hHeld2 ?_
                clear hgb hHeld2
                intro wa hgb hHeld
                have hcz := cells_at hgb
                have hfz := thaw_at hgb
                have h8 := hHeld.store8 hgb hg0 hne (.int .i64 c.c) (.int .i64 c.s) (.int .i64 c.mn) (.int .i64 c.mx) (.int .i64 c.h0) (.int .i64 c.h1) (.int .i64 c.h2) (.int .i64 c.h3)
                refine wpAnyH_ready (rs := [10]) (by kernel_rfl) (by simp) (AllReadyH.cons rfl (fun K' hK' => ?_) AllReadyH.nil)
                go_simp
                clear hcz hfz
                refine hK'.out _ _ h8.tail (fun hHeld2 => ?_)
                clear hK' K' hHeld hHeld2
                refine wpAnyH_done (by kernel_rfl) ?_ _
                go_wp2_with fail
                go_meet
                exact ⟨_, rfl, h8, hne⟩
              · go_simp
                obtain ⟨hgb, hg0, hne⟩ := hHeld.newblk #[.int .i64 0, .int .i64 0, .int .i64 0, .int .i64 0, .int .i64 0, .int .i64 0, .int .i64 0, .int .i64 0]
                try simp only [show ∀ w : World, w.drew.heap = w.heap from fun _ => rfl] at hgb hg0 hne
                refine hK'.out _ _ (hHeld.other _) (fun hHeld2 => ?_)
                clear hK' K' hHeld
                simp only [Act.put, List.setIfInBounds_toArray, List.set_cons_zero, List.set_cons_succ]
                refine wpAnyH_blk (w0 := wc) hgb hHeld2 ?_
                clear hgb hHeld2
                intro wa hgb hHeld
                refine step_at (i := 8) (by kernel_rfl) rfl rfl (by rfl) (fun K' hK' => ?_)
                go_simp
                refine (join_8 c1 c2 _).mono ?_
                rintro e w1 ⟨rfl, hb1⟩
                rw [Hc.out]
                unfold A8.arr
                dsimp only
                replace hgb := (hb1.block _ (blk_lt hgb)).trans hgb
                refine hK'.out _ _ (hHeld.call hb1) (fun hHeld2 => ?_)
                clear hK' K' hHeld hb1
                have hHeld := hHeld2
                clear hHeld2
                simp only [Act.put, List.setIfInBounds_toArray, List.set_cons_zero, List.set_cons_succ]
                have hcz := cells_at hgb
                have hfz := thaw_at hgb
                have h8 := hHeld.store8 hgb hg0 hne (.int .i64 c.c) (.int .i64 c.s) (.int .i64 c.mn) (.int .i64 c.mx) (.int .i64 c.h0) (.int .i64 c.h1) (.int .i64 c.h2) (.int .i64 c.h3)
                refine wpAnyH_ready (rs := [10]) (by kernel_rfl) (by simp) (AllReadyH.cons rfl (fun K' hK' => ?_) AllReadyH.nil)
                go_simp
                clear hcz hfz
                refine hK'.out _ _ h8.tail (fun hHeld2 => ?_)
                clear hK' K' hHeld hHeld2
                refine wpAnyH_done (by kernel_rfl) ?_ _
                go_wp2_with fail
                go_meet
                exact ⟨_, rfl, h8, hne⟩
            · go_simp
              obtain ⟨hgb, hg0, hne⟩ := hHeld.newblk #[.int .i64 0, .int .i64 0, .int .i64 0, .int .i64 0, .int .i64 0, .int .i64 0, .int .i64 0, .int .i64 0]
              try simp only [show ∀ w : World, w.drew.heap = w.heap from fun _ => rfl] at hgb hg0 hne
              refine hK'.out _ _ (hHeld.other _) (fun hHeld2 => ?_)
              clear hK' K' hHeld
              simp only [Act.put, List.setIfInBounds_toArray, List.set_cons_zero, List.set_cons_succ]
              refine wpAnyH_blk (w0 := wc) hgb hHeld2 ?_
              clear hgb hHeld2
              intro wa hgb hHeld
              refine step_at (i := 7) (by kernel_rfl) rfl rfl (by rfl) (fun K' hK' => ?_)
              go_simp
              refine (of_list ((hHeld.list HS.out).dropK hK) (by simp; omega)).mono ?_
              rintro e w1 ⟨rfl, hb1⟩
              rw [Hc2.out]
              unfold A8.arr
              dsimp only
              replace hgb := (hb1.block _ (blk_lt hgb)).trans hgb
              refine hK'.out _ _ (hHeld.call hb1) (fun hHeld2 => ?_)
              clear hK' K' hHeld hb1
              have hHeld := hHeld2
              clear hHeld2
              simp only [Act.put, List.setIfInBounds_toArray, List.set_cons_zero, List.set_cons_succ]
              refine step_at (i := 8) (by kernel_rfl) rfl rfl (by rfl) (fun K' hK' => ?_)
              go_simp
              refine (join_8 c1 c2 _).mono ?_
              rintro e w1 ⟨rfl, hb1⟩
              rw [Hc.out]
              unfold A8.arr
              dsimp only
              replace hgb := (hb1.block _ (blk_lt hgb)).trans hgb
              refine hK'.out _ _ (hHeld.call hb1) (fun hHeld2 => ?_)
              clear hK' K' hHeld hb1
              have hHeld := hHeld2
              clear hHeld2
              simp only [Act.put, List.setIfInBounds_toArray, List.set_cons_zero, List.set_cons_succ]
              have hcz := cells_at hgb
              have hfz := thaw_at hgb
              have h8 := hHeld.store8 hgb hg0 hne (.int .i64 c.c) (.int .i64 c.s) (.int .i64 c.mn) (.int .i64 c.mx) (.int .i64 c.h0) (.int .i64 c.h1) (.int .i64 c.h2) (.int .i64 c.h3)
              refine wpAnyH_ready (rs := [10]) (by kernel_rfl) (by simp) (AllReadyH.cons rfl (fun K' hK' => ?_) AllReadyH.nil)
              go_simp
              clear hcz hfz
              refine hK'.out _ _ h8.tail (fun hHeld2 => ?_)
              clear hK' K' hHeld hHeld2
              refine wpAnyH_done (by kernel_rfl) ?_ _
              go_wp2_with fail
              go_meet
              exact ⟨_, rfl, h8, hne⟩
          · go_simp
            obtain ⟨hgb, hg0, hne⟩ := hHeld.newblk #[.int .i64 0, .int .i64 0, .int .i64 0, .int .i64 0, .int .i64 0, .int .i64 0, .int .i64 0, .int .i64 0]
            try simp only [show ∀ w : World, w.drew.heap = w.heap from fun _ => rfl] at hgb hg0 hne
            refine hK'.out _ _ (hHeld.other _) (fun hHeld2 => ?_)
            clear hK' K' hHeld
            simp only [Act.put, List.setIfInBounds_toArray, List.set_cons_zero, List.set_cons_succ]
            refine wpAnyH_blk (w0 := wc) hgb hHeld2 ?_
            clear hgb hHeld2
            intro wa hgb hHeld
            refine step_at (i := 3) (by kernel_rfl) rfl rfl (by rfl) (fun K' hK' => ?_)
            go_simp
            refine (of_list ((hHeld.list HS.out).takeK hK) (by simp; omega)).mono ?_
            rintro e w1 ⟨rfl, hb1⟩
            rw [Hc1.out]
            unfold A8.arr
            dsimp only
            replace hgb := (hb1.block _ (blk_lt hgb)).trans hgb
            refine hK'.out _ _ (hHeld.call hb1) (fun hHeld2 => ?_)
            clear hK' K' hHeld hb1
            have hHeld := hHeld2
            clear hHeld2
            simp only [Act.put, List.setIfInBounds_toArray, List.set_cons_zero, List.set_cons_succ]
            refine step_at (i := 7) (by kernel_rfl) rfl rfl (by rfl) (fun K' hK' => ?_)
            go_simp
            refine (of_list ((hHeld.list HS.out).dropK hK) (by simp; omega)).mono ?_
            rintro e w1 ⟨rfl, hb1⟩
            rw [Hc2.out]
            unfold A8.arr
            dsimp only
            replace hgb := (hb1.block _ (blk_lt hgb)).trans hgb
            refine hK'.out _ _ (hHeld.call hb1) (fun hHeld2 => ?_)
            clear hK' K' hHeld hb1
            have hHeld := hHeld2
            clear hHeld2
            simp only [Act.put, List.setIfInBounds_toArray, List.set_cons_zero, List.set_cons_succ]
            refine step_at (i := 8) (by kernel_rfl) rfl rfl (by rfl) (fun K' hK' => ?_)
            go_simp
            refine (join_8 c1 c2 _).mono ?_
            rintro e w1 ⟨rfl, hb1⟩
            rw [Hc.out]
            unfold A8.arr
            dsimp only
            replace hgb := (hb1.block _ (blk_lt hgb)).trans hgb
            refine hK'.out _ _ (hHeld.call hb1) (fun hHeld2 => ?_)
            clear hK' K' hHeld hb1
            have hHeld := hHeld2
            clear hHeld2
            simp only [Act.put, List.setIfInBounds_toArray, List.set_cons_zero, List.set_cons_succ]
            have hcz := cells_at hgb
            have hfz := thaw_at hgb
            have h8 := hHeld.store8 hgb hg0 hne (.int .i64 c.c) (.int .i64 c.s) (.int .i64 c.mn) (.int .i64 c.mx) (.int .i64 c.h0) (.int .i64 c.h1) (.int .i64 c.h2) (.int .i64 c.h3)
            refine wpAnyH_ready (rs := [10]) (by kernel_rfl) (by simp) (AllReadyH.cons rfl (fun K' hK' => ?_) AllReadyH.nil)
            go_simp
            clear hcz hfz
            refine hK'.out _ _ h8.tail (fun hHeld2 => ?_)
            clear hK' K' hHeld hHeld2
            refine wpAnyH_done (by kernel_rfl) ?_ _
            go_wp2_with fail
            go_meet
            exact ⟨_, rfl, h8, hne⟩
        case rest =>
          obtain ⟨gc, rfl, hST, hnec⟩ := hcut
          have HST := Lib.hid hST
          have ne1 := hnec (u0.heap.size, #[.int .i64 a.c, .int .i64 a.s, .int .i64 a.mn, .int .i64 a.mx, .int .i64 a.h0, .int .i64 a.h1, .int .i64 a.h2, .int .i64 a.h3]) (by simp)
          have ne2 := hnec (u1.heap.size, #[.int .i64 b'.c, .int .i64 b'.s, .int .i64 b'.mn, .int .i64 b'.mx, .int .i64 b'.h0, .int .i64 b'.h1, .int .i64 b'.h2, .int .i64 b'.h3]) (by simp)
          have ne3 := Hne01.out
          clear hST hnec
          dsimp only at ne1 ne2
          cases hsm : smallB l
          · clear hsm
            have hS3 := HST.out.sub (L' := [(u1.heap.size, #[.int .i64 b'.c, .int .i64 b'.s, .int .i64 b'.mn, .int .i64 b'.mx, .int .i64 b'.h0, .int .i64 b'.h1, .int .i64 b'.h2, .int .i64 b'.h3]), (u0.heap.size, #[.int .i64 a.c, .int .i64 a.s, .int .i64 a.mn, .int .i64 a.mx, .int .i64 a.h0, .int .i64 a.h1, .int .i64 a.h2, .int .i64 a.h3]), (gc, #[.int .i64 c.c, .int .i64 c.s, .int .i64 c.mn, .int .i64 c.mx, .int .i64 c.h0, .int .i64 c.h1, .int .i64 c.h2, .int .i64 c.h3])]) (fun p hp => by simp only [List.mem_cons, List.not_mem_nil, or_false] at hp ⊢; rcases hp with rfl | rfl | rfl <;> simp)
            have hcx := hS3.cells (u0.heap.size) #[.int .i64 a.c, .int .i64 a.s, .int .i64 a.mn, .int .i64 a.mx, .int .i64 a.h0, .int .i64 a.h1, .int .i64 a.h2, .int .i64 a.h3] (by simp)
            have hcy := hS3.cells (u1.heap.size) #[.int .i64 b'.c, .int .i64 b'.s, .int .i64 b'.mn, .int .i64 b'.mx, .int .i64 b'.h0, .int .i64 b'.h1, .int .i64 b'.h2, .int .i64 b'.h3] (by simp)
            have hfy := hS3.thaw (u1.heap.size) #[.int .i64 b'.c, .int .i64 b'.s, .int .i64 b'.mn, .int .i64 b'.mx, .int .i64 b'.h0, .int .i64 b'.h1, .int .i64 b'.h2, .int .i64 b'.h3] (by simp)
            have HS3 := Lib.hid hS3
            clear hS3
            go_upto_region 20 with fail
            have hS4 := HS3.out.put1 (fun p hp => by simp only [List.mem_cons, List.not_mem_nil, or_false] at hp; rcases hp with rfl | rfl; exact ne3; exact (Ne.symm ne2)) 1 (.int .i64 a.s)
            simp only [List.setIfInBounds_toArray, List.set_cons_zero, List.set_cons_succ] at hS4
            clear hcx hcy hfy
            generalize hV5 : World.setCell _ _ _ = V5 at hS4
            clear hV5
            have hS5 := hS4.sub (L' := [(gc, #[.int .i64 c.c, .int .i64 c.s, .int .i64 c.mn, .int .i64 c.mx, .int .i64 c.h0, .int .i64 c.h1, .int .i64 c.h2, .int .i64 c.h3]), (u0.heap.size, #[.int .i64 a.c, .int .i64 a.s, .int .i64 a.mn, .int .i64 a.mx, .int .i64 a.h0, .int .i64 a.h1, .int .i64 a.h2, .int .i64 a.h3]), (u1.heap.size, #[.int .i64 b'.c, .int .i64 a.s, .int .i64 b'.mn, .int .i64 b'.mx, .int .i64 b'.h0, .int .i64 b'.h1, .int .i64 b'.h2, .int .i64 b'.h3])]) (fun p hp => by simp only [List.mem_cons, List.not_mem_nil, or_false] at hp ⊢; rcases hp with rfl | rfl | rfl <;> simp)
            clear hS4
            have hcx := hS5.cells (u0.heap.size) #[.int .i64 a.c, .int .i64 a.s, .int .i64 a.mn, .int .i64 a.mx, .int .i64 a.h0, .int .i64 a.h1, .int .i64 a.h2, .int .i64 a.h3] (by simp)
            have hcy := hS5.cells gc #[.int .i64 c.c, .int .i64 c.s, .int .i64 c.mn, .int .i64 c.mx, .int .i64 c.h0, .int .i64 c.h1, .int .i64 c.h2, .int .i64 c.h3] (by simp)
            have hfy := hS5.thaw gc #[.int .i64 c.c, .int .i64 c.s, .int .i64 c.mn, .int .i64 c.mx, .int .i64 c.h0, .int .i64 c.h1, .int .i64 c.h2, .int .i64 c.h3] (by simp)
            have HS5 := Lib.hid hS5
            clear hS5
            go_upto_region 21 with fail
            have hS6 := HS5.out.put1 (fun p hp => by simp only [List.mem_cons, List.not_mem_nil, or_false] at hp; rcases hp with rfl | rfl; exact ne1; exact ne2) 1 (.int .i64 a.s)
            simp only [List.setIfInBounds_toArray, List.set_cons_zero, List.set_cons_succ] at hS6
            clear hcx hcy hfy
            generalize hV6 : World.setCell _ _ _ = V6 at hS6
            clear hV6
            have HS6 := Lib.hid hS6
            clear hS6
            have hca := HS6.out.cells (u0.heap.size) #[.int .i64 a.c, .int .i64 a.s, .int .i64 a.mn, .int .i64 a.mx, .int .i64 a.h0, .int .i64 a.h1, .int .i64 a.h2, .int .i64 a.h3] (by simp)
            have hcb := HS6.out.cells (u1.heap.size) #[.int .i64 b'.c, .int .i64 a.s, .int .i64 b'.mn, .int .i64 b'.mx, .int .i64 b'.h0, .int .i64 b'.h1, .int .i64 b'.h2, .int .i64 b'.h3] (by simp)
            have hcc := HS6.out.cells gc #[.int .i64 c.c, .int .i64 a.s, .int .i64 c.mn, .int .i64 c.mx, .int .i64 c.h0, .int .i64 c.h1, .int .i64 c.h2, .int .i64 c.h3] (by simp)
            clear ne1 ne2 ne3
            go_wp2_with fail
            refine (right_8 a _).mono ?_
            rintro e w8 ⟨rfl, hb8⟩
            rw [HF.out.1]
            have HS8 := Lib.hid (HS6.out.call hb8)
            clear hb8 hca hcb hcc
            have hca := HS8.out.cells (u0.heap.size) #[.int .i64 a.c, .int .i64 a.s, .int .i64 a.mn, .int .i64 a.mx, .int .i64 a.h0, .int .i64 a.h1, .int .i64 a.h2, .int .i64 a.h3] (by simp)
            have hcb := HS8.out.cells (u1.heap.size) #[.int .i64 b'.c, .int .i64 a.s, .int .i64 b'.mn, .int .i64 b'.mx, .int .i64 b'.h0, .int .i64 b'.h1, .int .i64 b'.h2, .int .i64 b'.h3] (by simp)
            have hcc := HS8.out.cells gc #[.int .i64 c.c, .int .i64 a.s, .int .i64 c.mn, .int .i64 c.mx, .int .i64 c.h0, .int .i64 c.h1, .int .i64 c.h2, .int .i64 c.h3] (by simp)
            obtain ⟨_, f2, ⟨p1, p2, p3, p4, p5, p6, p7⟩, ⟨q1, q2, q3, q4, q5, q6, q7⟩, f3⟩ := HF.out
            replace p1 := p1.symm
            replace p2 := p2.symm
            replace p3 := p3.symm
            replace p4 := p4.symm
            replace p5 := p5.symm
            replace p6 := p6.symm
            replace p7 := p7.symm
            replace q1 := q1.symm
            replace q2 := q2.symm
            replace q3 := q3.symm
            replace q4 := q4.symm
            replace q5 := q5.symm
            replace q6 := q6.symm
            replace q7 := q7.symm
            clear f3
            go_wp2_with fail
            refine (wakes_any _).mono ?_
            rintro e w9 ⟨rfl, hb9⟩
            have hbel := (HS8.out.call hb9).1
            clear hca hcb hcc hb9
            go_wp2
            go_ret
            exact ⟨rfl, hbel⟩
          · have Hsm := Lib.hid hsm
            clear hsm
            have hca := HST.out.cells (u0.heap.size) #[.int .i64 a.c, .int .i64 a.s, .int .i64 a.mn, .int .i64 a.mx, .int .i64 a.h0, .int .i64 a.h1, .int .i64 a.h2, .int .i64 a.h3] (by simp)
            have hcb := HST.out.cells (u1.heap.size) #[.int .i64 b'.c, .int .i64 b'.s, .int .i64 b'.mn, .int .i64 b'.mx, .int .i64 b'.h0, .int .i64 b'.h1, .int .i64 b'.h2, .int .i64 b'.h3] (by simp)
            have hcc := HST.out.cells gc #[.int .i64 c.c, .int .i64 c.s, .int .i64 c.mn, .int .i64 c.mx, .int .i64 c.h0, .int .i64 c.h1, .int .i64 c.h2, .int .i64 c.h3] (by simp)
            clear ne1 ne2 ne3
            go_wp2_with fail
            refine (right_8 a _).mono ?_
            rintro e w8 ⟨rfl, hb8⟩
            rw [HF.out.1]
            have HS8 := Lib.hid (HST.out.call hb8)
            clear hb8 hca hcb hcc
            have hca := HS8.out.cells (u0.heap.size) #[.int .i64 a.c, .int .i64 a.s, .int .i64 a.mn, .int .i64 a.mx, .int .i64 a.h0, .int .i64 a.h1, .int .i64 a.h2, .int .i64 a.h3] (by simp)
            have hcb := HS8.out.cells (u1.heap.size) #[.int .i64 b'.c, .int .i64 b'.s, .int .i64 b'.mn, .int .i64 b'.mx, .int .i64 b'.h0, .int .i64 b'.h1, .int .i64 b'.h2, .int .i64 b'.h3] (by simp)
            have hcc := HS8.out.cells gc #[.int .i64 c.c, .int .i64 c.s, .int .i64 c.mn, .int .i64 c.mx, .int .i64 c.h0, .int .i64 c.h1, .int .i64 c.h2, .int .i64 c.h3] (by simp)
            obtain ⟨_, f2, ⟨p1, p2, p3, p4, p5, p6, p7⟩, ⟨q1, q2, q3, q4, q5, q6, q7⟩, f3⟩ := HF.out
            replace p1 := p1.symm
            replace p2 := p2.symm
            replace p3 := p3.symm
            replace p4 := p4.symm
            replace p5 := p5.symm
            replace p6 := p6.symm
            replace p7 := p7.symm
            replace q1 := q1.symm
            replace q2 := q2.symm
            replace q3 := q3.symm
            replace q4 := q4.symm
            replace q5 := q5.symm
            replace q6 := q6.symm
            replace q7 := q7.symm
            obtain ⟨s1, s2⟩ := f3 Hsm.out
            clear f3
            replace s1 := s1.symm
            replace s2 := s2.symm
            go_wp2_with fail
            refine (wakes_any _).mono ?_
            rintro e w9 ⟨rfl, hb9⟩
            have hbel := (HS8.out.call hb9).1
            clear hca hcb hcc hb9
            go_wp2
            go_ret
            exact ⟨rfl, hbel⟩
      · obtain ⟨j, rfl⟩ : ∃ m, j = m + 1 := ⟨j - 1, by omega⟩
        clear hj0
        rw [show (((j + 1 : Nat) : Int) - 1) = (j : Int) from by omega]
        have hcell := (Hb.out.cell (p := ⟨b, off + j, none⟩) hbw).trans (HC.out j (by omega))
        obtain ⟨v, hv⟩ : ∃ v, v = l.getD j 0 := ⟨_, rfl⟩
        rw [← hv] at hcell
        have Hds := Lib.hid (drop_step l j (by omega))
        have Hv := Lib.hid hv
        clear hv
        have Hown := Lib.hid hown
        cases hsm : smallB (l.drop (j + 1))
        · have Hsm := Lib.hid hsm
          clear hsm hown
          go_wp2_with (at_builtin; refine wpList_append_own _ rfl _ _ 32 rfl wc.heap.size 2 i0 (.int .i64 0) 1 8 Try.underlying32 hi hz0 hz1 hz2 rfl (by decide) _ _ _ rfl (Hown.out.alloc _) ⟨wr.heap.size, 0, none⟩ 1 1 [.int .i64 v] rfl rfl ?a1 ?a2 ?a3 ?a4 ?a5 ?_)
          try (case a1 => (exact cell_one_new _ _ _))
          try (case a2 => (first | rfl | (intro u hu; simp at hu; subst hu; rfl)))
          try (case a3 => (unfold maxLen; omega))
          try (case a4 => (omega))
          try (case a5 => (have := Hb.out.size; simp; omega))
          intro v' w1 hown' hgrow _
          have hge := own_ge Hown.out
          have hcell1 := hgrow.cell (a := ⟨b, off + j, none⟩) ((World.cell?_alloc_past _ _ _ (Nat.lt_of_lt_of_le hbw Hb.out.size)).trans hcell) (fun e => by have := hge b e.symm; omega)
          have Hbl1 := Lib.hid ((Hb.out.alloc Hb.out.size _).grown hgrow (by have := Hb.out.size; simp; omega) hge)
          rw [show l.length - (j + 1) + 1 = l.length - j from by omega] at hown'
          have hown2 : w1.ownsRow wc.heap.size 2 1 v' (l.length - j) ((l.drop j).reverse.map (Value.int .i64)) := by
            rw [Hds.out, ← Hv.out]; simpa using hown'
          have Hown1 := Lib.hid hown2
          clear hown' hown2 hgrow hge hcell
          go_wp2
          go_roundw
          case rel => exact ⟨j, by omega, rfl, Hown1.out, Hbl1.out, congrArg Value.bool (by rw [Hds.out, smallB_cons, ← Hv.out, Hsm.out]; simp)⟩
          case measure => simp [intOf]
        · have Hsm := Lib.hid hsm
          clear hsm hown
          by_cases hlo : -1099511627776 < v
          · by_cases hhi : v < 1099511627776
            · have Hx := Lib.hid (And.intro hlo hhi)
              go_wp2_with (at_builtin; refine wpList_append_own _ rfl _ _ 32 rfl wc.heap.size 2 i0 (.int .i64 0) 1 8 Try.underlying32 hi hz0 hz1 hz2 rfl (by decide) _ _ _ rfl (Hown.out.alloc _) ⟨wr.heap.size, 0, none⟩ 1 1 [.int .i64 v] rfl rfl ?b1 ?b2 ?b3 ?b4 ?b5 ?_)
              try (case b1 => (exact cell_one_new _ _ _))
              try (case b2 => (first | rfl | (intro u hu; simp at hu; subst hu; rfl)))
              try (case b3 => (unfold maxLen; omega))
              try (case b4 => (omega))
              try (case b5 => (have := Hb.out.size; simp; omega))
              intro v' w1 hown' hgrow _
              have hge := own_ge Hown.out
              have hcell1 := hgrow.cell (a := ⟨b, off + j, none⟩) ((World.cell?_alloc_past _ _ _ (Nat.lt_of_lt_of_le hbw Hb.out.size)).trans hcell) (fun e => by have := hge b e.symm; omega)
              have Hbl1 := Lib.hid ((Hb.out.alloc Hb.out.size _).grown hgrow (by have := Hb.out.size; simp; omega) hge)
              rw [show l.length - (j + 1) + 1 = l.length - j from by omega] at hown'
              have hown2 : w1.ownsRow wc.heap.size 2 1 v' (l.length - j) ((l.drop j).reverse.map (Value.int .i64)) := by
                rw [Hds.out, ← Hv.out]; simpa using hown'
              have Hown1 := Lib.hid hown2
              clear hown' hown2 hgrow hge hcell
              go_wp2
              go_roundw
              case rel => exact ⟨j, by omega, rfl, Hown1.out, Hbl1.out, congrArg Value.bool (by rw [Hds.out, smallB_cons, ← Hv.out, Hsm.out]; simp [Hx.out.1, Hx.out.2])⟩
              case measure => simp [intOf]
            · have Hx := Lib.hid hhi
              replace hhi := Int.not_lt.1 hhi
              go_wp2_with (at_builtin; refine wpList_append_own _ rfl _ _ 32 rfl wc.heap.size 2 i0 (.int .i64 0) 1 8 Try.underlying32 hi hz0 hz1 hz2 rfl (by decide) _ _ _ rfl (Hown.out.alloc _) ⟨wr.heap.size, 0, none⟩ 1 1 [.int .i64 v] rfl rfl ?c1 ?c2 ?c3 ?c4 ?c5 ?_)
              try (case c1 => (exact cell_one_new _ _ _))
              try (case c2 => (first | rfl | (intro u hu; simp at hu; subst hu; rfl)))
              try (case c3 => (unfold maxLen; omega))
              try (case c4 => (omega))
              try (case c5 => (have := Hb.out.size; simp; omega))
              intro v' w1 hown' hgrow _
              have hge := own_ge Hown.out
              have hcell1 := hgrow.cell (a := ⟨b, off + j, none⟩) ((World.cell?_alloc_past _ _ _ (Nat.lt_of_lt_of_le hbw Hb.out.size)).trans hcell) (fun e => by have := hge b e.symm; omega)
              have Hbl1 := Lib.hid ((Hb.out.alloc Hb.out.size _).grown hgrow (by have := Hb.out.size; simp; omega) hge)
              rw [show l.length - (j + 1) + 1 = l.length - j from by omega] at hown'
              have hown2 : w1.ownsRow wc.heap.size 2 1 v' (l.length - j) ((l.drop j).reverse.map (Value.int .i64)) := by
                rw [Hds.out, ← Hv.out]; simpa using hown'
              have Hown1 := Lib.hid hown2
              clear hown' hown2 hgrow hge hcell
              go_wp2
              go_roundw
              case rel => exact ⟨j, by omega, rfl, Hown1.out, Hbl1.out, congrArg Value.bool (by rw [Hds.out, smallB_cons, ← Hv.out, Hsm.out]; have hx := Hx.out; simp; omega)⟩
              case measure => simp [intOf]
          · have Hx := Lib.hid hlo
            replace hlo := Int.not_lt.1 hlo
            go_wp2_with (at_builtin; refine wpList_append_own _ rfl _ _ 32 rfl wc.heap.size 2 i0 (.int .i64 0) 1 8 Try.underlying32 hi hz0 hz1 hz2 rfl (by decide) _ _ _ rfl (Hown.out.alloc _) ⟨wr.heap.size, 0, none⟩ 1 1 [.int .i64 v] rfl rfl ?d1 ?d2 ?d3 ?d4 ?d5 ?_)
            try (case d1 => (exact cell_one_new _ _ _))
            try (case d2 => (first | rfl | (intro u hu; simp at hu; subst hu; rfl)))
            try (case d3 => (unfold maxLen; omega))
            try (case d4 => (omega))
            try (case d5 => (have := Hb.out.size; simp; omega))
            intro v' w1 hown' hgrow _
            have hge := own_ge Hown.out
            have hcell1 := hgrow.cell (a := ⟨b, off + j, none⟩) ((World.cell?_alloc_past _ _ _ (Nat.lt_of_lt_of_le hbw Hb.out.size)).trans hcell) (fun e => by have := hge b e.symm; omega)
            have Hbl1 := Lib.hid ((Hb.out.alloc Hb.out.size _).grown hgrow (by have := Hb.out.size; simp; omega) hge)
            rw [show l.length - (j + 1) + 1 = l.length - j from by omega] at hown'
            have hown2 : w1.ownsRow wc.heap.size 2 1 v' (l.length - j) ((l.drop j).reverse.map (Value.int .i64)) := by
              rw [Hds.out, ← Hv.out]; simpa using hown'
            have Hown1 := Lib.hid hown2
            clear hown' hown2 hgrow hge hcell
            go_wp2
            go_roundw
            case rel => exact ⟨j, by omega, rfl, Hown1.out, Hbl1.out, congrArg Value.bool (by rw [Hds.out, smallB_cons, ← Hv.out, Hsm.out]; have hx := Hx.out; simp; omega)⟩
            case measure => simp [intOf]
end Go.Proofs.Ytoiakejagmeliaa
