/-
  meterref04.Same: whether two messages are the same, by the document.
-/
import Derived.Test.YtmmhchpilcjflaaMsgEq
import Derived.BigQuiet
import Derived.Test.YtmmhchpilcjflaaMsgGt
set_option linter.unusedSimpArgs false
set_option linter.unusedVariables false
namespace Go.Proofs.Ytmmhchpilcjflaa
open Go.RowKit

theorem results_ref {tmps : Array Value} {w : World} {v : Value} (h : tmps[4]? = some v) : (results Try.f14 tmps).run Try.prog w = .ok v w := by
  simp [results, Try.results14, go_sem, h]
section
variable {W : World} {a b : PMsg} {ao aS bo bs : Value}
set_option maxHeartbeats 64000000 in
set_option maxRecDepth 100000 in
theorem refSame_long (h1 : Rd W ao a.owner) (h2 : Rd W aS a.set) (h3 : Rd W bo b.owner) (h4 : Rd W bs b.set)
    (l1 : a.owner.length ≤ 1000000000000) (l2 : a.set.length ≤ 1000000000000) (e1 : a.set.length = b.set.length) (e2 : a.owner.length = b.owner.length) :
    Calls Try.prog 14 #[.agg (mcells a ao aS), .agg (mcells b bo bs)] W fun e W' => e = .returned (.bool (sameB a b)) ∧ Below W.heap.size W W' := by
  obtain ⟨A1, c1, rfl⟩ := h1.slc
  obtain ⟨A2, c2, rfl⟩ := h2.slc
  obtain ⟨A3, c3, rfl⟩ := h3.slc
  obtain ⟨A4, c4, rfl⟩ := h4.slc
  have hL := ((Live.init W).alloc (mcells a (.slice A1 a.owner.length c1) (.slice A2 a.set.length c2)) 29).alloc (mcells b (.slice A3 b.owner.length c3) (.slice A4 b.set.length c4)) 29
  have hs1 : ∀ (w : World) (o : Obj), (w.alloc o).heap.size = w.heap.size + 1 := fun w o => by simp
  simp only [hs1] at hL
  have a20 : ((W.alloc (.cells (mcells a (.slice A1 a.owner.length c1) (.slice A2 a.set.length c2)) 29)).alloc (.cells (mcells b (.slice A3 b.owner.length c3) (.slice A4 b.set.length c4)) 29)).cell? ⟨W.heap.size, 20, none⟩ = some (.slice A2 a.set.length c2) := hL.tail.cell 20
  have a19 : ((W.alloc (.cells (mcells a (.slice A1 a.owner.length c1) (.slice A2 a.set.length c2)) 29)).alloc (.cells (mcells b (.slice A3 b.owner.length c3) (.slice A4 b.set.length c4)) 29)).cell? ⟨W.heap.size, 19, none⟩ = some (.slice A1 a.owner.length c1) := hL.tail.cell 19
  have b20 : ((W.alloc (.cells (mcells a (.slice A1 a.owner.length c1) (.slice A2 a.set.length c2)) 29)).alloc (.cells (mcells b (.slice A3 b.owner.length c3) (.slice A4 b.set.length c4)) 29)).cell? ⟨W.heap.size + 1, 20, none⟩ = some (.slice A4 b.set.length c4) := hL.cell 20
  have b19 : ((W.alloc (.cells (mcells a (.slice A1 a.owner.length c1) (.slice A2 a.set.length c2)) 29)).alloc (.cells (mcells b (.slice A3 b.owner.length c3) (.slice A4 b.set.length c4)) 29)).cell? ⟨W.heap.size + 1, 19, none⟩ = some (.slice A3 b.owner.length c3) := hL.cell 19
  have H1 := Lib.hid h1
  have H2 := Lib.hid h2
  have H3 := Lib.hid h3
  have H4 := Lib.hid h4
  have E1 := Lib.hid e1
  have E2 := Lib.hid e2
  have L1 := Lib.hid l1
  have L2 := Lib.hid l2
  have g1 : ((a.set.length : Int) != b.set.length) = false := by rw [e1]; simp
  have g2 : ((a.owner.length : Int) != b.owner.length) = false := by rw [e2]; simp
  obtain ⟨sb, hsb⟩ : ∃ s, s = sameB a b := ⟨_, rfl⟩
  rw [← hsb]
  have Hsb := Lib.hid hsb
  clear h1 h2 h3 h4 e1 e2 l1 l2 hsb
  go_enter Try.func14, Try.ntmps14
  go_wp2_with (change wpList _ _ _ _ _ ((W.alloc (.cells (mcells a (.slice A1 a.owner.length c1) (.slice A2 a.set.length c2)) 29)).alloc (.cells (mcells b (.slice A3 b.owner.length c3) (.slice A4 b.set.length c4)) 29)); generalize ((W.alloc (.cells (mcells a (.slice A1 a.owner.length c1) (.slice A2 a.set.length c2)) 29)).alloc (.cells (mcells b (.slice A3 b.owner.length c3) (.slice A4 b.set.length c4)) 29)) = W2 at *)
  go_loopw [5] (fun y wr => ∃ (j n : Nat), y = .int .i64 j ∧ j ≤ a.set.length ∧ a.set.take j = b.set.take j ∧ wr = W2.drewN n) (fun y _ => a.set.length - (intOf y).toNat)
  case atStart => first | exact ⟨0, 0, rfl, Nat.zero_le _, rfl, rfl⟩ | exact ⟨0, n, rfl, Nat.zero_le _, rfl, rfl⟩
  case round =>
    obtain ⟨j, n, rfl, hj, ht, rfl⟩ := hrel
    have Ht := Lib.hid ht
    have Hj := Lib.hid hj
    clear ht hj
    by_cases hjl : j < a.set.length
    · obtain ⟨ad, rfl, hx⟩ := H2.out.elem hjl
      obtain ⟨bd, rfl, hy⟩ := H4.out.elem (j := j) (by have := E1.out; omega)
      have hx2 := (World.cell?_of_block (hL.1.block _ (cell_some_lt hx))).trans hx
      have hy2 := (World.cell?_of_block (hL.1.block _ (cell_some_lt hy))).trans hy
      obtain ⟨x, hxe⟩ : ∃ x, x = a.set.getD j 0 := ⟨_, rfl⟩
      obtain ⟨y, hye⟩ : ∃ y, y = b.set.getD j 0 := ⟨_, rfl⟩
      rw [← hxe] at hx2
      rw [← hye] at hy2
      have r1 : decide (j < a.set.length) = true := decide_eq_true hjl
      have r2 : decide (j < b.set.length) = true := decide_eq_true (by have := E1.out; omega)
      have p1 : (j < a.set.length) = True := eq_true hjl
      have p2 : (j < b.set.length) = True := eq_true (by have := E1.out; omega)
      have Hjl := Lib.hid hjl
      have Hx := Lib.hid hxe
      have Hy := Lib.hid hye
      clear hx hy hxe hye hjl
      by_cases hxy : x = y
      · have q1 : (x != y) = false := by rw [hxy]; simp
        have Hxy := Lib.hid hxy
        clear hxy
        have hb : j ≤ 1000000000000 := by have := Hjl.out; have := L2.out; omega
        go_wp2_with fail
        go_quiet (fail)
        go_wp2
        go_roundw
        case rel => exact ⟨j + 1, _, by go_num, Hjl.out, take_more Ht.out Hjl.out (by have := Hjl.out; have := E1.out; omega) (by rw [← Hx.out, ← Hy.out, Hxy.out]), rfl⟩
        case measure => have := Hjl.out; simp [intOf]; omega
      · have q1 : (x != y) = true := bne_iff_ne.2 hxy
        have hne : a.set ≠ b.set := getD_ne (j := j) (by rw [← Hx.out, ← Hy.out]; exact hxy)
        have Hne := Lib.hid hne
        clear hxy hne
        go_wp2_with fail
        go_quiet (fail)
        go_wp2
        go_ret
        refine ⟨?_, by first | exact (hL.drewN _).1 | exact ((hL.drewN _).drewN _).1⟩
        have : sb = false := by rw [Hsb.out]; simp [sameB, Hne.out]
        show Ending.returned (.bool false) = _
        rw [this]
    · have r1 : decide (j < a.set.length) = false := decide_eq_false hjl
      have hall : a.set = b.set := take_all Ht.out E1.out (by have := Hj.out; omega)
      have Hallset := Lib.hid hall
      clear hall hjl Ht Hj
      go_wp2_with fail
      go_loopw [6] (fun y wr => ∃ (j n : Nat), y = .int .i64 j ∧ j ≤ a.owner.length ∧ a.owner.take j = b.owner.take j ∧ wr = W2.drewN n) (fun y _ => a.owner.length - (intOf y).toNat)
      case atStart => first | exact ⟨0, 0, rfl, Nat.zero_le _, rfl, rfl⟩ | exact ⟨0, n, rfl, Nat.zero_le _, rfl, rfl⟩
      case round =>
        obtain ⟨j, n, rfl, hj, ht, rfl⟩ := hrel
        have Ht := Lib.hid ht
        have Hj := Lib.hid hj
        clear ht hj
        by_cases hjl : j < a.owner.length
        · obtain ⟨ad, rfl, hx⟩ := H1.out.elem hjl
          obtain ⟨bd, rfl, hy⟩ := H3.out.elem (j := j) (by have := E2.out; omega)
          have hx2 := (World.cell?_of_block (hL.1.block _ (cell_some_lt hx))).trans hx
          have hy2 := (World.cell?_of_block (hL.1.block _ (cell_some_lt hy))).trans hy
          obtain ⟨x, hxe⟩ : ∃ x, x = a.owner.getD j 0 := ⟨_, rfl⟩
          obtain ⟨y, hye⟩ : ∃ y, y = b.owner.getD j 0 := ⟨_, rfl⟩
          rw [← hxe] at hx2
          rw [← hye] at hy2
          have r1 : decide (j < a.owner.length) = true := decide_eq_true hjl
          have r2 : decide (j < b.owner.length) = true := decide_eq_true (by have := E2.out; omega)
          have p1 : (j < a.owner.length) = True := eq_true hjl
          have p2 : (j < b.owner.length) = True := eq_true (by have := E2.out; omega)
          have Hjl := Lib.hid hjl
          have Hx := Lib.hid hxe
          have Hy := Lib.hid hye
          clear hx hy hxe hye hjl
          by_cases hxy : x = y
          · have q1 : (x != y) = false := by rw [hxy]; simp
            have Hxy := Lib.hid hxy
            clear hxy
            have hb : j ≤ 1000000000000 := by have := Hjl.out; have := L1.out; omega
            go_wp2_with fail
            go_quiet (fail)
            go_wp2
            go_roundw
            case rel => exact ⟨j + 1, _, by go_num, Hjl.out, take_more Ht.out Hjl.out (by have := Hjl.out; have := E2.out; omega) (by rw [← Hx.out, ← Hy.out, Hxy.out]), rfl⟩
            case measure => have := Hjl.out; simp [intOf]; omega
          · have q1 : (x != y) = true := bne_iff_ne.2 hxy
            have hne : a.owner ≠ b.owner := getD_ne (j := j) (by rw [← Hx.out, ← Hy.out]; exact hxy)
            have Hne := Lib.hid hne
            clear hxy hne
            go_wp2_with fail
            go_quiet (fail)
            go_wp2
            go_ret
            refine ⟨?_, by first | exact (hL.drewN _).1 | exact ((hL.drewN _).drewN _).1⟩
            have : sb = false := by rw [Hsb.out]; simp [sameB, Hne.out]
            show Ending.returned (.bool false) = _
            rw [this]
        · have r1 : decide (j < a.owner.length) = false := decide_eq_false hjl
          have hall : a.owner = b.owner := take_all Ht.out E2.out (by have := Hj.out; omega)
          have Hallowner := Lib.hid hall
          clear hall hjl Ht Hj
          have hL3 := hL.drewN n
          clear a19 b19 a20 b20 H1 H2 H3 H4
          have a19 : (W2.drewN n).cell? ⟨W.heap.size, 19, none⟩ = some (.slice A1 a.owner.length c1) := hL3.tail.cell 19
          have b19 : (W2.drewN n).cell? ⟨W.heap.size + 1, 19, none⟩ = some (.slice A3 b.owner.length c3) := hL3.cell 19
          have hp : ∀ i : Nat, (W2.drewN n).cell? ⟨W.heap.size, i, none⟩ = _ := fun i => hL3.tail.cell i
          have hq : ∀ i : Nat, (W2.drewN n).cell? ⟨W.heap.size + 1, i, none⟩ = _ := fun i => hL3.cell i
          generalize W2.drewN n = W4 at *
          go_upto_region 13 with fail
          apply wp_region_lit
          refine link_first (n := 157) (sp := 2) (sq := 3) (ds := []) ⟨rfl, (by intro p hp; simp only [List.mem_cons, List.not_mem_nil, or_false] at hp; rcases hp with rfl | rfl <;> rfl)⟩ rfl rfl rfl rfl rfl rfl rfl rfl rfl rfl rfl rfl rfl rfl rfl rfl rfl rfl rfl rfl rfl rfl rfl rfl rfl (fa29_0 _ _) (ld_u8 (hp 0)) (fa29_0 _ _) (ld_u8 (hq 0)) (cmp_u8 _ _) ?_
          intro a0 hd0 H0
          refine link_next (n := 157) H0 hd0 rfl rfl rfl rfl rfl rfl rfl rfl rfl rfl rfl rfl rfl rfl rfl rfl rfl rfl rfl rfl rfl rfl rfl rfl rfl rfl rfl rfl rfl (fa29_1 _ _) (ld_int (hp 1)) (fa29_1 _ _) (ld_int (hq 1)) (cmp_int _ _) fun a1 hd1 H1 => ?_
          clear H0 hd0
          refine link_next (n := 157) H1 hd1 rfl rfl rfl rfl rfl rfl rfl rfl rfl rfl rfl rfl rfl rfl rfl rfl rfl rfl rfl rfl rfl rfl rfl rfl rfl rfl rfl rfl rfl (fa29_2 _ _) (ld_int (hp 2)) (fa29_2 _ _) (ld_int (hq 2)) (cmp_int _ _) fun a2 hd2 H2 => ?_
          clear H1 hd1
          refine link_next (n := 157) H2 hd2 rfl rfl rfl rfl rfl rfl rfl rfl rfl rfl rfl rfl rfl rfl rfl rfl rfl rfl rfl rfl rfl rfl rfl rfl rfl rfl rfl rfl rfl (fa29_3 _ _) (ld_int (hp 3)) (fa29_3 _ _) (ld_int (hq 3)) (cmp_int _ _) fun a3 hd3 H3 => ?_
          clear H2 hd2
          refine link_next (n := 157) H3 hd3 rfl rfl rfl rfl rfl rfl rfl rfl rfl rfl rfl rfl rfl rfl rfl rfl rfl rfl rfl rfl rfl rfl rfl rfl rfl rfl rfl rfl rfl (fa29_4 _ _) (ld_int (hp 4)) (fa29_4 _ _) (ld_int (hq 4)) (cmp_int _ _) fun a4 hd4 H4 => ?_
          clear H3 hd3
          refine link_next (n := 157) H4 hd4 rfl rfl rfl rfl rfl rfl rfl rfl rfl rfl rfl rfl rfl rfl rfl rfl rfl rfl rfl rfl rfl rfl rfl rfl rfl rfl rfl rfl rfl (fa29_5 _ _) (ld_int (hp 5)) (fa29_5 _ _) (ld_int (hq 5)) (cmp_int _ _) fun a5 hd5 H5 => ?_
          clear H4 hd4
          refine link_next (n := 157) H5 hd5 rfl rfl rfl rfl rfl rfl rfl rfl rfl rfl rfl rfl rfl rfl rfl rfl rfl rfl rfl rfl rfl rfl rfl rfl rfl rfl rfl rfl rfl (fa29_6 _ _) (ld_int (hp 6)) (fa29_6 _ _) (ld_int (hq 6)) (cmp_int _ _) fun a6 hd6 H6 => ?_
          clear H5 hd5
          refine link_next (n := 157) H6 hd6 rfl rfl rfl rfl rfl rfl rfl rfl rfl rfl rfl rfl rfl rfl rfl rfl rfl rfl rfl rfl rfl rfl rfl rfl rfl rfl rfl rfl rfl (fa29_7 _ _) (ld_u64 (hp 7)) (fa29_7 _ _) (ld_u64 (hq 7)) (cmp_u64 _ _) fun a7 hd7 H7 => ?_
          clear H6 hd6
          refine link_next (n := 157) H7 hd7 rfl rfl rfl rfl rfl rfl rfl rfl rfl rfl rfl rfl rfl rfl rfl rfl rfl rfl rfl rfl rfl rfl rfl rfl rfl rfl rfl rfl rfl (fa29_8 _ _) (ld_i64 (hp 8)) (fa29_8 _ _) (ld_i64 (hq 8)) (cmp_i64 _ _) fun a8 hd8 H8 => ?_
          clear H7 hd7
          refine link_next (n := 157) H8 hd8 rfl rfl rfl rfl rfl rfl rfl rfl rfl rfl rfl rfl rfl rfl rfl rfl rfl rfl rfl rfl rfl rfl rfl rfl rfl rfl rfl rfl rfl (fa29_9 _ _) (ld_item (hp 9) (hp 10) (hp 11) (hp 12) (hp 13) (hp 14) (hp 15) (hp 16)) (fa29_9 _ _) (ld_item (hq 9) (hq 10) (hq 11) (hq 12) (hq 13) (hq 14) (hq 15) (hq 16)) (cmp_item _ _ _ _ _ _ _ _ _ _ _ _ _ _ _ _) fun a9 hd9 H9 => ?_
          clear H8 hd8
          refine link_two (n := 157) H9 hd9 rfl rfl rfl rfl rfl rfl rfl rfl rfl rfl rfl rfl rfl rfl rfl rfl rfl rfl rfl rfl rfl rfl rfl rfl rfl rfl rfl rfl rfl rfl rfl rfl rfl rfl rfl rfl rfl (fa29_10 _ _) (fa27_0 _ _) (ld_int (hp 17)) (fa29_10 _ _) (fa27_0 _ _) (ld_int (hq 17)) (cmp_int _ _) fun a10 hd10 H10 => ?_
          clear H9 hd9
          refine link_two (n := 157) H10 hd10 rfl rfl rfl rfl rfl rfl rfl rfl rfl rfl rfl rfl rfl rfl rfl rfl rfl rfl rfl rfl rfl rfl rfl rfl rfl rfl rfl rfl rfl rfl rfl rfl rfl rfl rfl rfl rfl (fa29_10 _ _) (fa27_1 _ _) (ld_int (hp 18)) (fa29_10 _ _) (fa27_1 _ _) (ld_int (hq 18)) (cmp_int _ _) fun a11 hd11 H11 => ?_
          clear H10 hd10
          refine link_last (n := 157) H11 hd11 rfl rfl rfl rfl rfl rfl rfl rfl rfl rfl rfl rfl rfl rfl rfl rfl rfl rfl rfl rfl rfl rfl rfl rfl rfl rfl rfl rfl rfl (fa29_12 _ _) (ld_str (hp 21)) (fa29_12 _ _) (ld_str (hq 21)) (cmp_str _ _) fun a12 hd12 H12 => ?_
          clear H11 hd11
          go_wp2_with fail
          have hv := H12.2 _ (List.mem_cons_of_mem _ (List.mem_cons_of_mem _ (List.mem_singleton.2 rfl)))
          rw [same_total a b Hallset.out Hallowner.out, ← Hsb.out] at hv
          refine bodyPost_ret (v := .bool sb) (results_ref hv) hd12 ⟨rfl, hL3.1⟩
end
end Go.Proofs.Ytmmhchpilcjflaa

/-
  meterref04.Same in every case.
-/
namespace Go.Proofs.Ytmmhchpilcjflaa
open Go.RowKit

theorem great_no {m : PMsg} (h : greatB m = false) : m.set.length ≤ 3000 ∧ m.owner.length ≤ 3000 ∧ m.data.size ≤ 5000 ∧ m.ikey.size ≤ 5000 := by
  simp [greatB] at h
  omega
theorem refSame_any {W : World} {a b : PMsg} {ao aS bo bs : Value} (h1 : Rd W ao a.owner) (h2 : Rd W aS a.set) (h3 : Rd W bo b.owner) (h4 : Rd W bs b.set)
    (l1 : a.owner.length ≤ 1000000000000) (l2 : a.set.length ≤ 1000000000000) (l3 : b.owner.length ≤ 1000000000000) (l4 : b.set.length ≤ 1000000000000) :
    Calls Try.prog 14 #[.agg (mcells a ao aS), .agg (mcells b bo bs)] W fun e W' => e = .returned (.bool (sameB a b)) ∧ Below W.heap.size W W' := by
  by_cases e1 : a.set.length = b.set.length
  · by_cases e2 : a.owner.length = b.owner.length
    · exact refSame_long h1 h2 h3 h4 l1 l2 e1 e2
    · exact refSame_short h1 h2 h3 h4 l1 l2 l3 l4 (.inr ⟨e1, e2⟩)
  · exact refSame_short h1 h2 h3 h4 l1 l2 l3 l4 (.inl e1)
theorem refSame_great {W : World} {a b : PMsg} {ao aS bo bs : Value} (h1 : Rd W ao a.owner) (h2 : Rd W aS a.set) (h3 : Rd W bo b.owner) (h4 : Rd W bs b.set) (ga : greatB a = false) (gb : greatB b = false) :
    Calls Try.prog 14 #[.agg (mcells a ao aS), .agg (mcells b bo bs)] W fun e W' => e = .returned (.bool (sameB a b)) ∧ Below W.heap.size W W' := by
  have ha := great_no ga
  have hb := great_no gb
  exact refSame_any h1 h2 h3 h4 (by omega) (by omega) (by omega) (by omega)
end Go.Proofs.Ytmmhchpilcjflaa
