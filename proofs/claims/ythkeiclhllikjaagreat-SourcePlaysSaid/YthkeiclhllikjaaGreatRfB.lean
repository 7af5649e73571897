/-
  The document's Right, for items alone.
-/
import Derived.Test.YthkeiclhllikjaaGreatRfA
import Derived.Test.YthkeiclhllikjaaGreatMsgEm
set_option linter.unusedSimpArgs false
set_option linter.unusedVariables false
namespace Go.Proofs.YthkeiclhllikjaaGreat.R
open Go.RowKit
theorem results_ref {tmps : Array Value} {w : World} {v : Value} (h : tmps[4]? = some v) : (results Tryz.f91 tmps).run Tryz.prog w = .ok v w := by
 simp [results, Tryz.results91, go_sem, h]
section
variable {W : World} {a b : PMsg} {ao aS bo bs : Value}
set_option maxHeartbeats 64000000 in
set_option maxRecDepth 100000 in
theorem refSame_long (h1 : Rd W ao a.owner) (h2 : Rd W aS a.set) (h3 : Rd W bo b.owner) (h4 : Rd W bs b.set)
  (l1 : a.owner.length ≤ 1000000000000) (l2 : a.set.length ≤ 1000000000000) (e1 : a.set.length = b.set.length) (e2 : a.owner.length = b.owner.length) :
  Calls Tryz.prog 91 #[.agg (mcells a ao aS), .agg (mcells b bo bs)] W fun e W' => e = .returned (.bool (sameB a b)) ∧ Below W.heap.size W W' := by
 obtain ⟨A1, c1, rfl⟩ := h1.slc
 obtain ⟨A2, c2, rfl⟩ := h2.slc
 obtain ⟨A3, c3, rfl⟩ := h3.slc
 obtain ⟨A4, c4, rfl⟩ := h4.slc
 have hL := ((Live.init W).alloc (mcells a (.slice A1 a.owner.length c1) (.slice A2 a.set.length c2)) 37).alloc (mcells b (.slice A3 b.owner.length c3) (.slice A4 b.set.length c4)) 37
 have hs1 : ∀ (w : World) (o : Obj), (w.alloc o).heap.size = w.heap.size + 1 := fun w o => by simp
 simp only [hs1] at hL
 have a20 : ((W.alloc (.cells (mcells a (.slice A1 a.owner.length c1) (.slice A2 a.set.length c2)) 37)).alloc (.cells (mcells b (.slice A3 b.owner.length c3) (.slice A4 b.set.length c4)) 37)).cell? ⟨W.heap.size, 20, none⟩ = some (.slice A2 a.set.length c2) := hL.tail.cell 20
 have a19 : ((W.alloc (.cells (mcells a (.slice A1 a.owner.length c1) (.slice A2 a.set.length c2)) 37)).alloc (.cells (mcells b (.slice A3 b.owner.length c3) (.slice A4 b.set.length c4)) 37)).cell? ⟨W.heap.size, 19, none⟩ = some (.slice A1 a.owner.length c1) := hL.tail.cell 19
 have b20 : ((W.alloc (.cells (mcells a (.slice A1 a.owner.length c1) (.slice A2 a.set.length c2)) 37)).alloc (.cells (mcells b (.slice A3 b.owner.length c3) (.slice A4 b.set.length c4)) 37)).cell? ⟨W.heap.size + 1, 20, none⟩ = some (.slice A4 b.set.length c4) := hL.cell 20
 have b19 : ((W.alloc (.cells (mcells a (.slice A1 a.owner.length c1) (.slice A2 a.set.length c2)) 37)).alloc (.cells (mcells b (.slice A3 b.owner.length c3) (.slice A4 b.set.length c4)) 37)).cell? ⟨W.heap.size + 1, 19, none⟩ = some (.slice A3 b.owner.length c3) := hL.cell 19
 have H1 := Lib.hid h1
 have H2 := Lib.hid h2
 have H3 := Lib.hid h3
 have H4 := Lib.hid h4
 have E1 := Lib.hid e1
 have E2 := Lib.hid e2
 have L1 := Lib.hid l1
 have L2 := Lib.hid l2
 have g1 : ((a.set.length : Int) != b.set.length) = false := by rw [e1]; simp
 have g2 : ((a.owner.length : Int) != b.owner.length) = false := by rw [e2]; simp
 obtain ⟨sb, hsb⟩ : ∃ s, s = sameB a b := ⟨_, rfl⟩
 rw [← hsb]
 have Hsb := Lib.hid hsb
 clear h1 h2 h3 h4 e1 e2 l1 l2 hsb
 go_enter Tryz.func91, Tryz.ntmps91
 go_wp2_with (change wpList _ _ _ _ _ ((W.alloc (.cells (mcells a (.slice A1 a.owner.length c1) (.slice A2 a.set.length c2)) 37)).alloc (.cells (mcells b (.slice A3 b.owner.length c3) (.slice A4 b.set.length c4)) 37)); generalize ((W.alloc (.cells (mcells a (.slice A1 a.owner.length c1) (.slice A2 a.set.length c2)) 37)).alloc (.cells (mcells b (.slice A3 b.owner.length c3) (.slice A4 b.set.length c4)) 37)) = W2 at *)
 go_loopw [5] (fun y wr => ∃ (j n : Nat), y = .int .i64 j ∧ j ≤ a.set.length ∧ a.set.take j = b.set.take j ∧ wr = W2.drewN n) (fun y _ => a.set.length - (intOf y).toNat)
 case atStart => first | exact ⟨0, 0, rfl, Nat.zero_le _, rfl, rfl⟩ | exact ⟨0, n, rfl, Nat.zero_le _, rfl, rfl⟩
 case round =>
  obtain ⟨j, n, rfl, hj, ht, rfl⟩ := hrel
  have Ht := Lib.hid ht
  have Hj := Lib.hid hj
  clear ht hj
  by_cases hjl : j < a.set.length
  ·obtain ⟨ad, rfl, hx⟩ := H2.out.elem hjl
   obtain ⟨bd, rfl, hy⟩ := H4.out.elem (j := j) (by have := E1.out; omega)
   have hx2 := (World.cell?_of_block (hL.1.block _ (cell_some_lt hx))).trans hx
   have hy2 := (World.cell?_of_block (hL.1.block _ (cell_some_lt hy))).trans hy
   obtain ⟨x, hxe⟩ : ∃ x, x = a.set.getD j 0 := ⟨_, rfl⟩
   obtain ⟨y, hye⟩ : ∃ y, y = b.set.getD j 0 := ⟨_, rfl⟩
   rw [← hxe] at hx2
   rw [← hye] at hy2
   have r1 : decide (j < a.set.length) = true := decide_eq_true hjl
   have r2 : decide (j < b.set.length) = true := decide_eq_true (by have := E1.out; omega)
   have p1 : (j < a.set.length) = True := eq_true hjl
   have p2 : (j < b.set.length) = True := eq_true (by have := E1.out; omega)
   have Hjl := Lib.hid hjl
   have Hx := Lib.hid hxe
   have Hy := Lib.hid hye
   clear hx hy hxe hye hjl
   by_cases hxy : x = y
   ·have q1 : (x != y) = false := by rw [hxy]; simp
    have Hxy := Lib.hid hxy
    clear hxy
    have hb : j ≤ 1000000000000 := by have := Hjl.out; have := L2.out; omega
    go_wp2_with fail
    go_quiet (fail)
    go_wp2
    go_roundw
    case rel => exact ⟨j + 1, _, by go_num, Hjl.out, take_more Ht.out Hjl.out (by have := Hjl.out; have := E1.out; omega) (by rw [← Hx.out, ← Hy.out, Hxy.out]), rfl⟩
    case measure => have := Hjl.out; simp [intOf]; omega
   ·have q1 : (x != y) = true := bne_iff_ne.2 hxy
    have hne : a.set ≠ b.set := getD_ne (j := j) (by rw [← Hx.out, ← Hy.out]; exact hxy)
    have Hne := Lib.hid hne
    clear hxy hne
    go_wp2_with fail
    go_quiet (fail)
    go_wp2
    go_ret
    refine ⟨?_, by first | exact (hL.drewN _).1 | exact ((hL.drewN _).drewN _).1⟩
    have : sb = false := by rw [Hsb.out]; simp [sameB, Hne.out]
    show Ending.returned (.bool false) = _
    rw [this]
  ·have r1 : decide (j < a.set.length) = false := decide_eq_false hjl
   have hall : a.set = b.set := take_all Ht.out E1.out (by have := Hj.out; omega)
   have Hallset := Lib.hid hall
   clear hall hjl Ht Hj
   go_wp2_with fail
   go_loopw [6] (fun y wr => ∃ (j n : Nat), y = .int .i64 j ∧ j ≤ a.owner.length ∧ a.owner.take j = b.owner.take j ∧ wr = W2.drewN n) (fun y _ => a.owner.length - (intOf y).toNat)
   case atStart => first | exact ⟨0, 0, rfl, Nat.zero_le _, rfl, rfl⟩ | exact ⟨0, n, rfl, Nat.zero_le _, rfl, rfl⟩
   case round =>
    obtain ⟨j, n, rfl, hj, ht, rfl⟩ := hrel
    have Ht := Lib.hid ht
    have Hj := Lib.hid hj
    clear ht hj
    by_cases hjl : j < a.owner.length
    ·obtain ⟨ad, rfl, hx⟩ := H1.out.elem hjl
     obtain ⟨bd, rfl, hy⟩ := H3.out.elem (j := j) (by have := E2.out; omega)
     have hx2 := (World.cell?_of_block (hL.1.block _ (cell_some_lt hx))).trans hx
     have hy2 := (World.cell?_of_block (hL.1.block _ (cell_some_lt hy))).trans hy
     obtain ⟨x, hxe⟩ : ∃ x, x = a.owner.getD j 0 := ⟨_, rfl⟩
     obtain ⟨y, hye⟩ : ∃ y, y = b.owner.getD j 0 := ⟨_, rfl⟩
     rw [← hxe] at hx2
     rw [← hye] at hy2
     have r1 : decide (j < a.owner.length) = true := decide_eq_true hjl
     have r2 : decide (j < b.owner.length) = true := decide_eq_true (by have := E2.out; omega)
     have p1 : (j < a.owner.length) = True := eq_true hjl
     have p2 : (j < b.owner.length) = True := eq_true (by have := E2.out; omega)
     have Hjl := Lib.hid hjl
     have Hx := Lib.hid hxe
     have Hy := Lib.hid hye
     clear hx hy hxe hye hjl
     by_cases hxy : x = y
     ·have q1 : (x != y) = false := by rw [hxy]; simp
      have Hxy := Lib.hid hxy
      clear hxy
      have hb : j ≤ 1000000000000 := by have := Hjl.out; have := L1.out; omega
      go_wp2_with fail
      go_quiet (fail)
      go_wp2
      go_roundw
      case rel => exact ⟨j + 1, _, by go_num, Hjl.out, take_more Ht.out Hjl.out (by have := Hjl.out; have := E2.out; omega) (by rw [← Hx.out, ← Hy.out, Hxy.out]), rfl⟩
      case measure => have := Hjl.out; simp [intOf]; omega
     ·have q1 : (x != y) = true := bne_iff_ne.2 hxy
      have hne : a.owner ≠ b.owner := getD_ne (j := j) (by rw [← Hx.out, ← Hy.out]; exact hxy)
      have Hne := Lib.hid hne
      clear hxy hne
      go_wp2_with fail
      go_quiet (fail)
      go_wp2
      go_ret
      refine ⟨?_, by first | exact (hL.drewN _).1 | exact ((hL.drewN _).drewN _).1⟩
      have : sb = false := by rw [Hsb.out]; simp [sameB, Hne.out]
      show Ending.returned (.bool false) = _
      rw [this]
    ·have r1 : decide (j < a.owner.length) = false := decide_eq_false hjl
     have hall : a.owner = b.owner := take_all Ht.out E2.out (by have := Hj.out; omega)
     have Hallowner := Lib.hid hall
     clear hall hjl Ht Hj
     have hL3 := hL.drewN n
     clear a19 b19 a20 b20 H1 H2 H3 H4
     have a19 : (W2.drewN n).cell? ⟨W.heap.size, 19, none⟩ = some (.slice A1 a.owner.length c1) := hL3.tail.cell 19
     have b19 : (W2.drewN n).cell? ⟨W.heap.size + 1, 19, none⟩ = some (.slice A3 b.owner.length c3) := hL3.cell 19
     have hp : ∀ i : Nat, (W2.drewN n).cell? ⟨W.heap.size, i, none⟩ = _ := fun i => hL3.tail.cell i
     have hq : ∀ i : Nat, (W2.drewN n).cell? ⟨W.heap.size + 1, i, none⟩ = _ := fun i => hL3.cell i
     generalize W2.drewN n = W4 at *
     go_upto_region 13 with fail
     apply wp_region_lit
     refine link_first (n := 157) (sp := 2) (sq := 3) (ds := []) ⟨rfl, (by intro p hp; simp only [List.mem_cons, List.not_mem_nil, or_false] at hp; rcases hp with rfl | rfl <;> rfl)⟩ rfl rfl rfl rfl rfl rfl rfl rfl rfl rfl rfl rfl rfl rfl rfl rfl rfl rfl rfl rfl rfl rfl rfl rfl rfl (fa29_0 _ _) (ld_u8 (hp 0)) (fa29_0 _ _) (ld_u8 (hq 0)) (cmp_u8 _ _) ?_
     intro a0 hd0 H0
     refine link_next (n := 157) H0 hd0 rfl rfl rfl rfl rfl rfl rfl rfl rfl rfl rfl rfl rfl rfl rfl rfl rfl rfl rfl rfl rfl rfl rfl rfl rfl rfl rfl rfl rfl (fa29_1 _ _) (ld_int (hp 1)) (fa29_1 _ _) (ld_int (hq 1)) (cmp_int _ _) fun a1 hd1 H1 => ?_
     clear H0 hd0
     refine link_next (n := 157) H1 hd1 rfl rfl rfl rfl rfl rfl rfl rfl rfl rfl rfl rfl rfl rfl rfl rfl rfl rfl rfl rfl rfl rfl rfl rfl rfl rfl rfl rfl rfl (fa29_2 _ _) (ld_int (hp 2)) (fa29_2 _ _) (ld_int (hq 2)) (cmp_int _ _) fun a2 hd2 H2 => ?_
     clear H1 hd1
     refine link_next (n := 157) H2 hd2 rfl rfl rfl rfl rfl rfl rfl rfl rfl rfl rfl rfl rfl rfl rfl rfl rfl rfl rfl rfl rfl rfl rfl rfl rfl rfl rfl rfl rfl (fa29_3 _ _) (ld_int (hp 3)) (fa29_3 _ _) (ld_int (hq 3)) (cmp_int _ _) fun a3 hd3 H3 => ?_
     clear H2 hd2
     refine link_next (n := 157) H3 hd3 rfl rfl rfl rfl rfl rfl rfl rfl rfl rfl rfl rfl rfl rfl rfl rfl rfl rfl rfl rfl rfl rfl rfl rfl rfl rfl rfl rfl rfl (fa29_4 _ _) (ld_int (hp 4)) (fa29_4 _ _) (ld_int (hq 4)) (cmp_int _ _) fun a4 hd4 H4 => ?_
     clear H3 hd3
     refine link_next (n := 157) H4 hd4 rfl rfl rfl rfl rfl rfl rfl rfl rfl rfl rfl rfl rfl rfl rfl rfl rfl rfl rfl rfl rfl rfl rfl rfl rfl rfl rfl rfl rfl (fa29_5 _ _) (ld_int (hp 5)) (fa29_5 _ _) (ld_int (hq 5)) (cmp_int _ _) fun a5 hd5 H5 => ?_
     clear H4 hd4
     refine link_next (n := 157) H5 hd5 rfl rfl rfl rfl rfl rfl rfl rfl rfl rfl rfl rfl rfl rfl rfl rfl rfl rfl rfl rfl rfl rfl rfl rfl rfl rfl rfl rfl rfl (fa29_6 _ _) (ld_int (hp 6)) (fa29_6 _ _) (ld_int (hq 6)) (cmp_int _ _) fun a6 hd6 H6 => ?_
     clear H5 hd5
     refine link_next (n := 157) H6 hd6 rfl rfl rfl rfl rfl rfl rfl rfl rfl rfl rfl rfl rfl rfl rfl rfl rfl rfl rfl rfl rfl rfl rfl rfl rfl rfl rfl rfl rfl (fa29_7 _ _) (ld_u64 (hp 7)) (fa29_7 _ _) (ld_u64 (hq 7)) (cmp_u64 _ _) fun a7 hd7 H7 => ?_
     clear H6 hd6
     refine link_next (n := 157) H7 hd7 rfl rfl rfl rfl rfl rfl rfl rfl rfl rfl rfl rfl rfl rfl rfl rfl rfl rfl rfl rfl rfl rfl rfl rfl rfl rfl rfl rfl rfl (fa29_8 _ _) (ld_i64 (hp 8)) (fa29_8 _ _) (ld_i64 (hq 8)) (cmp_i64 _ _) fun a8 hd8 H8 => ?_
     clear H7 hd7
     refine link_next (n := 157) H8 hd8 rfl rfl rfl rfl rfl rfl rfl rfl rfl rfl rfl rfl rfl rfl rfl rfl rfl rfl rfl rfl rfl rfl rfl rfl rfl rfl rfl rfl rfl (fa29_9 _ _) (ld_item (hp 9) (hp 10) (hp 11) (hp 12) (hp 13) (hp 14) (hp 15) (hp 16)) (fa29_9 _ _) (ld_item (hq 9) (hq 10) (hq 11) (hq 12) (hq 13) (hq 14) (hq 15) (hq 16)) (cmp_item _ _ _ _ _ _ _ _ _ _ _ _ _ _ _ _) fun a9 hd9 H9 => ?_
     clear H8 hd8
     refine link_two (n := 157) H9 hd9 rfl rfl rfl rfl rfl rfl rfl rfl rfl rfl rfl rfl rfl rfl rfl rfl rfl rfl rfl rfl rfl rfl rfl rfl rfl rfl rfl rfl rfl rfl rfl rfl rfl rfl rfl rfl rfl (fa29_10 _ _) (fa27_0 _ _) (ld_int (hp 17)) (fa29_10 _ _) (fa27_0 _ _) (ld_int (hq 17)) (cmp_int _ _) fun a10 hd10 H10 => ?_
     clear H9 hd9
     refine link_two (n := 157) H10 hd10 rfl rfl rfl rfl rfl rfl rfl rfl rfl rfl rfl rfl rfl rfl rfl rfl rfl rfl rfl rfl rfl rfl rfl rfl rfl rfl rfl rfl rfl rfl rfl rfl rfl rfl rfl rfl rfl (fa29_10 _ _) (fa27_1 _ _) (ld_int (hp 18)) (fa29_10 _ _) (fa27_1 _ _) (ld_int (hq 18)) (cmp_int _ _) fun a11 hd11 H11 => ?_
     clear H10 hd10
     refine link_last (n := 157) H11 hd11 rfl rfl rfl rfl rfl rfl rfl rfl rfl rfl rfl rfl rfl rfl rfl rfl rfl rfl rfl rfl rfl rfl rfl rfl rfl rfl rfl rfl rfl (fa29_12 _ _) (ld_str (hp 21)) (fa29_12 _ _) (ld_str (hq 21)) (cmp_str _ _) fun a12 hd12 H12 => ?_
     clear H11 hd11
     go_wp2_with fail
     have hv := H12.2 _ (List.mem_cons_of_mem _ (List.mem_cons_of_mem _ (List.mem_singleton.2 rfl)))
     rw [same_total a b Hallset.out Hallowner.out, ← Hsb.out] at hv
     refine bodyPost_ret (v := .bool sb) (results_ref hv) hd12 ⟨rfl, hL3.1⟩
end
section
variable {W : World} {a b : PMsg} {ao aS bo bs : Value}
set_option maxHeartbeats 16000000 in
set_option maxRecDepth 100000 in
theorem refSame_short (h1 : Rd W ao a.owner) (h2 : Rd W aS a.set) (h3 : Rd W bo b.owner) (h4 : Rd W bs b.set)
  (l1 : a.owner.length ≤ 1000000000000) (l2 : a.set.length ≤ 1000000000000) (l3 : b.owner.length ≤ 1000000000000) (l4 : b.set.length ≤ 1000000000000) (e : a.set.length ≠ b.set.length ∨ (a.set.length = b.set.length ∧ a.owner.length ≠ b.owner.length)) :
  Calls Tryz.prog 91 #[.agg (mcells a ao aS), .agg (mcells b bo bs)] W fun e W' => e = .returned (.bool (sameB a b)) ∧ Below W.heap.size W W' := by
 have hs : sameB a b = false := by
  rcases e with e | ⟨_, e⟩
  ·have : a.set ≠ b.set := fun h => e (by rw [h])
   simp [sameB, this]
  ·have : a.owner ≠ b.owner := fun h => e (by rw [h])
   simp [sameB, this]
 rw [hs]
 obtain ⟨A1, c1, rfl, n1⟩ := h1.kd (by omega)
 obtain ⟨A2, c2, rfl, n2⟩ := h2.kd (by omega)
 obtain ⟨A3, c3, rfl, n3⟩ := h3.kd (by omega)
 obtain ⟨A4, c4, rfl, n4⟩ := h4.kd (by omega)
 have hL := ((Live.init W).alloc (mcells a (.slice A1 a.owner.length c1) (.slice A2 a.set.length c2)) 37).alloc (mcells b (.slice A3 b.owner.length c3) (.slice A4 b.set.length c4)) 37
 have hs1 : ∀ (w : World) (o : Obj), (w.alloc o).heap.size = w.heap.size + 1 := fun w o => by simp
 simp only [hs1] at hL
 have a20 : ((W.alloc (.cells (mcells a (.slice A1 a.owner.length c1) (.slice A2 a.set.length c2)) 37)).alloc (.cells (mcells b (.slice A3 b.owner.length c3) (.slice A4 b.set.length c4)) 37)).cell? ⟨W.heap.size, 20, none⟩ = some (.slice A2 a.set.length c2) := hL.tail.cell 20
 have a19 : ((W.alloc (.cells (mcells a (.slice A1 a.owner.length c1) (.slice A2 a.set.length c2)) 37)).alloc (.cells (mcells b (.slice A3 b.owner.length c3) (.slice A4 b.set.length c4)) 37)).cell? ⟨W.heap.size, 19, none⟩ = some (.slice A1 a.owner.length c1) := hL.tail.cell 19
 have b20 : ((W.alloc (.cells (mcells a (.slice A1 a.owner.length c1) (.slice A2 a.set.length c2)) 37)).alloc (.cells (mcells b (.slice A3 b.owner.length c3) (.slice A4 b.set.length c4)) 37)).cell? ⟨W.heap.size + 1, 20, none⟩ = some (.slice A4 b.set.length c4) := hL.cell 20
 have b19 : ((W.alloc (.cells (mcells a (.slice A1 a.owner.length c1) (.slice A2 a.set.length c2)) 37)).alloc (.cells (mcells b (.slice A3 b.owner.length c3) (.slice A4 b.set.length c4)) 37)).cell? ⟨W.heap.size + 1, 19, none⟩ = some (.slice A3 b.owner.length c3) := hL.cell 19
 rcases e with e | ⟨e0, e⟩
 ·have g1 : ((a.set.length : Int) != b.set.length) = true := bne_iff_ne.2 (by omega)
  clear h1 h2 h3 h4 l1 l2 l3 l4 n1 n2 n3 n4 e hs
  go_enter Tryz.func91, Tryz.ntmps91
  go_wp2
  go_ret
  exact ⟨rfl, hL.1⟩
 ·have g1 : ((a.set.length : Int) != b.set.length) = false := by rw [e0]; simp
  have g2 : ((a.owner.length : Int) != b.owner.length) = true := bne_iff_ne.2 (by omega)
  clear h1 h2 h3 h4 l1 l2 l3 l4 n1 n2 n3 n4 e e0 hs
  go_enter Tryz.func91, Tryz.ntmps91
  go_wp2
  go_ret
  exact ⟨rfl, hL.1⟩
end
theorem refSame_any {W : World} {a b : PMsg} {ao aS bo bs : Value} (h1 : Rd W ao a.owner) (h2 : Rd W aS a.set) (h3 : Rd W bo b.owner) (h4 : Rd W bs b.set)
  (l1 : a.owner.length ≤ 1000000000000) (l2 : a.set.length ≤ 1000000000000) (l3 : b.owner.length ≤ 1000000000000) (l4 : b.set.length ≤ 1000000000000) :
  Calls Tryz.prog 91 #[.agg (mcells a ao aS), .agg (mcells b bo bs)] W fun e W' => e = .returned (.bool (sameB a b)) ∧ Below W.heap.size W W' := by
 by_cases e1 : a.set.length = b.set.length
 ·by_cases e2 : a.owner.length = b.owner.length
  ·exact refSame_long h1 h2 h3 h4 l1 l2 e1 e2
  ·exact refSame_short h1 h2 h3 h4 l1 l2 l3 l4 (.inr ⟨e1, e2⟩)
 ·exact refSame_short h1 h2 h3 h4 l1 l2 l3 l4 (.inl e1)
section
variable {W : World} {m : PMsg} {vo vs : Value}
set_option maxRecDepth 100000 in
set_option maxHeartbeats 4000000 in
theorem only_1 (hc : m.kind = 1) (ho : Rd W vo m.owner) (hs : Rd W vs m.set) : Calls Tryz.prog 92 #[.agg (mcells m vo vs)] W fun e W' => ∃ vo' vs', e = .returned (.agg (mcells (onlyM m) vo' vs')) ∧ (∀ w, Rd w vo m.owner → Rd w vo' (onlyM m).owner) ∧ (∀ w, Rd w vs m.set → Rd w vs' (onlyM m).set) ∧ Below W.heap.size W W' := by
 have hL := Live.init W
 obtain ⟨A1, c1, rfl⟩ := ho.slc
 obtain ⟨A2, c2, rfl⟩ := hs.slc
 go_enter Tryz.func92, Tryz.ntmps92
 refine wp_fr (n := 110) (m := [(0, _)]) ⟨rfl, rfl, by intro p hp; simp only [List.mem_cons, List.not_mem_nil, or_false] at hp; rcases hp with rfl <;> rfl⟩ fun a0 H0 => ?_
 repeat (go_not_at_region 0; go_step)
 refine wp_region_lit ?_
 refine h_opL [(W.heap.size, mcells m (.slice A1 m.owner.length c1) (.slice A2 m.set.length c2), 37)] H0 rfl (wn rfl) (R_box H0 rfl rfl bx_row) (hL.alloc _ _) rfl (P1 1 rfl) fun _ w1 H1 hL => ?_
 refine h_opL [(w1.heap.size, zcells, 37), (W.heap.size, mcells m (.slice A1 m.owner.length c1) (.slice A2 m.set.length c2), 37)] H1 rfl (wn rfl) (R_alloc rfl al_row) (hL.alloc _ _) rfl (P2 2 1 rfl rfl) fun _ w2 H2 hL => ?_
 refine h_end ?_
 repeat (go_not_at_region 1; go_step)
 refine wp_region_lit ?_
 refine h_o H2 rfl (R_fa H2 rfl rfl (fa29_0 _ _)) (P3 5 2 1 rfl rfl rfl) fun _ H3 => ?_
 refine h_o H3 rfl (R_ld H3 rfl rfl (ld_u8k (hL.cl (g := W.heap.size) (A := mcells m (.slice A1 m.owner.length c1) (.slice A2 m.set.length c2)) (t := 37) (by simp) 0) hc)) (P3 6 2 1 rfl rfl rfl) fun _ H4 => ?_
 refine h_o H4 rfl (R_bd1 H4 rfl rfl bd_kind) (P3 7 2 1 rfl rfl rfl) fun _ H5 => ?_
 refine h_opL [(w2.heap.size, zcells, 37), (w1.heap.size, zcells, 37), (W.heap.size, mcells m (.slice A1 m.owner.length c1) (.slice A2 m.set.length c2), 37)] H5 rfl (wn rfl) (R_alloc rfl al_row) (hL.alloc _ _) rfl (P4 3 7 2 1 rfl rfl rfl rfl) fun _ w6 H6 hL => ?_
 refine h_stL [(w2.heap.size, mcells { PMsg.zero with kind := 1 } (.slice none 0 0) (.slice none 0 0), 37), (w1.heap.size, zcells, 37), (W.heap.size, mcells m (.slice A1 m.owner.length c1) (.slice A2 m.set.length c2), 37)] H6 rfl (wn rfl) (R_st H6 rfl rfl rfl (st_row (m2 := .zero) (vo2 := .slice none 0 0) (vs2 := .slice none 0 0) hL.at_ (mcells_one rfl rfl))) (hL.row _) fun _ w7 H7 hL => ?_
 refine h_end ?_
 repeat (go_not_at_region 2; go_step)
 refine wp_region_lit ?_
 refine h_o H7 rfl (R_fa H7 rfl rfl (fa29_0 _ _)) (P4 8 3 2 1 rfl rfl rfl rfl) fun _ H8 => ?_
 refine h_o H8 rfl (R_ld H8 rfl rfl (ld_u8k (hL.cl (g := W.heap.size) (A := mcells m (.slice A1 m.owner.length c1) (.slice A2 m.set.length c2)) (t := 37) (by simp) 0) hc)) (P4 9 3 2 1 rfl rfl rfl rfl) fun _ H9 => ?_
 refine h_o H9 rfl (R_bin H9 rfl rfl rfl (B_to (y := false) (B8_ge _ _) (by decide))) (P4 10 3 2 1 rfl rfl rfl rfl) fun _ H10 => ?_
 refine h_o H10 rfl (R_mv H10 rfl rfl) (P4 11 3 2 1 rfl rfl rfl rfl) fun _ H11 => ?_
 refine h_skip H11 rfl (H11.wf rfl rfl rfl) rfl (P4 11 3 2 1 rfl rfl rfl rfl) fun _ H12 => ?_
 refine h_skip H12 rfl (H12.wf rfl rfl rfl) rfl (P4 11 3 2 1 rfl rfl rfl rfl) fun _ H13 => ?_
 refine h_skip H13 rfl (H13.wf rfl rfl rfl) rfl (P4 11 3 2 1 rfl rfl rfl rfl) fun _ H14 => ?_
 refine h_o H14 rfl (R_pick H14 rfl rfl rfl) (P4 15 3 2 1 rfl rfl rfl rfl) fun _ H15 => ?_
 refine h_end ?_
 repeat (go_not_at_region 5; go_step)
 refine wp_cond_false (H15.ev (x := .tmp 15) rfl) ?_
 repeat (go_not_at_region 5; go_step)
 refine wp_region_lit ?_
 refine h_o H15 rfl (R_fa H15 rfl rfl (fa29_9 _ _)) (P4 22 3 2 1 rfl rfl rfl rfl) fun _ H16 => ?_
 refine h_o H16 rfl (R_fa H16 rfl rfl (fa24_0 _ _)) (P4 23 3 2 1 rfl rfl rfl rfl) fun _ H17 => ?_
 refine h_o H17 rfl (R_ld H17 rfl rfl (ld_int (hL.cl (g := W.heap.size) (A := mcells m (.slice A1 m.owner.length c1) (.slice A2 m.set.length c2)) (t := 37) (by simp) 9))) (P4 24 3 2 1 rfl rfl rfl rfl) fun _ H18 => ?_
 refine h_o H18 rfl (R_fa H18 rfl rfl (fa29_9 _ _)) (P5 25 24 3 2 1 rfl rfl rfl rfl rfl) fun _ H19 => ?_
 refine h_o H19 rfl (R_fa H19 rfl rfl (fa24_1 _ _)) (P5 26 24 3 2 1 rfl rfl rfl rfl rfl) fun _ H20 => ?_
 refine h_o H20 rfl (R_ld H20 rfl rfl (ld_int (hL.cl (g := W.heap.size) (A := mcells m (.slice A1 m.owner.length c1) (.slice A2 m.set.length c2)) (t := 37) (by simp) 10))) (P5 27 24 3 2 1 rfl rfl rfl rfl rfl) fun _ H21 => ?_
 refine h_o H21 rfl (R_bd2 H21 rfl rfl rfl bd_short) (P4 28 3 2 1 rfl rfl rfl rfl) fun _ H22 => ?_
 refine h_opL ((w7.heap.size, #[.int .i64 0, .int .i64 0, .int .i64 0, .int .u8 0, .string .empty, .int .i64 0, .int .i64 0, .int .i64 0], 33) :: [(w2.heap.size, mcells { PMsg.zero with kind := 1 } (.slice none 0 0) (.slice none 0 0), 37), (w1.heap.size, zcells, 37), (W.heap.size, mcells m (.slice A1 m.owner.length c1) (.slice A2 m.set.length c2), 37)]) H22 rfl (wn rfl) (R_alloc rfl al_item) (hL.alloc _ _) rfl (P5 4 28 3 2 1 rfl rfl rfl rfl rfl) fun _ w23 H23 hL => ?_
 refine h_stL [(w2.heap.size, mcells { PMsg.zero with kind := 1 } (.slice none 0 0) (.slice none 0 0), 37), (w7.heap.size, #[.int .i64 m.isrc, .int .i64 m.iseq, .int .i64 0, .int .u8 0, .string .empty, .int .i64 0, .int .i64 0, .int .i64 0], 33), (w1.heap.size, zcells, 37), (W.heap.size, mcells m (.slice A1 m.owner.length c1) (.slice A2 m.set.length c2), 37)] H23 rfl (wn rfl) (R_st H23 rfl rfl rfl (st_short hL)) ((hL.row #[.int .i64 m.isrc, .int .i64 m.iseq, .int .i64 0, .int .u8 0, .string .empty, .int .i64 0, .int .i64 0, .int .i64 0]).swap) fun _ w24 H24 hL => ?_
 refine h_end ?_
 repeat (go_not_at_region 6; go_step)
 refine wp_region_lit ?_
 refine h_o H24 rfl (R_fa H24 rfl rfl (fa29_0 _ _)) (P5 29 4 3 2 1 rfl rfl rfl rfl rfl) fun _ H25 => ?_
 refine h_o H25 rfl (R_ld H25 rfl rfl (ld_u8k (hL.cl (g := W.heap.size) (A := mcells m (.slice A1 m.owner.length c1) (.slice A2 m.set.length c2)) (t := 37) (by simp) 0) hc)) (P5 30 4 3 2 1 rfl rfl rfl rfl rfl) fun _ H26 => ?_
 refine h_end ?_
 repeat (go_not_at_region 7; go_step)
 refine wp_region_lit ?_
 refine h_o H26 rfl (R_bin H26 rfl rfl rfl (B_to (y := true) (B8_eq _ _) (by decide))) (P6 32 30 4 3 2 1 rfl rfl rfl rfl rfl rfl) fun _ H27 => ?_
 refine h_o H27 rfl (R_as H27 rfl rfl) (P6 31 30 4 3 2 1 rfl rfl rfl rfl rfl rfl) fun _ H28 => ?_
 refine h_end ?_
 repeat (go_not_at_region 8; go_step)
 refine wp_cond_true (H28.ev (x := .tmp 31) rfl) ?_
 repeat (go_not_at_region 8; go_step)
 refine wp_region_lit ?_
 refine h_o H28 rfl (R_fa H28 rfl rfl (fa29_9 _ _)) (P6 33 30 4 3 2 1 rfl rfl rfl rfl rfl rfl) fun _ H29 => ?_
 refine h_o H29 rfl (R_ld H29 rfl rfl (ld_item (hL.cl (g := W.heap.size) (A := mcells m (.slice A1 m.owner.length c1) (.slice A2 m.set.length c2)) (t := 37) (by simp) 9) (hL.cl (g := W.heap.size) (A := mcells m (.slice A1 m.owner.length c1) (.slice A2 m.set.length c2)) (t := 37) (by simp) 10) (hL.cl (g := W.heap.size) (A := mcells m (.slice A1 m.owner.length c1) (.slice A2 m.set.length c2)) (t := 37) (by simp) 11) (hL.cl (g := W.heap.size) (A := mcells m (.slice A1 m.owner.length c1) (.slice A2 m.set.length c2)) (t := 37) (by simp) 12) (hL.cl (g := W.heap.size) (A := mcells m (.slice A1 m.owner.length c1) (.slice A2 m.set.length c2)) (t := 37) (by simp) 13) (hL.cl (g := W.heap.size) (A := mcells m (.slice A1 m.owner.length c1) (.slice A2 m.set.length c2)) (t := 37) (by simp) 14) (hL.cl (g := W.heap.size) (A := mcells m (.slice A1 m.owner.length c1) (.slice A2 m.set.length c2)) (t := 37) (by simp) 15) (hL.cl (g := W.heap.size) (A := mcells m (.slice A1 m.owner.length c1) (.slice A2 m.set.length c2)) (t := 37) (by simp) 16))) (P6 34 30 4 3 2 1 rfl rfl rfl rfl rfl rfl) fun _ H30 => ?_
 refine h_o H30 rfl (R_fa H30 rfl rfl (fa29_9 _ _)) (P7 35 34 30 4 3 2 1 rfl rfl rfl rfl rfl rfl rfl) fun _ H31 => ?_
 refine h_stL [(w2.heap.size, mcells { PMsg.zero with kind := 1, isrc := m.isrc, iseq := m.iseq, ilow := m.ilow, ikind := m.ikind, ikey := m.ikey, ipart := m.ipart, iat := m.iat, iN := m.iN } (.slice none 0 0) (.slice none 0 0), 37), (w7.heap.size, #[.int .i64 m.isrc, .int .i64 m.iseq, .int .i64 0, .int .u8 0, .string .empty, .int .i64 0, .int .i64 0, .int .i64 0], 33), (w1.heap.size, zcells, 37), (W.heap.size, mcells m (.slice A1 m.owner.length c1) (.slice A2 m.set.length c2), 37)] H31 rfl (wn rfl) (R_st H31 rfl rfl rfl (st_itemM hL)) (hL.itemM m.isrc m.iseq m.ilow m.ikind m.ikey m.ipart m.iat m.iN) fun _ w32 H32 hL => ?_
 refine h_end ?_
 repeat (go_not_at_region 38; go_step)
 refine wp_region_lit ?_
 refine h_o H32 rfl (R_ld H32 rfl rfl (ld_row hL.at_)) (P2 109 2 rfl rfl) fun _ H33 => ?_
 refine h_stL [(w1.heap.size, mcells { PMsg.zero with kind := 1, isrc := m.isrc, iseq := m.iseq, ilow := m.ilow, ikind := m.ikind, ikey := m.ikey, ipart := m.ipart, iat := m.iat, iN := m.iN } (.slice none 0 0) (.slice none 0 0), 37), (w2.heap.size, mcells { PMsg.zero with kind := 1, isrc := m.isrc, iseq := m.iseq, ilow := m.ilow, ikind := m.ikind, ikey := m.ikey, ipart := m.ipart, iat := m.iat, iN := m.iN } (.slice none 0 0) (.slice none 0 0), 37), (w7.heap.size, #[.int .i64 m.isrc, .int .i64 m.iseq, .int .i64 0, .int .u8 0, .string .empty, .int .i64 0, .int .i64 0, .int .i64 0], 33), (W.heap.size, mcells m (.slice A1 m.owner.length c1) (.slice A2 m.set.length c2), 37)] H33 rfl (wn rfl) (R_st H33 rfl rfl rfl (st_row (m2 := .zero) (vo2 := .slice none 0 0) (vs2 := .slice none 0 0) (hL.mem_at (by simp)) (mcells_one rfl rfl))) (hL.third.row _) fun _ w34 H34 hL => ?_
 refine h_end ?_
 repeat (go_not_at_region 999; go_step)
 have ho' : onlyM m = { PMsg.zero with kind := 1, isrc := m.isrc, iseq := m.iseq, ilow := m.ilow, ikind := m.ikind, ikey := m.ikey, ipart := m.ipart, iat := m.iat, iN := m.iN } := by
  unfold onlyM
  rw [hc]
  rfl
 refine bodyPost_ret (v := .agg (mcells { PMsg.zero with kind := 1, isrc := m.isrc, iseq := m.iseq, ilow := m.ilow, ikind := m.ikind, ikey := m.ikey, ipart := m.ipart, iat := m.iat, iN := m.iN } (.slice none 0 0) (.slice none 0 0))) (only_results (H34.getD rfl) hL.at_) H34.1 ⟨(.slice none 0 0), (.slice none 0 0), by rw [ho'], ?_, ?_, hL.1⟩
 ·intro w h; rw [ho']; exact .inl ⟨rfl, rfl⟩
 ·intro w h; rw [ho']; exact .inl ⟨rfl, rfl⟩
end
theorem all_false {l : List Int} {j : Nat} (hj : j < l.length) (h : inB (l.getD j 0) = false) : l.all inB = false := by
 rw [List.all_eq_false]
 refine ⟨l.getD j 0, ?_, by rw [h]; decide⟩
 rw [List.getD_eq_getElem?_getD, List.getElem?_eq_getElem hj]
 exact List.getElem_mem hj
theorem all_more {l : List Int} {j : Nat} (ha : (l.take j).all inB = true) (hj : j < l.length) (h : inB (l.getD j 0) = true) : (l.take (j + 1)).all inB = true := by
 rw [List.take_add_one, List.all_append, ha, List.getElem?_eq_getElem hj]
 rw [List.getD_eq_getElem?_getD, List.getElem?_eq_getElem hj] at h
 simpa using h
section
variable {w0 W : World} {L : List Blk} {m : PMsg} {vo vs : Value} {l : List Int} {v : Value}
theorem in_any (x y : Int) : Calls Tryz.prog 93 #[.int .i64 x, .int .i64 y] W fun e W' => e = .returned (.bool (decide (0 ≤ x) && decide (x ≤ y))) ∧ W' = W := by
 by_cases h0 : 0 ≤ x
 ·have e1 : decide (x ≥ 0) = true := decide_eq_true h0
  have e2 : decide (0 ≤ x) = true := decide_eq_true h0
  rw [e2]
  clear h0
  go_enter Tryz.func93, Tryz.ntmps93
  go_wp2
  go_ret
  exact ⟨rfl, rfl⟩
 ·have e1 : decide (x ≥ 0) = false := decide_eq_false h0
  have e2 : decide (0 ≤ x) = false := decide_eq_false h0
  rw [e2]
  clear h0
  go_enter Tryz.func93, Tryz.ntmps93
  go_wp2
  go_ret
  exact ⟨rfl, rfl⟩
def itemB (m : PMsg) : Bool := inB m.isrc && inB m.iseq && inB m.ilow && inB m.ipart && decide ((m.ikey.size : Int) ≤ 255)
set_option maxRecDepth 100000 in
theorem items_any : Calls Tryz.prog 94 #[.agg (icells m)] W fun e W' => e = .returned (.bool (itemB m)) ∧ Below W.heap.size W W' := by
 have hL := (Live.init W).alloc (icells m) 33
 go_enter Tryz.func94, Tryz.ntmps94
 refine wp_fr (n := 27) (m := [(0, _)]) ⟨rfl, rfl, by intro p hp; simp only [List.mem_cons, List.not_mem_nil, or_false] at hp; rcases hp with rfl <;> rfl⟩ fun a0 H0 => ?_
 repeat (go_not_at_region 0; go_step)
 refine wp_region_lit ?_
 refine h_o H0 rfl (R_box H0 rfl rfl bx_item) (P1 1 rfl) fun _ H1 => ?_
 refine h_o H1 rfl (R_as H1 rfl rfl) (P2 2 1 rfl rfl) fun _ H2 => ?_
 refine h_end ?_
 generalize hw : W.alloc (.cells (icells m) 33) = w at *
 repeat (go_not_at_region 1; go_step)
 refine wp_region_lit ?_
 refine h_o H2 rfl (R_fa H2 rfl rfl (fi_0 _ _)) (P2 3 1 rfl rfl) fun _ H3 => ?_
 refine h_o H3 rfl (R_ld H3 rfl rfl (ld_int (hL.cell 0))) (P2 4 1 rfl rfl) fun _ H4 => ?_
 refine h_call H4 rfl (wn rfl) (R_call2 H4 rfl rfl rfl (fun w => by simp [go_sem])) rfl ?_
 refine (in_any _ _).mono ?_
 rintro e wx ⟨rfl, rfl⟩
 refine ⟨_, rfl, fun a5 HH => ?_⟩
 have H5 := HH [(5, _), (1, _)] (.cons rfl (.cons rfl .nil))
 refine h_o H5 rfl (R_mv H5 rfl rfl) (P2 6 1 rfl rfl) fun _ H6 => ?_
 replace H6 := H6.pick [(1, .pointer (some ⟨W.heap.size, 0, none⟩)), (6, .bool (inB m.isrc))] (.cons rfl (.cons rfl .nil))
 generalize ht0 : (inB m.isrc) = t0 at H6
 refine wpList_cut [_, _, _, _, _] (R := fun a' w' => Fr a' 27 [(1, .pointer (some ⟨W.heap.size, 0, none⟩)), (11, .bool (t0 && (inB m.iseq)))] ∧ Live W [(W.heap.size, icells m, 33)] w') ?_ ?_
 ·cases t0
  ·refine h_skip (m' := [(1, _), (6, _)]) H6 rfl (H6.wf rfl rfl rfl) rfl (.cons rfl (.cons rfl .nil)) fun a7 H7 => ?_
   refine h_skip H7 rfl (H7.wf rfl rfl rfl) rfl (P2 1 6 rfl rfl) fun _ H8 => ?_
   refine h_skip H8 rfl (H8.wf rfl rfl rfl) rfl (P2 1 6 rfl rfl) fun _ H9 => ?_
   refine h_o H9 rfl (R_pick H9 rfl rfl rfl) (P2 10 1 rfl rfl) fun _ H10 => ?_
   refine h_o H10 rfl (R_mv H10 rfl rfl) (P2 11 1 rfl rfl) fun _ H11 => ?_
   exact h_end ⟨H11.pick _ (.cons rfl (.cons rfl .nil)), hL⟩
  ·refine h_op (m' := [(7, _), (1, _), (6, _)]) H6 rfl (H6.wt rfl rfl rfl) (R_fa H6 rfl rfl (fi_1 _ _)) rfl (.cons rfl (.cons rfl (.cons rfl .nil))) fun a7 H7 => ?_
   refine h_op H7 rfl (H7.wt rfl rfl rfl) (R_ld H7 rfl rfl (ld_int (hL.cell 1))) rfl (P3 8 1 6 rfl rfl rfl) fun _ H8 => ?_
   refine h_call H8 rfl (H8.wt rfl rfl rfl) (R_call2 H8 rfl rfl rfl (fun w => by simp [go_sem])) rfl ?_
   refine (in_any _ _).mono ?_
   rintro e wx ⟨rfl, rfl⟩
   refine ⟨_, rfl, fun a9 HH => ?_⟩
   have H9 := HH [(9, _), (1, _), (6, _)] (.cons rfl (.cons rfl (.cons rfl .nil)))
   refine h_o H9 rfl (R_pick H9 rfl rfl rfl) (P2 10 1 rfl rfl) fun _ H10 => ?_
   refine h_o H10 rfl (R_mv H10 rfl rfl) (P2 11 1 rfl rfl) fun _ H11 => ?_
   exact h_end ⟨H11.pick _ (.cons rfl (.cons rfl .nil)), hL⟩
 clear hL H6
 rintro a12 wx ⟨H12, hL⟩
 generalize ht1 : (t0 && (inB m.iseq)) = t1 at H12
 refine wpList_cut [_, _, _, _, _] (R := fun a' w' => Fr a' 27 [(1, .pointer (some ⟨W.heap.size, 0, none⟩)), (16, .bool (t1 && (inB m.ilow)))] ∧ Live W [(W.heap.size, icells m, 33)] w') ?_ ?_
 ·cases t1
  ·refine h_skip (m' := [(1, _), (11, _)]) H12 rfl (H12.wf rfl rfl rfl) rfl (.cons rfl (.cons rfl .nil)) fun a13 H13 => ?_
   refine h_skip H13 rfl (H13.wf rfl rfl rfl) rfl (P2 1 11 rfl rfl) fun _ H14 => ?_
   refine h_skip H14 rfl (H14.wf rfl rfl rfl) rfl (P2 1 11 rfl rfl) fun _ H15 => ?_
   refine h_o H15 rfl (R_pick H15 rfl rfl rfl) (P2 15 1 rfl rfl) fun _ H16 => ?_
   refine h_o H16 rfl (R_mv H16 rfl rfl) (P2 16 1 rfl rfl) fun _ H17 => ?_
   exact h_end ⟨H17.pick _ (.cons rfl (.cons rfl .nil)), hL⟩
  ·refine h_op (m' := [(12, _), (1, _), (11, _)]) H12 rfl (H12.wt rfl rfl rfl) (R_fa H12 rfl rfl (fi_2 _ _)) rfl (.cons rfl (.cons rfl (.cons rfl .nil))) fun a13 H13 => ?_
   refine h_op H13 rfl (H13.wt rfl rfl rfl) (R_ld H13 rfl rfl (ld_int (hL.cell 2))) rfl (P3 13 1 11 rfl rfl rfl) fun _ H14 => ?_
   refine h_call H14 rfl (H14.wt rfl rfl rfl) (R_call2 H14 rfl rfl rfl (fun w => by simp [go_sem])) rfl ?_
   refine (in_any _ _).mono ?_
   rintro e wx ⟨rfl, rfl⟩
   refine ⟨_, rfl, fun a15 HH => ?_⟩
   have H15 := HH [(14, _), (1, _), (11, _)] (.cons rfl (.cons rfl (.cons rfl .nil)))
   refine h_o H15 rfl (R_pick H15 rfl rfl rfl) (P2 15 1 rfl rfl) fun _ H16 => ?_
   refine h_o H16 rfl (R_mv H16 rfl rfl) (P2 16 1 rfl rfl) fun _ H17 => ?_
   exact h_end ⟨H17.pick _ (.cons rfl (.cons rfl .nil)), hL⟩
 clear hL H12
 rintro a18 wx ⟨H18, hL⟩
 generalize ht2 : (t1 && (inB m.ilow)) = t2 at H18
 refine wpList_cut [_, _, _, _, _] (R := fun a' w' => Fr a' 27 [(1, .pointer (some ⟨W.heap.size, 0, none⟩)), (21, .bool (t2 && (inB m.ipart)))] ∧ Live W [(W.heap.size, icells m, 33)] w') ?_ ?_
 ·cases t2
  ·refine h_skip (m' := [(1, _), (16, _)]) H18 rfl (H18.wf rfl rfl rfl) rfl (.cons rfl (.cons rfl .nil)) fun a19 H19 => ?_
   refine h_skip H19 rfl (H19.wf rfl rfl rfl) rfl (P2 1 16 rfl rfl) fun _ H20 => ?_
   refine h_skip H20 rfl (H20.wf rfl rfl rfl) rfl (P2 1 16 rfl rfl) fun _ H21 => ?_
   refine h_o H21 rfl (R_pick H21 rfl rfl rfl) (P2 20 1 rfl rfl) fun _ H22 => ?_
   refine h_o H22 rfl (R_mv H22 rfl rfl) (P2 21 1 rfl rfl) fun _ H23 => ?_
   exact h_end ⟨H23.pick _ (.cons rfl (.cons rfl .nil)), hL⟩
  ·refine h_op (m' := [(17, _), (1, _), (16, _)]) H18 rfl (H18.wt rfl rfl rfl) (R_fa H18 rfl rfl (fi_5 _ _)) rfl (.cons rfl (.cons rfl (.cons rfl .nil))) fun a19 H19 => ?_
   refine h_op H19 rfl (H19.wt rfl rfl rfl) (R_ld H19 rfl rfl (ld_int (hL.cell 5))) rfl (P3 18 1 16 rfl rfl rfl) fun _ H20 => ?_
   refine h_call H20 rfl (H20.wt rfl rfl rfl) (R_call2 H20 rfl rfl rfl (fun w => by simp [go_sem])) rfl ?_
   refine (in_any _ _).mono ?_
   rintro e wx ⟨rfl, rfl⟩
   refine ⟨_, rfl, fun a21 HH => ?_⟩
   have H21 := HH [(19, _), (1, _), (16, _)] (.cons rfl (.cons rfl (.cons rfl .nil)))
   refine h_o H21 rfl (R_pick H21 rfl rfl rfl) (P2 20 1 rfl rfl) fun _ H22 => ?_
   refine h_o H22 rfl (R_mv H22 rfl rfl) (P2 21 1 rfl rfl) fun _ H23 => ?_
   exact h_end ⟨H23.pick _ (.cons rfl (.cons rfl .nil)), hL⟩
 clear hL H18
 rintro a24 wx ⟨H24, hL⟩
 generalize ht3 : (t2 && (inB m.ipart)) = t3 at H24
 refine wpList_cut [_, _, _, _, _, _] (R := fun a' w' => Fr a' 27 [(1, .pointer (some ⟨W.heap.size, 0, none⟩)), (2, .bool (t3 && (decide ((m.ikey.size : Int) ≤ 255))))] ∧ Live W [(W.heap.size, icells m, 33)] w') ?_ ?_
 ·cases t3
  ·refine h_skip (m' := [(1, _), (21, _)]) H24 rfl (H24.wf rfl rfl rfl) rfl (.cons rfl (.cons rfl .nil)) fun a25 H25 => ?_
   refine h_skip H25 rfl (H25.wf rfl rfl rfl) rfl (P2 1 21 rfl rfl) fun _ H26 => ?_
   refine h_skip H26 rfl (H26.wf rfl rfl rfl) rfl (P2 1 21 rfl rfl) fun _ H27 => ?_
   refine h_skip H27 rfl (H27.wf rfl rfl rfl) rfl (P2 1 21 rfl rfl) fun _ H28 => ?_
   refine h_o H28 rfl (R_pick H28 rfl rfl rfl) (P2 26 1 rfl rfl) fun _ H29 => ?_
   refine h_o H29 rfl (R_as H29 rfl rfl) (P2 2 1 rfl rfl) fun _ H30 => ?_
   exact h_end ⟨H30.pick _ (.cons rfl (.cons rfl .nil)), hL⟩
  ·refine h_op (m' := [(22, _), (1, _), (21, _)]) H24 rfl (H24.wt rfl rfl rfl) (R_fa H24 rfl rfl (fi_4 _ _)) rfl (.cons rfl (.cons rfl (.cons rfl .nil))) fun a25 H25 => ?_
   refine h_op H25 rfl (H25.wt rfl rfl rfl) (R_ld H25 rfl rfl (ld_str (hL.cell 4))) rfl (P3 23 1 21 rfl rfl rfl) fun _ H26 => ?_
   refine h_op H26 rfl (H26.wt rfl rfl rfl) (R_len H26 rfl rfl Tryz.underlying9) rfl (P3 24 1 21 rfl rfl rfl) fun _ H27 => ?_
   refine h_op H27 rfl (H27.wt rfl rfl rfl) (R_bin H27 rfl rfl rfl (B_le Tryz.underlying3 _ _)) rfl (P3 25 1 21 rfl rfl rfl) fun _ H28 => ?_
   refine h_o H28 rfl (R_pick H28 rfl rfl rfl) (P2 26 1 rfl rfl) fun _ H29 => ?_
   refine h_o H29 rfl (R_as H29 rfl rfl) (P2 2 1 rfl rfl) fun _ H30 => ?_
   exact h_end ⟨H30.pick _ (.cons rfl (.cons rfl .nil)), hL⟩
 clear hL H24
 rintro a31 wx ⟨H31, hL⟩
 generalize ht4 : (t3 && (decide ((m.ikey.size : Int) ≤ 255))) = t4 at H31
 subst ht0 ht1 ht2 ht3 ht4
 refine h_end ?_
 repeat (go_not_at_region 999; go_step)
 exact H31.ret1 rfl rfl ⟨rfl, hL.1⟩
theorem lists_any (hv : Rd W v l) (top : Int) (hl : l.length ≤ 1000000000000) : Calls Tryz.prog 95 #[v, .int .i64 top] W fun e W' => e = .returned (.bool (l.all inB && decide ((l.length : Int) ≤ top))) ∧ W' = W := by
 obtain ⟨A, c, rfl⟩ := hv.slc
 go_enter Tryz.func95, Tryz.ntmps95
 refine wp_fr (n := 22) (m := [(0, _), (1, _)]) ⟨rfl, rfl, by intro p hp; simp only [List.mem_cons, List.not_mem_nil, or_false] at hp; rcases hp with rfl | rfl <;> rfl⟩ fun a0 H0 => ?_
 repeat (go_not_at_region 0; go_step)
 refine wp_region_lit ?_
 refine h_o H0 rfl (R_as H0 rfl rfl) (P2 0 1 rfl rfl) fun _ H1 => ?_
 refine h_end ?_
 repeat (go_not_at_region 1; go_step)
 refine wp_region_lit ?_
 refine h_o H1 rfl (R_as H1 rfl rfl) (P3 5 0 1 rfl rfl rfl) fun _ H2 => ?_
 refine h_end ?_
 repeat (go_not_at_region 2; go_step)
 obtain ⟨I, hI⟩ : ∃ I : Nat → Act → World → Prop, ∀ n a' w', I n a' w' ↔ ∃ j : Nat, n = l.length - j ∧ j ≤ l.length ∧ (l.take j).all inB = true ∧ Fr a' 22 [(0, .slice A l.length c), (1, .int .i64 top), (5, .int .i64 j)] ∧ w' = W := ⟨_, fun _ _ _ => Iff.rfl⟩
 have HI := Lib.hid hI
 clear hI
 refine wp_loop_ghost I l.length ((HI.out _ _ _).2 ⟨0, rfl, Nat.zero_le _, rfl, H2.pick _ (.cons rfl (.cons rfl (.cons rfl .nil))), rfl⟩) ?_
 intro n a1 w1 hi
 obtain ⟨j, rfl, hj, hall, H0, rfl⟩ := (HI.out _ _ _).1 hi
 clear hi
 by_cases hjl : j < l.length
 ·repeat (go_not_at_region 2; go_step)
  refine wp_region_lit ?_
  refine h_o H0 rfl (R_mv H0 rfl rfl) (P4 6 0 1 5 rfl rfl rfl rfl) fun _ H1 => ?_
  refine h_o H1 rfl (R_mv H1 rfl rfl) (P5 7 6 0 1 5 rfl rfl rfl rfl rfl) fun _ H2 => ?_
  refine h_o H2 rfl (R_lenS H2 rfl rfl Tryz.underlying26) (P5 8 6 0 1 5 rfl rfl rfl rfl rfl) fun _ H3 => ?_
  refine h_o H3 rfl (R_bin H3 rfl rfl rfl (B_to (y := true) (B_lt Tryz.underlying3 _ _) (decide_eq_true (by omega)))) (P4 9 0 1 5 rfl rfl rfl rfl) fun _ H4 => ?_
  refine h_end ?_
  repeat (go_not_at_region 4; go_step)
  refine wp_cond_true (H4.ev (x := .tmp 9) rfl) ?_
  obtain ⟨ad, rfl, hx⟩ := hv.elem hjl
  repeat (go_not_at_region 4; go_step)
  refine wp_region_lit ?_
  refine h_o H4 rfl (R_mv H4 rfl rfl) (P4 12 0 1 5 rfl rfl rfl rfl) fun _ H5 => ?_
  refine h_o H5 rfl (R_mv H5 rfl rfl) (P5 13 12 0 1 5 rfl rfl rfl rfl rfl) fun _ H6 => ?_
  refine h_o H6 rfl (R_ixa H6 rfl rfl rfl (ix_at hjl)) (P4 14 0 1 5 rfl rfl rfl rfl) fun _ H7 => ?_
  refine h_o H7 rfl (R_ld H7 rfl rfl (ld_int hx)) (P4 15 0 1 5 rfl rfl rfl rfl) fun _ H8 => ?_
  refine h_call H8 rfl (wn rfl) (R_call2 H8 rfl rfl rfl (fun w => by simp [go_sem])) rfl ?_
  refine (in_any _ _).mono ?_
  rintro e wx ⟨rfl, rfl⟩
  refine ⟨_, rfl, fun a9 HH => ?_⟩
  have H9 := HH [(16, _), (0, _), (1, _), (5, _)] (.cons rfl (.cons rfl (.cons rfl (.cons rfl .nil))))
  refine h_o H9 rfl (R_not H9 rfl rfl) (P4 17 0 1 5 rfl rfl rfl rfl) fun _ H10 => ?_
  refine h_end ?_
  repeat (go_not_at_region 5; go_step)
  cases hb : inB (l.getD j 0)
  ·refine wp_cond (t := true) ((H10.ev (x := .tmp 17) rfl).trans (congrArg (fun b => Value.bool (!b)) hb)) ?_
   simp only [if_true]
   repeat (go_not_at_region 5; go_step)
   refine wp_region_lit ?_
   refine h_o H10 rfl (R_as H10 rfl rfl) (P1 4 rfl) fun _ H11 => ?_
   refine h_end ?_
   repeat (go_not_at_region 999; go_step)
   refine H11.ret1 rfl rfl ⟨?_, rfl⟩
   have hf : l.all inB = false := all_false hjl hb
   rw [hf]
   rfl
  ·refine wp_cond (t := false) ((H10.ev (x := .tmp 17) rfl).trans (congrArg (fun b => Value.bool (!b)) hb)) ?_
   simp only [Bool.false_eq_true, if_false]
   repeat (go_not_at_region 3; go_step)
   refine wp_region_lit ?_
   refine h_o H10 rfl (R_mv H10 rfl rfl) (P4 10 0 1 5 rfl rfl rfl rfl) fun _ H11 => ?_
   refine h_o H11 rfl (R_bin H11 rfl rfl rfl (B_add Tryz.underlying3 _ _ (by omega) (by omega))) (P4 11 0 1 5 rfl rfl rfl rfl) fun _ H12 => ?_
   refine h_o H12 rfl (R_as H12 rfl rfl) (P3 5 0 1 rfl rfl rfl) fun _ H13 => ?_
   refine h_end ?_
   repeat (go_not_at_region 999; go_step)
   refine ⟨l.length - (j + 1), by omega, (HI.out _ _ _).2 ⟨j + 1, rfl, hjl, all_more hall hjl hb, H13.pick _ (.cons rfl (.cons rfl (.cons rfl .nil))), rfl⟩⟩
 ·repeat (go_not_at_region 2; go_step)
  refine wp_region_lit ?_
  refine h_o H0 rfl (R_mv H0 rfl rfl) (P4 6 0 1 5 rfl rfl rfl rfl) fun _ H1 => ?_
  refine h_o H1 rfl (R_mv H1 rfl rfl) (P5 7 6 0 1 5 rfl rfl rfl rfl rfl) fun _ H2 => ?_
  refine h_o H2 rfl (R_lenS H2 rfl rfl Tryz.underlying26) (P5 8 6 0 1 5 rfl rfl rfl rfl rfl) fun _ H3 => ?_
  refine h_o H3 rfl (R_bin H3 rfl rfl rfl (B_to (y := false) (B_lt Tryz.underlying3 _ _) (decide_eq_false (by omega)))) (P4 9 0 1 5 rfl rfl rfl rfl) fun _ H4 => ?_
  refine h_end ?_
  repeat (go_not_at_region 4; go_step)
  refine wp_cond_false (H4.ev (x := .tmp 9) rfl) ?_
  repeat (go_not_at_region 6; go_step)
  refine wp_region_lit ?_
  refine h_o H4 rfl (R_mv H4 rfl rfl) (P2 18 1 rfl rfl) fun _ H5 => ?_
  refine h_o H5 rfl (R_lenS H5 rfl rfl Tryz.underlying26) (P2 19 1 rfl rfl) fun _ H6 => ?_
  refine h_o H6 rfl (R_mv H6 rfl rfl) (P2 20 19 rfl rfl) fun _ H7 => ?_
  refine h_o H7 rfl (R_bin H7 rfl rfl rfl (B_le Tryz.underlying3 _ _)) (P1 21 rfl) fun _ H8 => ?_
  refine h_o H8 rfl (R_as H8 rfl rfl) (P1 4 rfl) fun _ H9 => ?_
  refine h_end ?_
  repeat (go_not_at_region 999; go_step)
  refine H9.ret1 rfl rfl ⟨?_, rfl⟩
  have ht : l.all inB = true := by
   rw [← hall, List.take_of_length_le (by omega)]
  rw [ht]
  rfl
def okR (m : PMsg) : Bool := sameB m (onlyM m) && inB m.move && inB m.part && inB m.to && inB m.n && inB m.count && inB m.code && itemB m && inB m.epoch && inB m.nodes && (m.owner.all inB && decide ((m.owner.length : Int) ≤ 64)) && (m.set.all inB && decide ((m.set.length : Int) ≤ 1024)) && decide ((m.data.size : Int) ≤ 1024)
def rightR (m : PMsg) : Int := if 1 ≤ m.kind ∧ m.kind ≤ 14 then (if okR m = true then 0 else 1) else 10
theorem only_len (m : PMsg) : (onlyM m).owner.length ≤ m.owner.length ∧ (onlyM m).set.length ≤ m.set.length := by
 unfold onlyM
 generalize m.kind = k
 unfold prs
 split <;> simp [updL, pr_kind, pr_move, pr_part, pr_to, pr_n, pr_count, pr_code, pr_digest, pr_at_, pr_isrc, pr_iseq, pr_ilow, pr_ikind, pr_ikey, pr_ipart, pr_iat, pr_iN, pr_epoch, pr_nodes, pr_data, pr_owner, pr_set, PMsg.zero]
set_option maxRecDepth 100000 in
set_option maxHeartbeats 4000000 in
theorem refRight_any (h1 : Rd W vo m.owner) (h2 : Rd W vs m.set) (l1 : m.owner.length ≤ 1000000000000) (l2 : m.set.length ≤ 1000000000000) (hk1 : m.kind = 1) : Calls Tryz.prog 64 #[.agg (mcells m vo vs)] W fun e W' => e = .returned (.int .i64 (rightR m)) ∧ Below W.heap.size W W' := by
 have hL := Live.init W
 obtain ⟨A1, c1, rfl⟩ := h1.slc
 obtain ⟨A2, c2, rfl⟩ := h2.slc
 have K1 : ∀ {w}, Below W.heap.size W w → Rd w (.slice A1 m.owner.length c1) m.owner := fun hb => h1.kept fun k hk => hb.block k hk
 have K2 : ∀ {w}, Below W.heap.size W w → Rd w (.slice A2 m.set.length c2) m.set := fun hb => h2.kept fun k hk => hb.block k hk
 have hon := only_len m
 obtain ⟨r, hr⟩ : ∃ r, r = rightR m := ⟨_, rfl⟩
 rw [← hr]
 have Hr := Lib.hid hr
 clear hr
 go_enter Tryz.func64, Tryz.ntmps64
 refine wp_fr (n := 82) (m := [(0, _)]) ⟨rfl, rfl, by intro p hp; simp only [List.mem_cons, List.not_mem_nil, or_false] at hp; rcases hp with rfl <;> rfl⟩ fun a0 H0 => ?_
 repeat (go_not_at_region 0; go_step)
 refine wp_region_lit ?_
 refine h_opL [(W.heap.size, mcells m (.slice A1 m.owner.length c1) (.slice A2 m.set.length c2), 37)] H0 rfl (wn rfl) (R_box H0 rfl rfl bx_row) (hL.alloc _ _) rfl (P1 1 rfl) fun _ w1 H1 hL => ?_
 refine h_o H1 rfl (R_as H1 rfl rfl) (P1 1 rfl) fun _ H2 => ?_
 refine h_end ?_
 by_cases k1 : m.kind < 1
 ·repeat (go_not_at_region 1; go_step)
  refine wp_region_lit ?_
  refine h_o H2 rfl (R_fa H2 rfl rfl (fa29_0 _ _)) (P2 4 1 rfl rfl) fun _ H3 => ?_
  refine h_o H3 rfl (R_ld H3 rfl rfl (ld_u8 (hL.cell 0))) (P2 5 1 rfl rfl) fun _ H4 => ?_
  refine h_o H4 rfl (R_bin H4 rfl rfl rfl (B_to (y := true) (B8_lt _ _) (decide_eq_true (by omega)))) (P2 6 1 rfl rfl) fun _ H5 => ?_
  refine h_o H5 rfl (R_mv H5 rfl rfl) (P2 7 1 rfl rfl) fun _ H6 => ?_
  refine h_skip H6 rfl (H6.wf rfl rfl rfl) rfl (P2 7 1 rfl rfl) fun _ H7 => ?_
  refine h_skip H7 rfl (H7.wf rfl rfl rfl) rfl (P2 7 1 rfl rfl) fun _ H8 => ?_
  refine h_skip H8 rfl (H8.wf rfl rfl rfl) rfl (P2 7 1 rfl rfl) fun _ H9 => ?_
  refine h_o H9 rfl (R_pick H9 rfl rfl rfl) (P2 11 1 rfl rfl) fun _ H10 => ?_
  refine h_end ?_
  repeat (go_not_at_region 2; go_step)
  refine wp_cond_true (H10.ev (x := .tmp 11) rfl) ?_
  repeat (go_not_at_region 2; go_step)
  refine wp_region_lit ?_
  refine h_o H10 rfl (R_as H10 rfl rfl) (P1 2 rfl) fun _ H11 => ?_
  refine h_end ?_
  repeat (go_not_at_region 999; go_step)
  refine H11.ret1 (v := .int .i64 10) rfl rfl ⟨?_, hL.1⟩
  rw [Hr.out]
  unfold rightR
  rw [if_neg (by omega)]
 by_cases k2 : 14 < m.kind
 ·repeat (go_not_at_region 1; go_step)
  refine wp_region_lit ?_
  refine h_o H2 rfl (R_fa H2 rfl rfl (fa29_0 _ _)) (P2 4 1 rfl rfl) fun _ H3 => ?_
  refine h_o H3 rfl (R_ld H3 rfl rfl (ld_u8 (hL.cell 0))) (P2 5 1 rfl rfl) fun _ H4 => ?_
  refine h_o H4 rfl (R_bin H4 rfl rfl rfl (B_to (y := false) (B8_lt _ _) (decide_eq_false (by omega)))) (P2 6 1 rfl rfl) fun _ H5 => ?_
  refine h_o H5 rfl (R_mv H5 rfl rfl) (P2 7 1 rfl rfl) fun _ H6 => ?_
  refine h_op H6 rfl (H6.wt rfl rfl rfl) (R_fa H6 rfl rfl (fa29_0 _ _)) rfl (P3 8 7 1 rfl rfl rfl) fun _ H7 => ?_
  refine h_op H7 rfl (H7.wt rfl rfl rfl) (R_ld H7 rfl rfl (ld_u8 (hL.cell 0))) rfl (P3 9 7 1 rfl rfl rfl) fun _ H8 => ?_
  refine h_op H8 rfl (H8.wt rfl rfl rfl) (R_bin H8 rfl rfl rfl (B_to (y := true) (B8_gt _ _) (decide_eq_true (by omega)))) rfl (P3 10 7 1 rfl rfl rfl) fun _ H9 => ?_
  refine h_o H9 rfl (R_pick H9 rfl rfl rfl) (P2 11 1 rfl rfl) fun _ H10 => ?_
  refine h_end ?_
  repeat (go_not_at_region 2; go_step)
  refine wp_cond_true (H10.ev (x := .tmp 11) rfl) ?_
  repeat (go_not_at_region 2; go_step)
  refine wp_region_lit ?_
  refine h_o H10 rfl (R_as H10 rfl rfl) (P1 2 rfl) fun _ H11 => ?_
  refine h_end ?_
  repeat (go_not_at_region 999; go_step)
  refine H11.ret1 (v := .int .i64 10) rfl rfl ⟨?_, hL.1⟩
  rw [Hr.out]
  unfold rightR
  rw [if_neg (by omega)]
 repeat (go_not_at_region 1; go_step)
 refine wp_region_lit ?_
 refine h_o H2 rfl (R_fa H2 rfl rfl (fa29_0 _ _)) (P2 4 1 rfl rfl) fun _ H3 => ?_
 refine h_o H3 rfl (R_ld H3 rfl rfl (ld_u8 (hL.cell 0))) (P2 5 1 rfl rfl) fun _ H4 => ?_
 refine h_o H4 rfl (R_bin H4 rfl rfl rfl (B_to (y := false) (B8_lt _ _) (decide_eq_false (by omega)))) (P2 6 1 rfl rfl) fun _ H5 => ?_
 refine h_o H5 rfl (R_mv H5 rfl rfl) (P2 7 1 rfl rfl) fun _ H6 => ?_
 refine h_op H6 rfl (H6.wt rfl rfl rfl) (R_fa H6 rfl rfl (fa29_0 _ _)) rfl (P3 8 7 1 rfl rfl rfl) fun _ H7 => ?_
 refine h_op H7 rfl (H7.wt rfl rfl rfl) (R_ld H7 rfl rfl (ld_u8 (hL.cell 0))) rfl (P3 9 7 1 rfl rfl rfl) fun _ H8 => ?_
 refine h_op H8 rfl (H8.wt rfl rfl rfl) (R_bin H8 rfl rfl rfl (B_to (y := false) (B8_gt _ _) (decide_eq_false (by omega)))) rfl (P3 10 7 1 rfl rfl rfl) fun _ H9 => ?_
 refine h_o H9 rfl (R_pick H9 rfl rfl rfl) (P2 11 1 rfl rfl) fun _ H10 => ?_
 refine h_end ?_
 repeat (go_not_at_region 3; go_step)
 refine wp_cond_false (H10.ev (x := .tmp 11) rfl) ?_
 repeat (go_not_at_region 3; go_step)
 refine wp_region_held_drew (S := fun w' => Live W [(W.heap.size, mcells m (.slice A1 m.owner.length c1) (.slice A2 m.set.length c2), 37)] w') (by kernel_rfl) hL.drew (fun hL' => ?_)
 replace hL := hL'
 clear hL'
 refine a_opZ 0 H10 rfl rfl (by kernel_rfl) (wn rfl) (fun w hL => R_ld H10 rfl rfl (ld_row hL.at_)) hL rfl (P2 12 1 rfl rfl) fun _ H11 => ?_
 refine a_opZ 1 H11 rfl rfl (by kernel_rfl) (wn rfl) (fun w hL => R_ld H11 rfl rfl (ld_row hL.at_)) hL rfl (P3 13 12 1 rfl rfl rfl) fun _ H12 => ?_
 refine a_call 2 H12 (by kernel_rfl) rfl rfl (wn rfl) (R_call1 H12 rfl rfl (fun w => by simp [go_sem])) rfl ?_
 refine (only_1 hk1 (K1 hL.1) (K2 hL.1)).mono ?_
 rintro e w13 ⟨vo', vs', rfl, ho', hs', hb⟩
 replace hL := hL.call hb
 clear hb
 refine ⟨_, rfl, hL, fun a13 HH => ?_⟩
 have H13 := HH [(14, _), (12, _), (1, _)] (.cons rfl (.cons rfl (.cons rfl .nil)))
 refine a_call 3 H13 (by kernel_rfl) rfl rfl (wn rfl) (R_call2 H13 rfl rfl rfl (fun w => by simp [go_sem])) rfl ?_
 refine (refSame_any (K1 hL.1) (K2 hL.1) (ho' _ (K1 hL.1)) (hs' _ (K2 hL.1)) l1 l2 (by omega) (by omega)).mono ?_
 rintro e w14 ⟨rfl, hb⟩
 replace hL := hL.call hb
 clear hb ho' hs'
 refine ⟨_, rfl, hL, fun a14 HH => ?_⟩
 have H14 := HH [(15, _), (1, _)] (.cons rfl (.cons rfl .nil))
 refine a_opZ 4 H14 rfl rfl (by kernel_rfl) (wn rfl) (fun w hL => R_mv H14 rfl rfl) hL rfl (P2 16 1 rfl rfl) fun _ H15 => ?_
 replace H15 := H15.pick [(16, .bool (sameB m (onlyM m))), (1, .pointer (some ⟨W.heap.size, 0, none⟩))] (.cons rfl (.cons rfl .nil))
 generalize ht0 : (sameB m (onlyM m)) = t0 at H15
 refine a_opB 5 H15 rfl rfl (by kernel_rfl) (by kernel_rfl) (by kernel_rfl) (fun _ _ _ h => h) rfl rfl rfl (fun hb w hL => by subst hb; exact R_fa H15 rfl rfl (fa29_1 _ _)) hL rfl (P3 17 16 1 rfl rfl rfl) fun _ H16 => ?_
 refine a_opB 6 H16 rfl rfl (by kernel_rfl) (by kernel_rfl) (by kernel_rfl) (fun _ _ _ h => h) rfl rfl rfl (fun hb w hL => by subst hb; exact R_ld H16 rfl rfl (ld_int (hL.cell 1))) hL rfl (P3 18 16 1 rfl rfl rfl) fun _ H17 => ?_
 refine a_quietB 7 H17 rfl rfl (by kernel_rfl) (by kernel_rfl) (by kernel_rfl) (fun _ _ _ h => h) rfl rfl rfl (fun hb w => by subst hb; exact R_call2 H17 rfl rfl rfl (fun w => by simp [go_sem])) (fun w hL => in_any m.move 2147483647) hL rfl (P3 19 16 1 rfl rfl rfl) fun _ H18 => ?_
 refine a_opZ 8 H18 rfl rfl (by kernel_rfl) (wn rfl) (fun w hL => R_pickAnd H18 rfl rfl rfl) hL rfl (P2 20 1 rfl rfl) fun _ H19 => ?_
 refine a_opZ 9 H19 rfl rfl (by kernel_rfl) (wn rfl) (fun w hL => R_mv H19 rfl rfl) hL rfl (P2 21 1 rfl rfl) fun _ H20 => ?_
 replace H20 := H20.pick [(21, .bool (t0 && (inB m.move))), (1, .pointer (some ⟨W.heap.size, 0, none⟩))] (.cons rfl (.cons rfl .nil))
 generalize ht1 : (t0 && (inB m.move)) = t1 at H20
 refine a_opB 10 H20 rfl rfl (by kernel_rfl) (by kernel_rfl) (by kernel_rfl) (fun _ _ _ h => h) rfl rfl rfl (fun hb w hL => by subst hb; exact R_fa H20 rfl rfl (fa29_2 _ _)) hL rfl (P3 22 21 1 rfl rfl rfl) fun _ H21 => ?_
 refine a_opB 11 H21 rfl rfl (by kernel_rfl) (by kernel_rfl) (by kernel_rfl) (fun _ _ _ h => h) rfl rfl rfl (fun hb w hL => by subst hb; exact R_ld H21 rfl rfl (ld_int (hL.cell 2))) hL rfl (P3 23 21 1 rfl rfl rfl) fun _ H22 => ?_
 refine a_quietB 12 H22 rfl rfl (by kernel_rfl) (by kernel_rfl) (by kernel_rfl) (fun _ _ _ h => h) rfl rfl rfl (fun hb w => by subst hb; exact R_call2 H22 rfl rfl rfl (fun w => by simp [go_sem])) (fun w hL => in_any m.part 2147483647) hL rfl (P3 24 21 1 rfl rfl rfl) fun _ H23 => ?_
 refine a_opZ 13 H23 rfl rfl (by kernel_rfl) (wn rfl) (fun w hL => R_pickAnd H23 rfl rfl rfl) hL rfl (P2 25 1 rfl rfl) fun _ H24 => ?_
 refine a_opZ 14 H24 rfl rfl (by kernel_rfl) (wn rfl) (fun w hL => R_mv H24 rfl rfl) hL rfl (P2 26 1 rfl rfl) fun _ H25 => ?_
 replace H25 := H25.pick [(26, .bool (t1 && (inB m.part))), (1, .pointer (some ⟨W.heap.size, 0, none⟩))] (.cons rfl (.cons rfl .nil))
 generalize ht2 : (t1 && (inB m.part)) = t2 at H25
 refine a_opB 15 H25 rfl rfl (by kernel_rfl) (by kernel_rfl) (by kernel_rfl) (fun _ _ _ h => h) rfl rfl rfl (fun hb w hL => by subst hb; exact R_fa H25 rfl rfl (fa29_3 _ _)) hL rfl (P3 27 26 1 rfl rfl rfl) fun _ H26 => ?_
 refine a_opB 16 H26 rfl rfl (by kernel_rfl) (by kernel_rfl) (by kernel_rfl) (fun _ _ _ h => h) rfl rfl rfl (fun hb w hL => by subst hb; exact R_ld H26 rfl rfl (ld_int (hL.cell 3))) hL rfl (P3 28 26 1 rfl rfl rfl) fun _ H27 => ?_
 refine a_quietB 17 H27 rfl rfl (by kernel_rfl) (by kernel_rfl) (by kernel_rfl) (fun _ _ _ h => h) rfl rfl rfl (fun hb w => by subst hb; exact R_call2 H27 rfl rfl rfl (fun w => by simp [go_sem])) (fun w hL => in_any m.to 2147483647) hL rfl (P3 29 26 1 rfl rfl rfl) fun _ H28 => ?_
 refine a_opZ 18 H28 rfl rfl (by kernel_rfl) (wn rfl) (fun w hL => R_pickAnd H28 rfl rfl rfl) hL rfl (P2 30 1 rfl rfl) fun _ H29 => ?_
 refine a_opZ 19 H29 rfl rfl (by kernel_rfl) (wn rfl) (fun w hL => R_mv H29 rfl rfl) hL rfl (P2 31 1 rfl rfl) fun _ H30 => ?_
 replace H30 := H30.pick [(31, .bool (t2 && (inB m.to))), (1, .pointer (some ⟨W.heap.size, 0, none⟩))] (.cons rfl (.cons rfl .nil))
 generalize ht3 : (t2 && (inB m.to)) = t3 at H30
 refine a_opB 20 H30 rfl rfl (by kernel_rfl) (by kernel_rfl) (by kernel_rfl) (fun _ _ _ h => h) rfl rfl rfl (fun hb w hL => by subst hb; exact R_fa H30 rfl rfl (fa29_4 _ _)) hL rfl (P3 32 31 1 rfl rfl rfl) fun _ H31 => ?_
 refine a_opB 21 H31 rfl rfl (by kernel_rfl) (by kernel_rfl) (by kernel_rfl) (fun _ _ _ h => h) rfl rfl rfl (fun hb w hL => by subst hb; exact R_ld H31 rfl rfl (ld_int (hL.cell 4))) hL rfl (P3 33 31 1 rfl rfl rfl) fun _ H32 => ?_
 refine a_quietB 22 H32 rfl rfl (by kernel_rfl) (by kernel_rfl) (by kernel_rfl) (fun _ _ _ h => h) rfl rfl rfl (fun hb w => by subst hb; exact R_call2 H32 rfl rfl rfl (fun w => by simp [go_sem])) (fun w hL => in_any m.n 2147483647) hL rfl (P3 34 31 1 rfl rfl rfl) fun _ H33 => ?_
 refine a_opZ 23 H33 rfl rfl (by kernel_rfl) (wn rfl) (fun w hL => R_pickAnd H33 rfl rfl rfl) hL rfl (P2 35 1 rfl rfl) fun _ H34 => ?_
 refine a_opZ 24 H34 rfl rfl (by kernel_rfl) (wn rfl) (fun w hL => R_mv H34 rfl rfl) hL rfl (P2 36 1 rfl rfl) fun _ H35 => ?_
 replace H35 := H35.pick [(36, .bool (t3 && (inB m.n))), (1, .pointer (some ⟨W.heap.size, 0, none⟩))] (.cons rfl (.cons rfl .nil))
 generalize ht4 : (t3 && (inB m.n)) = t4 at H35
 refine a_opB 25 H35 rfl rfl (by kernel_rfl) (by kernel_rfl) (by kernel_rfl) (fun _ _ _ h => h) rfl rfl rfl (fun hb w hL => by subst hb; exact R_fa H35 rfl rfl (fa29_5 _ _)) hL rfl (P3 37 36 1 rfl rfl rfl) fun _ H36 => ?_
 refine a_opB 26 H36 rfl rfl (by kernel_rfl) (by kernel_rfl) (by kernel_rfl) (fun _ _ _ h => h) rfl rfl rfl (fun hb w hL => by subst hb; exact R_ld H36 rfl rfl (ld_int (hL.cell 5))) hL rfl (P3 38 36 1 rfl rfl rfl) fun _ H37 => ?_
 refine a_quietB 27 H37 rfl rfl (by kernel_rfl) (by kernel_rfl) (by kernel_rfl) (fun _ _ _ h => h) rfl rfl rfl (fun hb w => by subst hb; exact R_call2 H37 rfl rfl rfl (fun w => by simp [go_sem])) (fun w hL => in_any m.count 2147483647) hL rfl (P3 39 36 1 rfl rfl rfl) fun _ H38 => ?_
 refine a_opZ 28 H38 rfl rfl (by kernel_rfl) (wn rfl) (fun w hL => R_pickAnd H38 rfl rfl rfl) hL rfl (P2 40 1 rfl rfl) fun _ H39 => ?_
 refine a_opZ 29 H39 rfl rfl (by kernel_rfl) (wn rfl) (fun w hL => R_mv H39 rfl rfl) hL rfl (P2 41 1 rfl rfl) fun _ H40 => ?_
 replace H40 := H40.pick [(41, .bool (t4 && (inB m.count))), (1, .pointer (some ⟨W.heap.size, 0, none⟩))] (.cons rfl (.cons rfl .nil))
 generalize ht5 : (t4 && (inB m.count)) = t5 at H40
 refine a_opB 30 H40 rfl rfl (by kernel_rfl) (by kernel_rfl) (by kernel_rfl) (fun _ _ _ h => h) rfl rfl rfl (fun hb w hL => by subst hb; exact R_fa H40 rfl rfl (fa29_6 _ _)) hL rfl (P3 42 41 1 rfl rfl rfl) fun _ H41 => ?_
 refine a_opB 31 H41 rfl rfl (by kernel_rfl) (by kernel_rfl) (by kernel_rfl) (fun _ _ _ h => h) rfl rfl rfl (fun hb w hL => by subst hb; exact R_ld H41 rfl rfl (ld_int (hL.cell 6))) hL rfl (P3 43 41 1 rfl rfl rfl) fun _ H42 => ?_
 refine a_quietB 32 H42 rfl rfl (by kernel_rfl) (by kernel_rfl) (by kernel_rfl) (fun _ _ _ h => h) rfl rfl rfl (fun hb w => by subst hb; exact R_call2 H42 rfl rfl rfl (fun w => by simp [go_sem])) (fun w hL => in_any m.code 2147483647) hL rfl (P3 44 41 1 rfl rfl rfl) fun _ H43 => ?_
 refine a_opZ 33 H43 rfl rfl (by kernel_rfl) (wn rfl) (fun w hL => R_pickAnd H43 rfl rfl rfl) hL rfl (P2 45 1 rfl rfl) fun _ H44 => ?_
 refine a_opZ 34 H44 rfl rfl (by kernel_rfl) (wn rfl) (fun w hL => R_mv H44 rfl rfl) hL rfl (P2 46 1 rfl rfl) fun _ H45 => ?_
 replace H45 := H45.pick [(46, .bool (t5 && (inB m.code))), (1, .pointer (some ⟨W.heap.size, 0, none⟩))] (.cons rfl (.cons rfl .nil))
 generalize ht6 : (t5 && (inB m.code)) = t6 at H45
 refine a_opB 35 H45 rfl rfl (by kernel_rfl) (by kernel_rfl) (by kernel_rfl) (fun _ _ _ h => h) rfl rfl rfl (fun hb w hL => by subst hb; exact R_fa H45 rfl rfl (fa29_9 _ _)) hL rfl (P3 47 46 1 rfl rfl rfl) fun _ H46 => ?_
 refine a_opB 36 H46 rfl rfl (by kernel_rfl) (by kernel_rfl) (by kernel_rfl) (fun _ _ _ h => h) rfl rfl rfl (fun hb w hL => by subst hb; exact R_ld H46 rfl rfl (ld_item (hL.cell 9) (hL.cell 10) (hL.cell 11) (hL.cell 12) (hL.cell 13) (hL.cell 14) (hL.cell 15) (hL.cell 16))) hL rfl (P3 48 46 1 rfl rfl rfl) fun _ H47 => ?_
 refine a_callB 37 H47 (by kernel_rfl) rfl rfl (by kernel_rfl) (by kernel_rfl) (fun _ _ _ h => h) rfl rfl rfl (fun hb => by subst hb; exact R_call1 H47 rfl rfl (fun w => by simp [go_sem])) ((items_any (m := m)).mono fun e w2 h => ⟨h.1, hL.call h.2⟩) hL rfl (P3 49 46 1 rfl rfl rfl) fun a48 w48 hL' H48 => ?_
 replace hL := hL'
 refine a_opZ 38 H48 rfl rfl (by kernel_rfl) (wn rfl) (fun w hL => R_pickAnd H48 rfl rfl rfl) hL rfl (P2 50 1 rfl rfl) fun _ H49 => ?_
 refine a_opZ 39 H49 rfl rfl (by kernel_rfl) (wn rfl) (fun w hL => R_mv H49 rfl rfl) hL rfl (P2 51 1 rfl rfl) fun _ H50 => ?_
 replace H50 := H50.pick [(51, .bool (t6 && (itemB m))), (1, .pointer (some ⟨W.heap.size, 0, none⟩))] (.cons rfl (.cons rfl .nil))
 generalize ht7 : (t6 && (itemB m)) = t7 at H50
 refine a_opB 40 H50 rfl rfl (by kernel_rfl) (by kernel_rfl) (by kernel_rfl) (fun _ _ _ h => h) rfl rfl rfl (fun hb w hL => by subst hb; exact R_fa H50 rfl rfl (fa29_10 _ _)) hL rfl (P3 52 51 1 rfl rfl rfl) fun _ H51 => ?_
 refine a_opB 41 H51 rfl rfl (by kernel_rfl) (by kernel_rfl) (by kernel_rfl) (fun _ _ _ h => h) rfl rfl rfl (fun hb w hL => by subst hb; exact R_fa H51 rfl rfl (fa27_0 _ _)) hL rfl (P3 53 51 1 rfl rfl rfl) fun _ H52 => ?_
 refine a_opB 42 H52 rfl rfl (by kernel_rfl) (by kernel_rfl) (by kernel_rfl) (fun _ _ _ h => h) rfl rfl rfl (fun hb w hL => by subst hb; exact R_ld H52 rfl rfl (ld_int (hL.cell 17))) hL rfl (P3 54 51 1 rfl rfl rfl) fun _ H53 => ?_
 refine a_quietB 43 H53 rfl rfl (by kernel_rfl) (by kernel_rfl) (by kernel_rfl) (fun _ _ _ h => h) rfl rfl rfl (fun hb w => by subst hb; exact R_call2 H53 rfl rfl rfl (fun w => by simp [go_sem])) (fun w hL => in_any m.epoch 2147483647) hL rfl (P3 55 51 1 rfl rfl rfl) fun _ H54 => ?_
 refine a_opZ 44 H54 rfl rfl (by kernel_rfl) (wn rfl) (fun w hL => R_pickAnd H54 rfl rfl rfl) hL rfl (P2 56 1 rfl rfl) fun _ H55 => ?_
 refine a_opZ 45 H55 rfl rfl (by kernel_rfl) (wn rfl) (fun w hL => R_mv H55 rfl rfl) hL rfl (P2 57 1 rfl rfl) fun _ H56 => ?_
 replace H56 := H56.pick [(57, .bool (t7 && (inB m.epoch))), (1, .pointer (some ⟨W.heap.size, 0, none⟩))] (.cons rfl (.cons rfl .nil))
 generalize ht8 : (t7 && (inB m.epoch)) = t8 at H56
 refine a_opB 46 H56 rfl rfl (by kernel_rfl) (by kernel_rfl) (by kernel_rfl) (fun _ _ _ h => h) rfl rfl rfl (fun hb w hL => by subst hb; exact R_fa H56 rfl rfl (fa29_10 _ _)) hL rfl (P3 58 57 1 rfl rfl rfl) fun _ H57 => ?_
 refine a_opB 47 H57 rfl rfl (by kernel_rfl) (by kernel_rfl) (by kernel_rfl) (fun _ _ _ h => h) rfl rfl rfl (fun hb w hL => by subst hb; exact R_fa H57 rfl rfl (fa27_1 _ _)) hL rfl (P3 59 57 1 rfl rfl rfl) fun _ H58 => ?_
 refine a_opB 48 H58 rfl rfl (by kernel_rfl) (by kernel_rfl) (by kernel_rfl) (fun _ _ _ h => h) rfl rfl rfl (fun hb w hL => by subst hb; exact R_ld H58 rfl rfl (ld_int (hL.cell 18))) hL rfl (P3 60 57 1 rfl rfl rfl) fun _ H59 => ?_
 refine a_quietB 49 H59 rfl rfl (by kernel_rfl) (by kernel_rfl) (by kernel_rfl) (fun _ _ _ h => h) rfl rfl rfl (fun hb w => by subst hb; exact R_call2 H59 rfl rfl rfl (fun w => by simp [go_sem])) (fun w hL => in_any m.nodes 2147483647) hL rfl (P3 61 57 1 rfl rfl rfl) fun _ H60 => ?_
 refine a_opZ 50 H60 rfl rfl (by kernel_rfl) (wn rfl) (fun w hL => R_pickAnd H60 rfl rfl rfl) hL rfl (P2 62 1 rfl rfl) fun _ H61 => ?_
 refine a_opZ 51 H61 rfl rfl (by kernel_rfl) (wn rfl) (fun w hL => R_mv H61 rfl rfl) hL rfl (P2 63 1 rfl rfl) fun _ H62 => ?_
 replace H62 := H62.pick [(63, .bool (t8 && (inB m.nodes))), (1, .pointer (some ⟨W.heap.size, 0, none⟩))] (.cons rfl (.cons rfl .nil))
 generalize ht9 : (t8 && (inB m.nodes)) = t9 at H62
 refine a_opB 52 H62 rfl rfl (by kernel_rfl) (by kernel_rfl) (by kernel_rfl) (fun _ _ _ h => h) rfl rfl rfl (fun hb w hL => by subst hb; exact R_fa H62 rfl rfl (fa29_10 _ _)) hL rfl (P3 64 63 1 rfl rfl rfl) fun _ H63 => ?_
 refine a_opB 53 H63 rfl rfl (by kernel_rfl) (by kernel_rfl) (by kernel_rfl) (fun _ _ _ h => h) rfl rfl rfl (fun hb w hL => by subst hb; exact R_fa H63 rfl rfl (fa27_2 _ _)) hL rfl (P3 65 63 1 rfl rfl rfl) fun _ H64 => ?_
 refine a_opB 54 H64 rfl rfl (by kernel_rfl) (by kernel_rfl) (by kernel_rfl) (fun _ _ _ h => h) rfl rfl rfl (fun hb w hL => by subst hb; exact R_ld H64 rfl rfl (ld_sl (hL.cell 19))) hL rfl (P3 66 63 1 rfl rfl rfl) fun _ H65 => ?_
 refine a_quietB 55 H65 rfl rfl (by kernel_rfl) (by kernel_rfl) (by kernel_rfl) (fun _ _ _ h => h) rfl rfl rfl (fun hb w => by subst hb; exact R_call2 H65 rfl rfl rfl (fun w => by simp [go_sem])) (fun w hL => lists_any (K1 hL.1) 64 l1) hL rfl (P3 67 63 1 rfl rfl rfl) fun _ H66 => ?_
 refine a_opZ 56 H66 rfl rfl (by kernel_rfl) (wn rfl) (fun w hL => R_pickAnd H66 rfl rfl rfl) hL rfl (P2 68 1 rfl rfl) fun _ H67 => ?_
 refine a_opZ 57 H67 rfl rfl (by kernel_rfl) (wn rfl) (fun w hL => R_mv H67 rfl rfl) hL rfl (P2 69 1 rfl rfl) fun _ H68 => ?_
 replace H68 := H68.pick [(69, .bool (t9 && (m.owner.all inB && decide ((m.owner.length : Int) ≤ 64)))), (1, .pointer (some ⟨W.heap.size, 0, none⟩))] (.cons rfl (.cons rfl .nil))
 generalize ht10 : (t9 && (m.owner.all inB && decide ((m.owner.length : Int) ≤ 64))) = t10 at H68
 refine a_opB 58 H68 rfl rfl (by kernel_rfl) (by kernel_rfl) (by kernel_rfl) (fun _ _ _ h => h) rfl rfl rfl (fun hb w hL => by subst hb; exact R_fa H68 rfl rfl (fa29_11 _ _)) hL rfl (P3 70 69 1 rfl rfl rfl) fun _ H69 => ?_
 refine a_opB 59 H69 rfl rfl (by kernel_rfl) (by kernel_rfl) (by kernel_rfl) (fun _ _ _ h => h) rfl rfl rfl (fun hb w hL => by subst hb; exact R_ld H69 rfl rfl (ld_sl (hL.cell 20))) hL rfl (P3 71 69 1 rfl rfl rfl) fun _ H70 => ?_
 refine a_quietB 60 H70 rfl rfl (by kernel_rfl) (by kernel_rfl) (by kernel_rfl) (fun _ _ _ h => h) rfl rfl rfl (fun hb w => by subst hb; exact R_call2 H70 rfl rfl rfl (fun w => by simp [go_sem])) (fun w hL => lists_any (K2 hL.1) 1024 l2) hL rfl (P3 72 69 1 rfl rfl rfl) fun _ H71 => ?_
 refine a_opZ 61 H71 rfl rfl (by kernel_rfl) (wn rfl) (fun w hL => R_pickAnd H71 rfl rfl rfl) hL rfl (P2 73 1 rfl rfl) fun _ H72 => ?_
 refine a_opZ 62 H72 rfl rfl (by kernel_rfl) (wn rfl) (fun w hL => R_mv H72 rfl rfl) hL rfl (P2 74 1 rfl rfl) fun _ H73 => ?_
 replace H73 := H73.pick [(74, .bool (t10 && (m.set.all inB && decide ((m.set.length : Int) ≤ 1024)))), (1, .pointer (some ⟨W.heap.size, 0, none⟩))] (.cons rfl (.cons rfl .nil))
 generalize ht11 : (t10 && (m.set.all inB && decide ((m.set.length : Int) ≤ 1024))) = t11 at H73
 refine a_opB 63 H73 rfl rfl (by kernel_rfl) (by kernel_rfl) (by kernel_rfl) (fun _ _ _ h => h) rfl rfl rfl (fun hb w hL => by subst hb; exact R_fa H73 rfl rfl (fa29_12 _ _)) hL rfl (P3 75 74 1 rfl rfl rfl) fun _ H74 => ?_
 refine a_opB 64 H74 rfl rfl (by kernel_rfl) (by kernel_rfl) (by kernel_rfl) (fun _ _ _ h => h) rfl rfl rfl (fun hb w hL => by subst hb; exact R_ld H74 rfl rfl (ld_str (hL.cell 21))) hL rfl (P3 76 74 1 rfl rfl rfl) fun _ H75 => ?_
 refine a_opB 65 H75 rfl rfl (by kernel_rfl) (by kernel_rfl) (by kernel_rfl) (fun _ _ _ h => h) rfl rfl rfl (fun hb w hL => by subst hb; exact R_len H75 rfl rfl Tryz.underlying9) hL rfl (P3 77 74 1 rfl rfl rfl) fun _ H76 => ?_
 refine a_opB 66 H76 rfl rfl (by kernel_rfl) (by kernel_rfl) (by kernel_rfl) (fun _ _ _ h => h) rfl rfl rfl (fun hb w hL => by subst hb; exact R_bin H76 rfl rfl rfl (B_le Tryz.underlying3 _ _)) hL rfl (P3 78 74 1 rfl rfl rfl) fun _ H77 => ?_
 refine a_opZ 67 H77 rfl rfl (by kernel_rfl) (wn rfl) (fun w hL => R_pickAnd H77 rfl rfl rfl) hL rfl (P2 79 1 rfl rfl) fun _ H78 => ?_
 refine a_opZ 68 H78 rfl rfl (by kernel_rfl) (wn rfl) (fun w hL => R_as H78 rfl rfl) hL rfl (P2 3 1 rfl rfl) fun _ H79 => ?_
 replace H79 := H79.pick [(3, .bool (t11 && (decide ((m.data.size : Int) ≤ 1024)))), (1, .pointer (some ⟨W.heap.size, 0, none⟩))] (.cons rfl (.cons rfl .nil))
 generalize ht12 : (t11 && (decide ((m.data.size : Int) ≤ 1024))) = t12 at H79
 refine wpAnyH_done (by kernel_rfl) ?_ _
 have hok : okR m = t12 := by subst ht0 ht1 ht2 ht3 ht4 ht5 ht6 ht7 ht8 ht9 ht10 ht11 ht12; rfl
 clear ht0 ht1 ht2 ht3 ht4 ht5 ht6 ht7 ht8 ht9 ht10 ht11 ht12
 repeat (go_not_at_region 4; go_step)
 refine wp_region_lit ?_
 refine h_o H79 rfl (R_mv H79 rfl rfl) (P1 80 rfl) fun _ H80 => ?_
 refine h_o H80 rfl (R_not H80 rfl rfl) (P1 81 rfl) fun _ H81 => ?_
 refine h_end ?_
 repeat (go_not_at_region 999; go_step)
 cases t12
 ·refine wp_cond_true (H81.ev (x := .tmp 81) rfl) ?_
  repeat (go_not_at_region 5; go_step)
  refine wp_region_lit ?_
  refine h_o H81 rfl (R_as H81 rfl rfl) (P1 2 rfl) fun _ H82 => ?_
  refine h_end ?_
  repeat (go_not_at_region 999; go_step)
  refine H82.ret1 (v := .int .i64 1) rfl rfl ⟨?_, hL.1⟩
  rw [Hr.out]
  unfold rightR
  rw [if_pos ⟨by omega, by omega⟩, hok]
  rfl
 ·refine wp_cond_false (H81.ev (x := .tmp 81) rfl) ?_
  repeat (go_not_at_region 6; go_step)
  refine wp_region_lit ?_
  refine h_o H81 rfl (R_as H81 rfl rfl) (P1 2 rfl) fun _ H82 => ?_
  refine h_end ?_
  repeat (go_not_at_region 999; go_step)
  refine H82.ret1 (v := .int .i64 0) rfl rfl ⟨?_, hL.1⟩
  rw [Hr.out]
  unfold rightR
  rw [if_pos ⟨by omega, by omega⟩, hok]
  rfl
end
end Go.Proofs.YthkeiclhllikjaaGreat.R
