/-
  slices.Equal of integers.
-/
import Derived.Test.YthkeiclhllikjaaGreatMsgClone
import Derived.LoopTactic
import Derived.BigQuiet
import Derived.Lib.Hide
import Derived.Test.YthkeiclhllikjaaGreatRows
import Derived.WalkKit
import Derived.Test.YthkeiclhllikjaaGreatMsgQh
import Derived.Laws.StructEq
set_option linter.unusedSimpArgs false
set_option linter.unusedVariables false
namespace Go.Proofs.YthkeiclhllikjaaGreat
open Go.RowKit
theorem Rd.elem {W : World} {A : Option Addr} {c : Nat} {l : List Int} (h : Rd W (.slice A l.length c) l) {j : Nat} (hj : j < l.length) :
  ∃ ad, A = some ad ∧ W.cell? (ad.add j) = some (.int .i64 (l.getD j 0)) := by
 rcases h with ⟨_, rfl⟩ | ⟨a, c', hv, _, hc⟩
 ·simp at hj
 ·cases hv
  exact ⟨a, rfl, hc j _ (by simp [ints, hj])⟩
theorem take_more {l m : List Int} {j : Nat} (h : l.take j = m.take j) (hl : j < l.length) (hm : j < m.length) (he : l.getD j 0 = m.getD j 0) : l.take (j + 1) = m.take (j + 1) := by
 rw [List.take_add_one, List.take_add_one, h]
 congr 1
 simp [List.getD, hl, hm] at he
 simp [hl, hm, he]
theorem take_all {l m : List Int} {j : Nat} (h : l.take j = m.take j) (hl : l.length = m.length) (hj : j = l.length) : l = m := by
 rw [List.take_of_length_le (by omega), List.take_of_length_le (by omega)] at h
 exact h
theorem getD_ne {l m : List Int} {j : Nat} (h : l.getD j 0 ≠ m.getD j 0) : l ≠ m := fun e => h (by rw [e])
theorem Rd.slc {W : World} {v : Value} {l : List Int} (h : Rd W v l) : ∃ A c, v = .slice A l.length c := by
 rcases h with ⟨rfl, rfl⟩ | ⟨a, c, rfl, _⟩
 ·exact ⟨_, _, rfl⟩
 ·exact ⟨_, _, rfl⟩
section
variable {W : World} {u v : Value} {l m : List Int}
set_option maxRecDepth 100000 in
theorem slEq_any (h1 : Rd W u l) (h2 : Rd W v m) (hl : l.length ≤ 9223372036854775807) :
  Calls Tryz.prog 73 #[u, v] W fun e W' => e = .returned (.bool (decide (l = m))) ∧ ∃ n, W' = W.drewN n := by
 obtain ⟨A1, c1, rfl⟩ := h1.slc
 obtain ⟨A2, c2, rfl⟩ := h2.slc
 have H1 := Lib.hid h1
 have H2 := Lib.hid h2
 have Hl := Lib.hid hl
 clear h1 h2 hl
 obtain ⟨r, hr⟩ : ∃ r, r = decide (l = m) := ⟨_, rfl⟩
 rw [← hr]
 have Hr := Lib.hid hr
 clear hr
 by_cases e : l.length = m.length
 ·have g1 : ((l.length : Int) != m.length) = false := by rw [e]; simp
  have E := Lib.hid e
  clear e
  go_enter Tryz.func73, Tryz.ntmps73
  go_wp2_with fail
  go_loopw [13] (fun y wr => ∃ (j n : Nat), y = .int .i64 j ∧ j ≤ l.length ∧ l.take j = m.take j ∧ wr = W.drewN n) (fun y _ => l.length - (intOf y).toNat)
  case atStart => exact ⟨0, 0, rfl, Nat.zero_le _, rfl, rfl⟩
  case round =>
   obtain ⟨j, n, rfl, hj, ht, rfl⟩ := hrel
   have Ht := Lib.hid ht
   have Hj := Lib.hid hj
   clear ht hj
   by_cases hjl : j < l.length
   ·obtain ⟨ad, rfl, hx⟩ := H1.out.elem hjl
    obtain ⟨bd, rfl, hy⟩ := H2.out.elem (j := j) (by have := E.out; omega)
    have hx2 := hx
    have hy2 := hy
    obtain ⟨x, hxe⟩ : ∃ x, x = l.getD j 0 := ⟨_, rfl⟩
    obtain ⟨y, hye⟩ : ∃ y, y = m.getD j 0 := ⟨_, rfl⟩
    rw [← hxe] at hx2
    rw [← hye] at hy2
    have r1 : decide (j < l.length) = true := decide_eq_true hjl
    have r2 : decide (j < m.length) = true := decide_eq_true (by have := E.out; omega)
    have p1 : (j < l.length) = True := eq_true hjl
    have p2 : (j < m.length) = True := eq_true (by have := E.out; omega)
    have Hjl := Lib.hid hjl
    have Hx := Lib.hid hxe
    have Hy := Lib.hid hye
    clear hx hy hxe hye hjl
    by_cases hxy : x = y
    ·have q1 : (x != y) = false := by rw [hxy]; simp
     have Hxy := Lib.hid hxy
     clear hxy
     have hb : j + 1 ≤ 9223372036854775807 := by have := Hjl.out; have := Hl.out; omega
     go_wp2_with fail
     go_quiet (fail)
     go_wp2
     go_roundw
     case rel => exact ⟨j + 1, _, by go_num, Hjl.out, take_more Ht.out Hjl.out (by have := Hjl.out; have := E.out; omega) (by rw [← Hx.out, ← Hy.out, Hxy.out]), rfl⟩
     case measure => have := Hjl.out; simp [intOf]; omega
    ·have q1 : (x != y) = true := bne_iff_ne.2 hxy
     have hne : l ≠ m := getD_ne (j := j) (by rw [← Hx.out, ← Hy.out]; exact hxy)
     have Hne := Lib.hid hne
     clear hxy hne
     go_wp2_with fail
     go_quiet (fail)
     go_wp2
     go_ret
     refine ⟨?_, _, World.drewN_drewN _ _ _⟩
     rw [show r = false from by rw [Hr.out]; simp [Hne.out]]
     rfl
   ·have r1 : decide (j < l.length) = false := decide_eq_false hjl
    have hall : l = m := take_all Ht.out E.out (by have := Hj.out; omega)
    have Hall := Lib.hid hall
    clear hall hjl Ht Hj
    go_wp2
    go_ret
    refine ⟨?_, _, rfl⟩
    rw [show r = true from by rw [Hr.out]; simp [Hall.out]]
    rfl
 ·have g1 : ((l.length : Int) != m.length) = true := bne_iff_ne.2 (by omega)
  have hne : l ≠ m := fun h => e (by rw [h])
  have Hne := Lib.hid hne
  clear e hne
  go_enter Tryz.func73, Tryz.ntmps73
  go_wp2
  go_ret
  refine ⟨?_, 0, rfl⟩
  rw [show r = false from by rw [Hr.out]; simp [Hne.out]]
  rfl
end
end Go.Proofs.YthkeiclhllikjaaGreat
/-
 A great frame by what its slots hold: comparisons of two structs' fields joined by &&, a link at a time.
-/
namespace Go.Proofs.YthkeiclhllikjaaGreat
open Go.RowKit
def Has (a : Act) (n : Nat) (m : List (Nat × Value)) : Prop := a.tmps.size = n ∧ ∀ p, p ∈ m → a.tmps[p.1]? = some p.2
def fresh (n d : Nat) (l : List Nat) : Bool := decide (d < n) && l.all (fun x => x != d)
theorem fresh_sub {n d : Nat} {l l' : List Nat} (h : fresh n d l = true) (hs : ∀ x, x ∈ l' → x ∈ l) : fresh n d l' = true := by
 simp [fresh] at h ⊢
 exact ⟨h.1, fun x hx => h.2 x (hs x hx)⟩
section
variable {P : Program} {ops : Array Oper} {Q : Exit → Act → World → Prop} {rest : List Oper} {o : Oper} {a : Act} {w : World} {n d : Nat} {v : Value} {m : List (Nat × Value)}
theorem run_v {s : Sem Value} {x : Value} (h : s.run P w = .ok x w) : ((do pure (.value (← s))) : Sem Next).run P w = .ok (.value x) w := by simp [go_sem, h]
theorem Has.sub {m' : List (Nat × Value)} (h : Has a n m) (hs : ∀ p, p ∈ m' → p ∈ m) : Has a n m' := ⟨h.1, fun p hp => h.2 p (hs p hp)⟩
theorem Has.put (h : Has a n m) (hf : fresh n d (m.map (·.1)) = true) : Has (a.put (some d) v) n ((d, v) :: m) := by
 have hd : d < n := by simp [fresh] at hf; exact hf.1
 have hn : ∀ p, p ∈ m → p.1 ≠ d := by
  simp [fresh] at hf
  exact fun p hp => hf.2 _ p.2 hp
 refine ⟨by simp [Act.put, h.1], fun p hp => ?_⟩
 rcases List.mem_cons.1 hp with rfl | hp
 ·have h1 := h.1
  have h2 : d < a.tmps.size := by omega
  simp [Act.put, h2]
 ·have := hn p hp
  simp [Act.put, Array.getElem?_setIfInBounds, Ne.symm this]
  exact h.2 p hp
theorem Has.eval {x : Nat} (h : Has a n m) (hm : (x, v) ∈ m) : a.eval (.tmp x) = v := by
 have := h.2 _ hm
 simp only at this
 simp [Act.eval, Array.getD_eq_getD_getElem?, this]
theorem take_h (h : Has a n m) (hd : o.dst = some d) (hw : Region.wanted o (yielded ops a.tmps) = true) (hr : (execOp a.eval o).run P w = .ok (.value v) w) (hf : fresh n d (m.map (·.1)) = true)
  (k : ∀ a', a'.defers = a.defers → Has a' n ((d, v) :: m) → wpList P ops Q rest a' w) : wpList P ops Q (o :: rest) a w :=
 wpList_step fun K hK => by
  rw [if_pos hw]
  unfold Oper.wp
  rw [hr]
  simp only [Oper.upon, hd]
  exact hK _ _ (k _ rfl (h.put hf))
theorem skip_h (h : Has a n m) (hd : o.dst = some d) (hw : Region.wanted o (yielded ops a.tmps) = false) (hf : fresh n d (m.map (·.1)) = true)
  (k : ∀ a', a'.defers = a.defers → Has a' n m → wpList P ops Q rest a' w) : wpList P ops Q (o :: rest) a w := by
 unfold wpList
 rw [hw, hd]
 exact k _ rfl ((h.put (v := undef) hf).sub fun p hp => List.mem_cons_of_mem _ hp)
theorem Has.yields {j dg : Nat} {b : Bool} (h : Has a n m) (hj : (ops[j]?).bind (·.dst) = some dg) (hm : (dg, .bool b) ∈ m) : yielded ops a.tmps j = some b := by
 have := h.2 _ hm
 simp only at this
 simp [yielded, hj, this]
theorem wants {j dg : Nat} {b c : Bool} (h : Has a n m) (hj : (ops[j]?).bind (·.dst) = some dg) (hm : (dg, .bool b) ∈ m) (hg : o.guard = some (j, c)) : Region.wanted o (yielded ops a.tmps) = (b == c) := by
 unfold Region.wanted
 rw [hg]
 simp only [h.yields hj hm]
 cases b <;> cases c <;> rfl
section
variable {o1 o2 o3 o4 o5 o6 o7 o8 o9 : Oper} {d1 d2 d3 d4 d5 d6 d7 d8 d9 sp sq dg j f f2 : Nat} {s s2 t : TypeId} {p q : Nat} {b c : Bool} {x y : Value} {ty : TypeId} {vp vq fp fq fp2 fq2 : Value} {ds : List Deferred}
theorem link_first (hH : Has a n [(sp, vp), (sq, vq)]) (hds : a.defers = ds)
  (h1 : o1.dst = some d1) (h2 : o2.dst = some d2) (h3 : o3.dst = some d3) (h4 : o4.dst = some d4) (h5 : o5.dst = some d5) (h6 : o6.dst = some d6)
  (g1 : o1.guard = none) (g2 : o2.guard = none) (g3 : o3.guard = none) (g4 : o4.guard = none) (g5 : o5.guard = none) (g6 : o6.guard = none)
  (p1 : o1.op = .fieldAddr s (.tmp sp) f) (p2 : o2.op = .load t (.tmp d1)) (p3 : o3.op = .fieldAddr s (.tmp sq) f) (p4 : o4.op = .load t (.tmp d3)) (p5 : o5.op = .binOp .eql t (.tmp d2) (.tmp d4) ty) (p6 : o6.op = .move (.tmp d5))
  (n1 : fresh n d1 [sp, sq] = true) (n2 : fresh n d2 [d1, sp, sq] = true) (n3 : fresh n d3 [d2, d1, sp, sq] = true) (n4 : fresh n d4 [d3, d2, d1, sp, sq] = true) (n5 : fresh n d5 [d4, d3, d2, d1, sp, sq] = true) (n6 : fresh n d6 [d5, d4, d3, d2, d1, sp, sq] = true)
  (e1 : (Instr.fieldAt s vp f).run P w = .ok fp w) (e2 : (Instr.loadAt t fp).run P w = .ok x w) (e3 : (Instr.fieldAt s vq f).run P w = .ok fq w) (e4 : (Instr.loadAt t fq).run P w = .ok y w)
  (e5 : ((do eqGuard .eql t (.tmp d2) (.tmp d4) x y; binOp .eql t x y) : Sem Value).run P w = .ok (.bool c) w)
  (k : ∀ a', a'.defers = ds → Has a' n [(sp, vp), (sq, vq), (d6, .bool c)] → wpList P ops Q rest a' w) : wpList P ops Q (o1 :: o2 :: o3 :: o4 :: o5 :: o6 :: rest) a w := by
 have wn : ∀ {o : Oper} {a : Act}, o.guard = none → Region.wanted o (yielded ops a.tmps) = true := fun hg => by unfold Region.wanted; rw [hg]
 refine take_h hH h1 (wn g1) (v := fp) ?_ n1 fun a1 b1 H1 => ?_
 ·unfold execOp; rw [p1]; simp only [hH.eval (x := sp) (v := vp) (by simp)]; exact run_v e1
 refine take_h H1 h2 (wn g2) (v := x) ?_ n2 fun a2 b2 H2 => ?_
 ·unfold execOp; rw [p2]; simp only [H1.eval (x := d1) (v := fp) (by simp)]; exact run_v e2
 refine take_h H2 h3 (wn g3) (v := fq) ?_ n3 fun a3 b3 H3 => ?_
 ·unfold execOp; rw [p3]; simp only [H2.eval (x := sq) (v := vq) (by simp)]; exact run_v e3
 refine take_h H3 h4 (wn g4) (v := y) ?_ n4 fun a4 b4 H4 => ?_
 ·unfold execOp; rw [p4]; simp only [H3.eval (x := d3) (v := fq) (by simp)]; exact run_v e4
 refine take_h H4 h5 (wn g5) (v := .bool c) ?_ n5 fun a5 b5 H5 => ?_
 ·unfold execOp; rw [p5]; simp only [H4.eval (x := d4) (v := y) (by simp), H4.eval (x := d2) (v := x) (by simp)]; exact run_v e5
 refine take_h H5 h6 (wn g6) (v := .bool c) ?_ n6 fun a6 b6 H6 => ?_
 ·unfold execOp; rw [p6]; simp only [H5.eval (x := d5) (v := .bool c) (by simp)]; rfl
 exact k a6 (by rw [b6, b5, b4, b3, b2, b1, hds]) (H6.sub (by simp))
theorem link_next (hH : Has a n [(sp, vp), (sq, vq), (dg, .bool b)]) (hds : a.defers = ds) (hj : (ops[j]?).bind (·.dst) = some dg)
  (h1 : o1.dst = some d1) (h2 : o2.dst = some d2) (h3 : o3.dst = some d3) (h4 : o4.dst = some d4) (h5 : o5.dst = some d5) (h6 : o6.dst = some d6) (h7 : o7.dst = some d7)
  (g1 : o1.guard = some (j, true)) (g2 : o2.guard = some (j, true)) (g3 : o3.guard = some (j, true)) (g4 : o4.guard = some (j, true)) (g5 : o5.guard = some (j, true)) (g6 : o6.guard = none) (g7 : o7.guard = none)
  (p1 : o1.op = .fieldAddr s (.tmp sp) f) (p2 : o2.op = .load t (.tmp d1)) (p3 : o3.op = .fieldAddr s (.tmp sq) f) (p4 : o4.op = .load t (.tmp d3)) (p5 : o5.op = .binOp .eql t (.tmp d2) (.tmp d4) ty) (p6 : o6.op = .pick (.tmp dg) (.tmp d5) (.const (.bool false))) (p7 : o7.op = .move (.tmp d6))
  (n1 : fresh n d1 [sp, sq, dg] = true) (n2 : fresh n d2 [d1, sp, sq, dg] = true) (n3 : fresh n d3 [d2, d1, sp, sq, dg] = true) (n4 : fresh n d4 [d3, d2, d1, sp, sq, dg] = true) (n5 : fresh n d5 [d4, d3, d2, d1, sp, sq, dg] = true) (n6 : fresh n d6 [d5, d4, d3, d2, d1, sp, sq, dg] = true) (n7 : fresh n d7 [d6, d5, d4, d3, d2, d1, sp, sq, dg] = true)
  (e1 : (Instr.fieldAt s vp f).run P w = .ok fp w) (e2 : (Instr.loadAt t fp).run P w = .ok x w) (e3 : (Instr.fieldAt s vq f).run P w = .ok fq w) (e4 : (Instr.loadAt t fq).run P w = .ok y w)
  (e5 : ((do eqGuard .eql t (.tmp d2) (.tmp d4) x y; binOp .eql t x y) : Sem Value).run P w = .ok (.bool c) w)
  (k : ∀ a', a'.defers = ds → Has a' n [(sp, vp), (sq, vq), (d7, .bool (b && c))] → wpList P ops Q rest a' w) : wpList P ops Q (o1 :: o2 :: o3 :: o4 :: o5 :: o6 :: o7 :: rest) a w := by
 have wn : ∀ {o : Oper} {a : Act}, o.guard = none → Region.wanted o (yielded ops a.tmps) = true := fun hg => by unfold Region.wanted; rw [hg]
 cases b
 ·refine skip_h hH h1 ((wants (b := false) hH hj (by simp) g1).trans rfl) (fresh_sub n1 (by simp)) fun a1 b1 H1 => ?_
  refine skip_h H1 h2 ((wants (b := false) H1 hj (by simp) g2).trans rfl) (fresh_sub n2 (by simp)) fun a2 b2 H2 => ?_
  refine skip_h H2 h3 ((wants (b := false) H2 hj (by simp) g3).trans rfl) (fresh_sub n3 (by simp)) fun a3 b3 H3 => ?_
  refine skip_h H3 h4 ((wants (b := false) H3 hj (by simp) g4).trans rfl) (fresh_sub n4 (by simp)) fun a4 b4 H4 => ?_
  refine skip_h H4 h5 ((wants (b := false) H4 hj (by simp) g5).trans rfl) (fresh_sub n5 (by simp)) fun a5 b5 H5 => ?_
  refine take_h H5 h6 (wn g6) (v := .bool false) ?_ (fresh_sub n6 (by simp)) fun a6 b6 H6 => ?_
  ·unfold execOp; rw [p6]; simp only [H5.eval (x := dg) (v := .bool false) (by simp)]; rfl
  refine take_h H6 h7 (wn g7) (v := .bool false) ?_ (fresh_sub n7 (by simp)) fun a7 b7 H7 => ?_
  ·unfold execOp; rw [p7]; simp only [H6.eval (x := d6) (v := .bool false) (by simp)]; rfl
  exact k a7 (by rw [b7, b6, b5, b4, b3, b2, b1, hds]) (H7.sub (by simp))
 ·refine take_h hH h1 ((wants (b := true) hH hj (by simp) g1).trans rfl) (v := fp) ?_ n1 fun a1 b1 H1 => ?_
  ·unfold execOp; rw [p1]; simp only [hH.eval (x := sp) (v := vp) (by simp)]; exact run_v e1
  refine take_h H1 h2 ((wants (b := true) H1 hj (by simp) g2).trans rfl) (v := x) ?_ n2 fun a2 b2 H2 => ?_
  ·unfold execOp; rw [p2]; simp only [H1.eval (x := d1) (v := fp) (by simp)]; exact run_v e2
  refine take_h H2 h3 ((wants (b := true) H2 hj (by simp) g3).trans rfl) (v := fq) ?_ n3 fun a3 b3 H3 => ?_
  ·unfold execOp; rw [p3]; simp only [H2.eval (x := sq) (v := vq) (by simp)]; exact run_v e3
  refine take_h H3 h4 ((wants (b := true) H3 hj (by simp) g4).trans rfl) (v := y) ?_ n4 fun a4 b4 H4 => ?_
  ·unfold execOp; rw [p4]; simp only [H3.eval (x := d3) (v := fq) (by simp)]; exact run_v e4
  refine take_h H4 h5 ((wants (b := true) H4 hj (by simp) g5).trans rfl) (v := .bool c) ?_ n5 fun a5 b5 H5 => ?_
  ·unfold execOp; rw [p5]; simp only [H4.eval (x := d4) (v := y) (by simp), H4.eval (x := d2) (v := x) (by simp)]; exact run_v e5
  refine take_h H5 h6 (wn g6) (v := .bool c) ?_ n6 fun a6 b6 H6 => ?_
  ·unfold execOp; rw [p6]; simp only [H5.eval (x := dg) (v := .bool true) (by simp), H5.eval (x := d5) (v := .bool c) (by simp)]; rfl
  refine take_h H6 h7 (wn g7) (v := .bool c) ?_ n7 fun a7 b7 H7 => ?_
  ·unfold execOp; rw [p7]; simp only [H6.eval (x := d6) (v := .bool c) (by simp)]; rfl
  exact k a7 (by rw [b7, b6, b5, b4, b3, b2, b1, hds]) (H7.sub (by simp))
theorem link_last (hH : Has a n [(sp, vp), (sq, vq), (dg, .bool b)]) (hds : a.defers = ds) (hj : (ops[j]?).bind (·.dst) = some dg)
  (h1 : o1.dst = some d1) (h2 : o2.dst = some d2) (h3 : o3.dst = some d3) (h4 : o4.dst = some d4) (h5 : o5.dst = some d5) (h6 : o6.dst = some d6) (h7 : o7.dst = some d7)
  (g1 : o1.guard = some (j, true)) (g2 : o2.guard = some (j, true)) (g3 : o3.guard = some (j, true)) (g4 : o4.guard = some (j, true)) (g5 : o5.guard = some (j, true)) (g6 : o6.guard = none) (g7 : o7.guard = none)
  (p1 : o1.op = .fieldAddr s (.tmp sp) f) (p2 : o2.op = .load t (.tmp d1)) (p3 : o3.op = .fieldAddr s (.tmp sq) f) (p4 : o4.op = .load t (.tmp d3)) (p5 : o5.op = .binOp .eql t (.tmp d2) (.tmp d4) ty) (p6 : o6.op = .pick (.tmp dg) (.tmp d5) (.const (.bool false))) (p7 : o7.op = .assign (.tmp d6))
  (n1 : fresh n d1 [sp, sq, dg] = true) (n2 : fresh n d2 [d1, sp, sq, dg] = true) (n3 : fresh n d3 [d2, d1, sp, sq, dg] = true) (n4 : fresh n d4 [d3, d2, d1, sp, sq, dg] = true) (n5 : fresh n d5 [d4, d3, d2, d1, sp, sq, dg] = true) (n6 : fresh n d6 [d5, d4, d3, d2, d1, sp, sq, dg] = true) (n7 : fresh n d7 [d6, d5, d4, d3, d2, d1, sp, sq, dg] = true)
  (e1 : (Instr.fieldAt s vp f).run P w = .ok fp w) (e2 : (Instr.loadAt t fp).run P w = .ok x w) (e3 : (Instr.fieldAt s vq f).run P w = .ok fq w) (e4 : (Instr.loadAt t fq).run P w = .ok y w)
  (e5 : ((do eqGuard .eql t (.tmp d2) (.tmp d4) x y; binOp .eql t x y) : Sem Value).run P w = .ok (.bool c) w)
  (k : ∀ a', a'.defers = ds → Has a' n [(sp, vp), (sq, vq), (d7, .bool (b && c))] → wpList P ops Q rest a' w) : wpList P ops Q (o1 :: o2 :: o3 :: o4 :: o5 :: o6 :: o7 :: rest) a w := by
 have wn : ∀ {o : Oper} {a : Act}, o.guard = none → Region.wanted o (yielded ops a.tmps) = true := fun hg => by unfold Region.wanted; rw [hg]
 cases b
 ·refine skip_h hH h1 ((wants (b := false) hH hj (by simp) g1).trans rfl) (fresh_sub n1 (by simp)) fun a1 b1 H1 => ?_
  refine skip_h H1 h2 ((wants (b := false) H1 hj (by simp) g2).trans rfl) (fresh_sub n2 (by simp)) fun a2 b2 H2 => ?_
  refine skip_h H2 h3 ((wants (b := false) H2 hj (by simp) g3).trans rfl) (fresh_sub n3 (by simp)) fun a3 b3 H3 => ?_
  refine skip_h H3 h4 ((wants (b := false) H3 hj (by simp) g4).trans rfl) (fresh_sub n4 (by simp)) fun a4 b4 H4 => ?_
  refine skip_h H4 h5 ((wants (b := false) H4 hj (by simp) g5).trans rfl) (fresh_sub n5 (by simp)) fun a5 b5 H5 => ?_
  refine take_h H5 h6 (wn g6) (v := .bool false) ?_ (fresh_sub n6 (by simp)) fun a6 b6 H6 => ?_
  ·unfold execOp; rw [p6]; simp only [H5.eval (x := dg) (v := .bool false) (by simp)]; rfl
  refine take_h H6 h7 (wn g7) (v := .bool false) ?_ (fresh_sub n7 (by simp)) fun a7 b7 H7 => ?_
  ·unfold execOp; rw [p7]; simp only [H6.eval (x := d6) (v := .bool false) (by simp)]; rfl
  exact k a7 (by rw [b7, b6, b5, b4, b3, b2, b1, hds]) (H7.sub (by simp))
 ·refine take_h hH h1 ((wants (b := true) hH hj (by simp) g1).trans rfl) (v := fp) ?_ n1 fun a1 b1 H1 => ?_
  ·unfold execOp; rw [p1]; simp only [hH.eval (x := sp) (v := vp) (by simp)]; exact run_v e1
  refine take_h H1 h2 ((wants (b := true) H1 hj (by simp) g2).trans rfl) (v := x) ?_ n2 fun a2 b2 H2 => ?_
  ·unfold execOp; rw [p2]; simp only [H1.eval (x := d1) (v := fp) (by simp)]; exact run_v e2
  refine take_h H2 h3 ((wants (b := true) H2 hj (by simp) g3).trans rfl) (v := fq) ?_ n3 fun a3 b3 H3 => ?_
  ·unfold execOp; rw [p3]; simp only [H2.eval (x := sq) (v := vq) (by simp)]; exact run_v e3
  refine take_h H3 h4 ((wants (b := true) H3 hj (by simp) g4).trans rfl) (v := y) ?_ n4 fun a4 b4 H4 => ?_
  ·unfold execOp; rw [p4]; simp only [H3.eval (x := d3) (v := fq) (by simp)]; exact run_v e4
  refine take_h H4 h5 ((wants (b := true) H4 hj (by simp) g5).trans rfl) (v := .bool c) ?_ n5 fun a5 b5 H5 => ?_
  ·unfold execOp; rw [p5]; simp only [H4.eval (x := d4) (v := y) (by simp), H4.eval (x := d2) (v := x) (by simp)]; exact run_v e5
  refine take_h H5 h6 (wn g6) (v := .bool c) ?_ n6 fun a6 b6 H6 => ?_
  ·unfold execOp; rw [p6]; simp only [H5.eval (x := dg) (v := .bool true) (by simp), H5.eval (x := d5) (v := .bool c) (by simp)]; rfl
  refine take_h H6 h7 (wn g7) (v := .bool c) ?_ n7 fun a7 b7 H7 => ?_
  ·unfold execOp; rw [p7]; simp only [H6.eval (x := d6) (v := .bool c) (by simp)]; rfl
  exact k a7 (by rw [b7, b6, b5, b4, b3, b2, b1, hds]) (H7.sub (by simp))
theorem link_two (hH : Has a n [(sp, vp), (sq, vq), (dg, .bool b)]) (hds : a.defers = ds) (hj : (ops[j]?).bind (·.dst) = some dg)
  (h1 : o1.dst = some d1) (h2 : o2.dst = some d2) (h3 : o3.dst = some d3) (h4 : o4.dst = some d4) (h5 : o5.dst = some d5) (h6 : o6.dst = some d6) (h7 : o7.dst = some d7) (h8 : o8.dst = some d8) (h9 : o9.dst = some d9)
  (g1 : o1.guard = some (j, true)) (g2 : o2.guard = some (j, true)) (g3 : o3.guard = some (j, true)) (g4 : o4.guard = some (j, true)) (g5 : o5.guard = some (j, true)) (g6 : o6.guard = some (j, true)) (g7 : o7.guard = some (j, true)) (g8 : o8.guard = none) (g9 : o9.guard = none)
  (p1 : o1.op = .fieldAddr s (.tmp sp) f) (p2 : o2.op = .fieldAddr s2 (.tmp d1) f2) (p3 : o3.op = .load t (.tmp d2)) (p4 : o4.op = .fieldAddr s (.tmp sq) f) (p5 : o5.op = .fieldAddr s2 (.tmp d4) f2) (p6 : o6.op = .load t (.tmp d5)) (p7 : o7.op = .binOp .eql t (.tmp d3) (.tmp d6) ty) (p8 : o8.op = .pick (.tmp dg) (.tmp d7) (.const (.bool false))) (p9 : o9.op = .move (.tmp d8))
  (n1 : fresh n d1 [sp, sq, dg] = true) (n2 : fresh n d2 [d1, sp, sq, dg] = true) (n3 : fresh n d3 [d2, d1, sp, sq, dg] = true) (n4 : fresh n d4 [d3, d2, d1, sp, sq, dg] = true) (n5 : fresh n d5 [d4, d3, d2, d1, sp, sq, dg] = true) (n6 : fresh n d6 [d5, d4, d3, d2, d1, sp, sq, dg] = true) (n7 : fresh n d7 [d6, d5, d4, d3, d2, d1, sp, sq, dg] = true) (n8 : fresh n d8 [d7, d6, d5, d4, d3, d2, d1, sp, sq, dg] = true) (n9 : fresh n d9 [d8, d7, d6, d5, d4, d3, d2, d1, sp, sq, dg] = true)
  (e1 : (Instr.fieldAt s vp f).run P w = .ok fp w) (e2 : (Instr.fieldAt s2 fp f2).run P w = .ok fp2 w) (e3 : (Instr.loadAt t fp2).run P w = .ok x w) (e4 : (Instr.fieldAt s vq f).run P w = .ok fq w) (e5 : (Instr.fieldAt s2 fq f2).run P w = .ok fq2 w) (e6 : (Instr.loadAt t fq2).run P w = .ok y w)
  (e7 : ((do eqGuard .eql t (.tmp d3) (.tmp d6) x y; binOp .eql t x y) : Sem Value).run P w = .ok (.bool c) w)
  (k : ∀ a', a'.defers = ds → Has a' n [(sp, vp), (sq, vq), (d9, .bool (b && c))] → wpList P ops Q rest a' w) : wpList P ops Q (o1 :: o2 :: o3 :: o4 :: o5 :: o6 :: o7 :: o8 :: o9 :: rest) a w := by
 have wn : ∀ {o : Oper} {a : Act}, o.guard = none → Region.wanted o (yielded ops a.tmps) = true := fun hg => by unfold Region.wanted; rw [hg]
 cases b
 ·refine skip_h hH h1 ((wants (b := false) hH hj (by simp) g1).trans rfl) (fresh_sub n1 (by simp)) fun a1 b1 H1 => ?_
  refine skip_h H1 h2 ((wants (b := false) H1 hj (by simp) g2).trans rfl) (fresh_sub n2 (by simp)) fun a2 b2 H2 => ?_
  refine skip_h H2 h3 ((wants (b := false) H2 hj (by simp) g3).trans rfl) (fresh_sub n3 (by simp)) fun a3 b3 H3 => ?_
  refine skip_h H3 h4 ((wants (b := false) H3 hj (by simp) g4).trans rfl) (fresh_sub n4 (by simp)) fun a4 b4 H4 => ?_
  refine skip_h H4 h5 ((wants (b := false) H4 hj (by simp) g5).trans rfl) (fresh_sub n5 (by simp)) fun a5 b5 H5 => ?_
  refine skip_h H5 h6 ((wants (b := false) H5 hj (by simp) g6).trans rfl) (fresh_sub n6 (by simp)) fun a6 b6 H6 => ?_
  refine skip_h H6 h7 ((wants (b := false) H6 hj (by simp) g7).trans rfl) (fresh_sub n7 (by simp)) fun a7 b7 H7 => ?_
  refine take_h H7 h8 (wn g8) (v := .bool false) ?_ (fresh_sub n8 (by simp)) fun a8 b8 H8 => ?_
  ·unfold execOp; rw [p8]; simp only [H7.eval (x := dg) (v := .bool false) (by simp)]; rfl
  refine take_h H8 h9 (wn g9) (v := .bool false) ?_ (fresh_sub n9 (by simp)) fun a9 b9 H9 => ?_
  ·unfold execOp; rw [p9]; simp only [H8.eval (x := d8) (v := .bool false) (by simp)]; rfl
  exact k a9 (by rw [b9, b8, b7, b6, b5, b4, b3, b2, b1, hds]) (H9.sub (by simp))
 ·refine take_h hH h1 ((wants (b := true) hH hj (by simp) g1).trans rfl) (v := fp) ?_ n1 fun a1 b1 H1 => ?_
  ·unfold execOp; rw [p1]; simp only [hH.eval (x := sp) (v := vp) (by simp)]; exact run_v e1
  refine take_h H1 h2 ((wants (b := true) H1 hj (by simp) g2).trans rfl) (v := fp2) ?_ n2 fun a2 b2 H2 => ?_
  ·unfold execOp; rw [p2]; simp only [H1.eval (x := d1) (v := fp) (by simp)]; exact run_v e2
  refine take_h H2 h3 ((wants (b := true) H2 hj (by simp) g3).trans rfl) (v := x) ?_ n3 fun a3 b3 H3 => ?_
  ·unfold execOp; rw [p3]; simp only [H2.eval (x := d2) (v := fp2) (by simp)]; exact run_v e3
  refine take_h H3 h4 ((wants (b := true) H3 hj (by simp) g4).trans rfl) (v := fq) ?_ n4 fun a4 b4 H4 => ?_
  ·unfold execOp; rw [p4]; simp only [H3.eval (x := sq) (v := vq) (by simp)]; exact run_v e4
  refine take_h H4 h5 ((wants (b := true) H4 hj (by simp) g5).trans rfl) (v := fq2) ?_ n5 fun a5 b5 H5 => ?_
  ·unfold execOp; rw [p5]; simp only [H4.eval (x := d4) (v := fq) (by simp)]; exact run_v e5
  refine take_h H5 h6 ((wants (b := true) H5 hj (by simp) g6).trans rfl) (v := y) ?_ n6 fun a6 b6 H6 => ?_
  ·unfold execOp; rw [p6]; simp only [H5.eval (x := d5) (v := fq2) (by simp)]; exact run_v e6
  refine take_h H6 h7 ((wants (b := true) H6 hj (by simp) g7).trans rfl) (v := .bool c) ?_ n7 fun a7 b7 H7 => ?_
  ·unfold execOp; rw [p7]; simp only [H6.eval (x := d6) (v := y) (by simp), H6.eval (x := d3) (v := x) (by simp)]; exact run_v e7
  refine take_h H7 h8 (wn g8) (v := .bool c) ?_ n8 fun a8 b8 H8 => ?_
  ·unfold execOp; rw [p8]; simp only [H7.eval (x := dg) (v := .bool true) (by simp), H7.eval (x := d7) (v := .bool c) (by simp)]; rfl
  refine take_h H8 h9 (wn g9) (v := .bool c) ?_ n9 fun a9 b9 H9 => ?_
  ·unfold execOp; rw [p9]; simp only [H8.eval (x := d8) (v := .bool c) (by simp)]; rfl
  exact k a9 (by rw [b9, b8, b7, b6, b5, b4, b3, b2, b1, hds]) (H9.sub (by simp))
end
end
end Go.Proofs.YthkeiclhllikjaaGreat
/-
 msg.Same: whether two messages are the same, as plain data. The comparisons of the fields, for whoever compares two messages so.
-/
namespace Go.Proofs.YthkeiclhllikjaaGreat
open Go.RowKit
theorem Rd.kd {W : World} {v : Value} {l : List Int} (h : Rd W v l) (hl : l.length ≤ 9223372036854775807) : ∃ A c, v = .slice A l.length c ∧ l.length ≤ c := by
 rcases h with ⟨rfl, rfl⟩ | ⟨a, c, rfl, hc, hcell⟩
 ·exact ⟨none, 0, rfl, Nat.le_refl _⟩
 ·exact ⟨some a, c, rfl, hc⟩
section
variable {P : Program} {w : World} {d : Nat} {xs ys : Array Value} {f : Field} {fs : List Field} {a b : Value} {r s : Bool}
theorem eqf_last (hn : (f.name == "_") = false) (ha : (part f.type xs f.offset).run P w = .ok a w) (hb : (part f.type ys f.offset).run P w = .ok b w) (he : (Op.equalIn d f.type a b).run P w = .ok r w) : (Op.eqFields d xs ys [f]).run P w = .ok r w := by
 have hn' : f.name ≠ "_" := by simpa using hn
 simp only [Op.eqFields, if_pos hn', Sem.run_bind, ha, hb, he, Result.andThen_ok]
 cases r <;> simp
theorem eqf_cons (hn : (f.name == "_") = false) (ha : (part f.type xs f.offset).run P w = .ok a w) (hb : (part f.type ys f.offset).run P w = .ok b w) (he : (Op.equalIn d f.type a b).run P w = .ok r w) (hr : (Op.eqFields d xs ys fs).run P w = .ok s w) : (Op.eqFields d xs ys (f :: fs)).run P w = .ok (r && s) w := by
 have hn' : f.name ≠ "_" := by simpa using hn
 rw [Op.eqFields]
 simp only [if_pos hn', Sem.run_bind, ha, hb, he, Result.andThen_ok]
 cases r
 ·simp
 ·simpa using hr
theorem eqA_of {t : TypeId} {fs : Array Field} (hu : P.underlying t = some (.struct fs)) (hp : P.stoodInHeld t = false) (h : (Op.eqFields d xs ys fs.toList).run P w = .ok r w) : (Op.equalIn (d + 1) t (.agg xs) (.agg ys)).run P w = .ok r w := by
 have hf : P.fieldsOf t = fs := by simp [Program.fieldsOf, hu]
 rw [run_equalIn_struct (P := P) w d t xs ys (by rw [hf]; exact hu) hp, hf]
 exact h
end
theorem eqItem (d : Nat) (w : World) (x0 y0 : Int) (x1 y1 : Int) (x2 y2 : Int) (x3 y3 : Int) (x4 y4 : ByteArray) (x5 y5 : Int) (x6 y6 : Int) (x7 y7 : Int) :
  (Op.equalIn (d + 2) 33 (.agg #[.int .i64 x0, .int .i64 x1, .int .i64 x2, .int .u8 x3, .string x4, .int .i64 x5, .int .i64 x6, .int .i64 x7]) (.agg #[.int .i64 y0, .int .i64 y1, .int .i64 y2, .int .u8 y3, .string y4, .int .i64 y5, .int .i64 y6, .int .i64 y7])).run Tryz.prog w = .ok (x0 == y0 && (x1 == y1 && (x2 == y2 && (x3 == y3 && (x4.toList == y4.toList && (x5 == y5 && (x6 == y6 && (x7 == y7)))))))) w := by
 refine eqA_of Tryz.underlying33 (by kernel_rfl) ?_
 refine eqf_cons (by rfl) (by go_simp; rfl) (by go_simp; rfl) (by go_simp) ?_
 refine eqf_cons (by rfl) (by go_simp; rfl) (by go_simp; rfl) (by go_simp) ?_
 refine eqf_cons (by rfl) (by go_simp; rfl) (by go_simp; rfl) (by go_simp) ?_
 refine eqf_cons (by rfl) (by go_simp; rfl) (by go_simp; rfl) (by go_simp) ?_
 refine eqf_cons (by rfl) (by go_simp; rfl) (by go_simp; rfl) (by go_simp) ?_
 refine eqf_cons (by rfl) (by go_simp; rfl) (by go_simp; rfl) (by go_simp) ?_
 refine eqf_cons (by rfl) (by go_simp; rfl) (by go_simp; rfl) (by go_simp) ?_
 exact eqf_last (by rfl) (by go_simp; rfl) (by go_simp; rfl) (by go_simp)
def sameB (a b : PMsg) : Bool :=
 decide (a.set = b.set) && (decide (a.owner = b.owner) && (decide ((a.kind : Int) = b.kind) && (decide (a.move = b.move) && (decide (a.part = b.part) && (decide (a.to = b.to) && (decide (a.n = b.n) && (decide (a.count = b.count) && (decide (a.code = b.code) &&
  (decide ((a.digest : Int) = b.digest) && (decide (a.at_ = b.at_) &&
  ((a.isrc == b.isrc && (a.iseq == b.iseq && (a.ilow == b.ilow && ((a.ikind : Int) == (b.ikind : Int) && (a.ikey.toList == b.ikey.toList && (a.ipart == b.ipart && (a.iat == b.iat && a.iN == b.iN))))))) &&
  (decide (a.epoch = b.epoch) && (decide (a.nodes = b.nodes) && (a.data.toList == b.data.toList))))))))))))))
theorem fa29_0 (g : Nat) (w : World) : (Instr.fieldAt 37 (.pointer (some ⟨g, 0, none⟩)) 0).run Tryz.prog w = .ok (.pointer (some ⟨g, 0, none⟩)) w := by simp [go_sem]
theorem fa29_1 (g : Nat) (w : World) : (Instr.fieldAt 37 (.pointer (some ⟨g, 0, none⟩)) 1).run Tryz.prog w = .ok (.pointer (some ⟨g, 1, none⟩)) w := by simp [go_sem]
theorem fa29_2 (g : Nat) (w : World) : (Instr.fieldAt 37 (.pointer (some ⟨g, 0, none⟩)) 2).run Tryz.prog w = .ok (.pointer (some ⟨g, 2, none⟩)) w := by simp [go_sem]
theorem fa29_3 (g : Nat) (w : World) : (Instr.fieldAt 37 (.pointer (some ⟨g, 0, none⟩)) 3).run Tryz.prog w = .ok (.pointer (some ⟨g, 3, none⟩)) w := by simp [go_sem]
theorem fa29_4 (g : Nat) (w : World) : (Instr.fieldAt 37 (.pointer (some ⟨g, 0, none⟩)) 4).run Tryz.prog w = .ok (.pointer (some ⟨g, 4, none⟩)) w := by simp [go_sem]
theorem fa29_5 (g : Nat) (w : World) : (Instr.fieldAt 37 (.pointer (some ⟨g, 0, none⟩)) 5).run Tryz.prog w = .ok (.pointer (some ⟨g, 5, none⟩)) w := by simp [go_sem]
theorem fa29_6 (g : Nat) (w : World) : (Instr.fieldAt 37 (.pointer (some ⟨g, 0, none⟩)) 6).run Tryz.prog w = .ok (.pointer (some ⟨g, 6, none⟩)) w := by simp [go_sem]
theorem fa29_7 (g : Nat) (w : World) : (Instr.fieldAt 37 (.pointer (some ⟨g, 0, none⟩)) 7).run Tryz.prog w = .ok (.pointer (some ⟨g, 7, none⟩)) w := by simp [go_sem]
theorem fa29_8 (g : Nat) (w : World) : (Instr.fieldAt 37 (.pointer (some ⟨g, 0, none⟩)) 8).run Tryz.prog w = .ok (.pointer (some ⟨g, 8, none⟩)) w := by simp [go_sem]
theorem fa29_9 (g : Nat) (w : World) : (Instr.fieldAt 37 (.pointer (some ⟨g, 0, none⟩)) 9).run Tryz.prog w = .ok (.pointer (some ⟨g, 9, none⟩)) w := by simp [go_sem]
theorem fa29_10 (g : Nat) (w : World) : (Instr.fieldAt 37 (.pointer (some ⟨g, 0, none⟩)) 10).run Tryz.prog w = .ok (.pointer (some ⟨g, 17, none⟩)) w := by simp [go_sem]
theorem fa29_11 (g : Nat) (w : World) : (Instr.fieldAt 37 (.pointer (some ⟨g, 0, none⟩)) 11).run Tryz.prog w = .ok (.pointer (some ⟨g, 20, none⟩)) w := by simp [go_sem]
theorem fa29_12 (g : Nat) (w : World) : (Instr.fieldAt 37 (.pointer (some ⟨g, 0, none⟩)) 12).run Tryz.prog w = .ok (.pointer (some ⟨g, 21, none⟩)) w := by simp [go_sem]
theorem fa27_0 (g : Nat) (w : World) : (Instr.fieldAt 28 (.pointer (some ⟨g, 17, none⟩)) 0).run Tryz.prog w = .ok (.pointer (some ⟨g, 17, none⟩)) w := by simp [go_sem]
theorem fa27_1 (g : Nat) (w : World) : (Instr.fieldAt 28 (.pointer (some ⟨g, 17, none⟩)) 1).run Tryz.prog w = .ok (.pointer (some ⟨g, 18, none⟩)) w := by simp [go_sem]
theorem fa27_2 (g : Nat) (w : World) : (Instr.fieldAt 28 (.pointer (some ⟨g, 17, none⟩)) 2).run Tryz.prog w = .ok (.pointer (some ⟨g, 19, none⟩)) w := by simp [go_sem]
theorem ld_u8 {w : World} {a : Addr} {x : Int} (h : w.cell? a = some (.int .u8 x)) : (Instr.loadAt 5 (.pointer (some a))).run Tryz.prog w = .ok (.int .u8 x) w := by simp [go_sem, h]
theorem ld_int {w : World} {a : Addr} {x : Int} (h : w.cell? a = some (.int .i64 x)) : (Instr.loadAt 3 (.pointer (some a))).run Tryz.prog w = .ok (.int .i64 x) w := by simp [go_sem, h]
theorem ld_i64 {w : World} {a : Addr} {x : Int} (h : w.cell? a = some (.int .i64 x)) : (Instr.loadAt 2 (.pointer (some a))).run Tryz.prog w = .ok (.int .i64 x) w := by simp [go_sem, h]
theorem ld_u64 {w : World} {a : Addr} {x : Int} (h : w.cell? a = some (.int .u64 x)) : (Instr.loadAt 35 (.pointer (some a))).run Tryz.prog w = .ok (.int .u64 x) w := by simp [go_sem, h]
theorem ld_str {w : World} {a : Addr} {x : ByteArray} (h : w.cell? a = some (.string x)) : (Instr.loadAt 9 (.pointer (some a))).run Tryz.prog w = .ok (.string x) w := by simp [go_sem, h]
theorem ld_item {w : World} {g : Nat} {x0 x1 x2 x3 x5 x6 x7 : Int} {x4 : ByteArray} (h0 : w.cell? ⟨g, 9, none⟩ = some (.int .i64 x0)) (h1 : w.cell? ⟨g, 10, none⟩ = some (.int .i64 x1)) (h2 : w.cell? ⟨g, 11, none⟩ = some (.int .i64 x2)) (h3 : w.cell? ⟨g, 12, none⟩ = some (.int .u8 x3)) (h4 : w.cell? ⟨g, 13, none⟩ = some (.string x4)) (h5 : w.cell? ⟨g, 14, none⟩ = some (.int .i64 x5)) (h6 : w.cell? ⟨g, 15, none⟩ = some (.int .i64 x6)) (h7 : w.cell? ⟨g, 16, none⟩ = some (.int .i64 x7)) :
  (Instr.loadAt 33 (.pointer (some ⟨g, 9, none⟩))).run Tryz.prog w = .ok (.agg #[.int .i64 x0, .int .i64 x1, .int .i64 x2, .int .u8 x3, .string x4, .int .i64 x5, .int .i64 x6, .int .i64 x7]) w := by
 simp [go_sem, h0, h1, h2, h3, h4, h5, h6, h7]
theorem cmp_u8 {X Y : Operand} {w : World} (x y : Int) : ((do eqGuard .eql 5 X Y (.int .u8 x) (.int .u8 y); binOp .eql 5 (.int .u8 x) (.int .u8 y)) : Sem Value).run Tryz.prog w = .ok (.bool (x == y)) w := by simp [go_sem]
theorem cmp_int {X Y : Operand} {w : World} (x y : Int) : ((do eqGuard .eql 3 X Y (.int .i64 x) (.int .i64 y); binOp .eql 3 (.int .i64 x) (.int .i64 y)) : Sem Value).run Tryz.prog w = .ok (.bool (x == y)) w := by simp [go_sem]
theorem cmp_i64 {X Y : Operand} {w : World} (x y : Int) : ((do eqGuard .eql 2 X Y (.int .i64 x) (.int .i64 y); binOp .eql 2 (.int .i64 x) (.int .i64 y)) : Sem Value).run Tryz.prog w = .ok (.bool (x == y)) w := by simp [go_sem]
theorem cmp_u64 {X Y : Operand} {w : World} (x y : Int) : ((do eqGuard .eql 35 X Y (.int .u64 x) (.int .u64 y); binOp .eql 35 (.int .u64 x) (.int .u64 y)) : Sem Value).run Tryz.prog w = .ok (.bool (x == y)) w := by simp [go_sem]
theorem cmp_str {X Y : Operand} {w : World} (x y : ByteArray) : ((do eqGuard .eql 9 X Y (.string x) (.string y); binOp .eql 9 (.string x) (.string y)) : Sem Value).run Tryz.prog w = .ok (.bool (x.toList == y.toList)) w := by simp [go_sem]
attribute [local go_sem high] eqItem in
theorem cmp_item {X Y : Operand} {w : World} (x0 y0 : Int) (x1 y1 : Int) (x2 y2 : Int) (x3 y3 : Int) (x4 y4 : ByteArray) (x5 y5 : Int) (x6 y6 : Int) (x7 y7 : Int) :
  ((do eqGuard .eql 33 X Y (.agg #[.int .i64 x0, .int .i64 x1, .int .i64 x2, .int .u8 x3, .string x4, .int .i64 x5, .int .i64 x6, .int .i64 x7]) (.agg #[.int .i64 y0, .int .i64 y1, .int .i64 y2, .int .u8 y3, .string y4, .int .i64 y5, .int .i64 y6, .int .i64 y7]); binOp .eql 33 (.agg #[.int .i64 x0, .int .i64 x1, .int .i64 x2, .int .u8 x3, .string x4, .int .i64 x5, .int .i64 x6, .int .i64 x7]) (.agg #[.int .i64 y0, .int .i64 y1, .int .i64 y2, .int .u8 y3, .string y4, .int .i64 y5, .int .i64 y6, .int .i64 y7])) : Sem Value).run Tryz.prog w = .ok (.bool (x0 == y0 && (x1 == y1 && (x2 == y2 && (x3 == y3 && (x4.toList == y4.toList && (x5 == y5 && (x6 == y6 && (x7 == y7))))))))) w := by simp [go_sem]
theorem same_total (a b : PMsg) (hs : a.set = b.set) (ho : a.owner = b.owner) : ((((((((((((((a.kind : Int) == (b.kind : Int)) && (a.move == b.move)) && (a.part == b.part)) && (a.to == b.to)) && (a.n == b.n)) && (a.count == b.count)) && (a.code == b.code)) && ((a.digest : Int) == (b.digest : Int))) && (a.at_ == b.at_)) && (a.isrc == b.isrc && (a.iseq == b.iseq && (a.ilow == b.ilow && ((a.ikind : Int) == (b.ikind : Int) && (a.ikey.toList == b.ikey.toList && (a.ipart == b.ipart && (a.iat == b.iat && a.iN == b.iN)))))))) && (a.epoch == b.epoch)) && (a.nodes == b.nodes)) && (a.data.toList == b.data.toList)) = sameB a b := by
 unfold sameB
 rw [decide_eq_true hs, decide_eq_true ho, Bool.true_and, Bool.true_and]
 simp only [Bool.and_assoc]
 rfl
theorem results_one_tmp {tmps : Array Value} {w : World} {v : Value} (h : tmps[4]? = some v) : (results Tryz.f83 tmps).run Tryz.prog w = .ok v w := by
 have h2 : tmps.getD 4 undef = v := by rw [Array.getD_eq_getD_getElem?, h]; rfl
 simp [results, Tryz.results83, go_sem, h]
section
variable {W : World} {a b : PMsg} {ao aS bo bs : Value}
set_option maxRecDepth 100000 in
set_option maxHeartbeats 4000000 in
theorem Same_any (h1 : Rd W ao a.owner) (h2 : Rd W aS a.set) (h3 : Rd W bo b.owner) (h4 : Rd W bs b.set)
  (l1 : a.owner.length ≤ 9223372036854775807) (l2 : a.set.length ≤ 9223372036854775807) (_l3 : b.owner.length ≤ 9223372036854775807) (_l4 : b.set.length ≤ 9223372036854775807) :
  Calls Tryz.prog 83 #[.agg (mcells a ao aS), .agg (mcells b bo bs)] W fun e W' => e = .returned (.bool (sameB a b)) ∧ Below W.heap.size W W' := by
 obtain ⟨A1, c1, rfl⟩ := h1.slc
 obtain ⟨A2, c2, rfl⟩ := h2.slc
 obtain ⟨A3, c3, rfl⟩ := h3.slc
 obtain ⟨A4, c4, rfl⟩ := h4.slc
 have hL := ((Live.init W).alloc (mcells a (.slice A1 a.owner.length c1) (.slice A2 a.set.length c2)) 37).alloc (mcells b (.slice A3 b.owner.length c3) (.slice A4 b.set.length c4)) 37
 have hs1 : ∀ (w : World) (o : Obj), (w.alloc o).heap.size = w.heap.size + 1 := fun w o => by simp
 simp only [hs1] at hL
 have H1 := Lib.hid (h1.kept (W' := ((W.alloc (.cells (mcells a (.slice A1 a.owner.length c1) (.slice A2 a.set.length c2)) 37)).alloc (.cells (mcells b (.slice A3 b.owner.length c3) (.slice A4 b.set.length c4)) 37))) fun k hk => hL.1.block k hk)
 have H2 := Lib.hid (h2.kept (W' := ((W.alloc (.cells (mcells a (.slice A1 a.owner.length c1) (.slice A2 a.set.length c2)) 37)).alloc (.cells (mcells b (.slice A3 b.owner.length c3) (.slice A4 b.set.length c4)) 37))) fun k hk => hL.1.block k hk)
 have H3 := Lib.hid (h3.kept (W' := ((W.alloc (.cells (mcells a (.slice A1 a.owner.length c1) (.slice A2 a.set.length c2)) 37)).alloc (.cells (mcells b (.slice A3 b.owner.length c3) (.slice A4 b.set.length c4)) 37))) fun k hk => hL.1.block k hk)
 have H4 := Lib.hid (h4.kept (W' := ((W.alloc (.cells (mcells a (.slice A1 a.owner.length c1) (.slice A2 a.set.length c2)) 37)).alloc (.cells (mcells b (.slice A3 b.owner.length c3) (.slice A4 b.set.length c4)) 37))) fun k hk => hL.1.block k hk)
 have a20 : ((W.alloc (.cells (mcells a (.slice A1 a.owner.length c1) (.slice A2 a.set.length c2)) 37)).alloc (.cells (mcells b (.slice A3 b.owner.length c3) (.slice A4 b.set.length c4)) 37)).cell? ⟨W.heap.size, 20, none⟩ = some (.slice A2 a.set.length c2) := hL.tail.cell 20
 have b20 : ((W.alloc (.cells (mcells a (.slice A1 a.owner.length c1) (.slice A2 a.set.length c2)) 37)).alloc (.cells (mcells b (.slice A3 b.owner.length c3) (.slice A4 b.set.length c4)) 37)).cell? ⟨W.heap.size + 1, 20, none⟩ = some (.slice A4 b.set.length c4) := hL.cell 20
 have L1 := Lib.hid l1
 have L2 := Lib.hid l2
 clear h1 h2 h3 h4 l1 l2
 obtain ⟨sb, hsb⟩ : ∃ s, s = sameB a b := ⟨_, rfl⟩
 rw [← hsb]
 have Hsb := Lib.hid hsb
 clear hsb
 go_enter Tryz.func83, Tryz.ntmps83
 go_wp2_with fail
 change Calls _ _ _ ((W.alloc (.cells (mcells a (.slice A1 a.owner.length c1) (.slice A2 a.set.length c2)) 37)).alloc (.cells (mcells b (.slice A3 b.owner.length c3) (.slice A4 b.set.length c4)) 37)) _
 generalize ((W.alloc (.cells (mcells a (.slice A1 a.owner.length c1) (.slice A2 a.set.length c2)) 37)).alloc (.cells (mcells b (.slice A3 b.owner.length c3) (.slice A4 b.set.length c4)) 37)) = W2 at *
 refine (slEq_any H2.out H4.out L2.out).mono ?_
 rintro e w' ⟨rfl, n, rfl⟩
 by_cases es : a.set = b.set
 ·have d1 : decide (a.set = b.set) = true := decide_eq_true es
  have Es := Lib.hid es
  clear es
  have hL2 := hL.drewN n
  have a19 : (W2.drewN n).cell? ⟨W.heap.size, 19, none⟩ = some (.slice A1 a.owner.length c1) := hL2.tail.cell 19
  have b19 : (W2.drewN n).cell? ⟨W.heap.size + 1, 19, none⟩ = some (.slice A3 b.owner.length c3) := hL2.cell 19
  clear a20 b20
  have H1'0 : Hid (Rd (W2.drewN n) (.slice A1 a.owner.length c1) a.owner) := Lib.hid (H1.out.kept fun _ _ => rfl)
  have H3'0 : Hid (Rd (W2.drewN n) (.slice A3 b.owner.length c3) b.owner) := Lib.hid (H3.out.kept fun _ _ => rfl)
  generalize W2.drewN n = W3 at *
  go_wp2_with fail
  have H1' : Rd W3 (.slice A1 a.owner.length c1) a.owner := H1'0.out
  have H3' : Rd W3 (.slice A3 b.owner.length c3) b.owner := H3'0.out
  clear H1'0 H3'0
  refine (slEq_any H1' H3' L1.out).mono ?_
  rintro e w' ⟨rfl, n2, rfl⟩
  by_cases eo : a.owner = b.owner
  ·have d2 : decide (a.owner = b.owner) = true := decide_eq_true eo
   have Eo := Lib.hid eo
   clear eo
   have hL3 := hL2.drewN n2
   clear a19 b19 H1' H3' H1 H2 H3 H4
   have hp : ∀ i : Nat, (W3.drewN n2).cell? ⟨W.heap.size, i, none⟩ = _ := fun i => hL3.tail.cell i
   have hq : ∀ i : Nat, (W3.drewN n2).cell? ⟨W.heap.size + 1, i, none⟩ = _ := fun i => hL3.cell i
   generalize W3.drewN n2 = W4 at *
   go_upto_region 3 with fail
   apply wp_region_lit
   refine link_first (n := 114) (sp := 2) (sq := 3) (ds := []) ⟨rfl, (by intro p hp; simp only [List.mem_cons, List.not_mem_nil, or_false] at hp; rcases hp with rfl | rfl <;> rfl)⟩ rfl rfl rfl rfl rfl rfl rfl rfl rfl rfl rfl rfl rfl rfl rfl rfl rfl rfl rfl rfl rfl rfl rfl rfl rfl (fa29_0 _ _) (ld_u8 (hp 0)) (fa29_0 _ _) (ld_u8 (hq 0)) (cmp_u8 _ _) ?_
   intro a0 hd0 H0
   refine link_next (n := 114) H0 hd0 rfl rfl rfl rfl rfl rfl rfl rfl rfl rfl rfl rfl rfl rfl rfl rfl rfl rfl rfl rfl rfl rfl rfl rfl rfl rfl rfl rfl rfl (fa29_1 _ _) (ld_int (hp 1)) (fa29_1 _ _) (ld_int (hq 1)) (cmp_int _ _) fun a1 hd1 H1 => ?_
   clear H0 hd0
   refine link_next (n := 114) H1 hd1 rfl rfl rfl rfl rfl rfl rfl rfl rfl rfl rfl rfl rfl rfl rfl rfl rfl rfl rfl rfl rfl rfl rfl rfl rfl rfl rfl rfl rfl (fa29_2 _ _) (ld_int (hp 2)) (fa29_2 _ _) (ld_int (hq 2)) (cmp_int _ _) fun a2 hd2 H2 => ?_
   clear H1 hd1
   refine link_next (n := 114) H2 hd2 rfl rfl rfl rfl rfl rfl rfl rfl rfl rfl rfl rfl rfl rfl rfl rfl rfl rfl rfl rfl rfl rfl rfl rfl rfl rfl rfl rfl rfl (fa29_3 _ _) (ld_int (hp 3)) (fa29_3 _ _) (ld_int (hq 3)) (cmp_int _ _) fun a3 hd3 H3 => ?_
   clear H2 hd2
   refine link_next (n := 114) H3 hd3 rfl rfl rfl rfl rfl rfl rfl rfl rfl rfl rfl rfl rfl rfl rfl rfl rfl rfl rfl rfl rfl rfl rfl rfl rfl rfl rfl rfl rfl (fa29_4 _ _) (ld_int (hp 4)) (fa29_4 _ _) (ld_int (hq 4)) (cmp_int _ _) fun a4 hd4 H4 => ?_
   clear H3 hd3
   refine link_next (n := 114) H4 hd4 rfl rfl rfl rfl rfl rfl rfl rfl rfl rfl rfl rfl rfl rfl rfl rfl rfl rfl rfl rfl rfl rfl rfl rfl rfl rfl rfl rfl rfl (fa29_5 _ _) (ld_int (hp 5)) (fa29_5 _ _) (ld_int (hq 5)) (cmp_int _ _) fun a5 hd5 H5 => ?_
   clear H4 hd4
   refine link_next (n := 114) H5 hd5 rfl rfl rfl rfl rfl rfl rfl rfl rfl rfl rfl rfl rfl rfl rfl rfl rfl rfl rfl rfl rfl rfl rfl rfl rfl rfl rfl rfl rfl (fa29_6 _ _) (ld_int (hp 6)) (fa29_6 _ _) (ld_int (hq 6)) (cmp_int _ _) fun a6 hd6 H6 => ?_
   clear H5 hd5
   refine link_next (n := 114) H6 hd6 rfl rfl rfl rfl rfl rfl rfl rfl rfl rfl rfl rfl rfl rfl rfl rfl rfl rfl rfl rfl rfl rfl rfl rfl rfl rfl rfl rfl rfl (fa29_7 _ _) (ld_u64 (hp 7)) (fa29_7 _ _) (ld_u64 (hq 7)) (cmp_u64 _ _) fun a7 hd7 H7 => ?_
   clear H6 hd6
   refine link_next (n := 114) H7 hd7 rfl rfl rfl rfl rfl rfl rfl rfl rfl rfl rfl rfl rfl rfl rfl rfl rfl rfl rfl rfl rfl rfl rfl rfl rfl rfl rfl rfl rfl (fa29_8 _ _) (ld_i64 (hp 8)) (fa29_8 _ _) (ld_i64 (hq 8)) (cmp_i64 _ _) fun a8 hd8 H8 => ?_
   clear H7 hd7
   refine link_next (n := 114) H8 hd8 rfl rfl rfl rfl rfl rfl rfl rfl rfl rfl rfl rfl rfl rfl rfl rfl rfl rfl rfl rfl rfl rfl rfl rfl rfl rfl rfl rfl rfl (fa29_9 _ _) (ld_item (hp 9) (hp 10) (hp 11) (hp 12) (hp 13) (hp 14) (hp 15) (hp 16)) (fa29_9 _ _) (ld_item (hq 9) (hq 10) (hq 11) (hq 12) (hq 13) (hq 14) (hq 15) (hq 16)) (cmp_item _ _ _ _ _ _ _ _ _ _ _ _ _ _ _ _) fun a9 hd9 H9 => ?_
   clear H8 hd8
   refine link_two (n := 114) H9 hd9 rfl rfl rfl rfl rfl rfl rfl rfl rfl rfl rfl rfl rfl rfl rfl rfl rfl rfl rfl rfl rfl rfl rfl rfl rfl rfl rfl rfl rfl rfl rfl rfl rfl rfl rfl rfl rfl (fa29_10 _ _) (fa27_0 _ _) (ld_int (hp 17)) (fa29_10 _ _) (fa27_0 _ _) (ld_int (hq 17)) (cmp_int _ _) fun a10 hd10 H10 => ?_
   clear H9 hd9
   refine link_two (n := 114) H10 hd10 rfl rfl rfl rfl rfl rfl rfl rfl rfl rfl rfl rfl rfl rfl rfl rfl rfl rfl rfl rfl rfl rfl rfl rfl rfl rfl rfl rfl rfl rfl rfl rfl rfl rfl rfl rfl rfl (fa29_10 _ _) (fa27_1 _ _) (ld_int (hp 18)) (fa29_10 _ _) (fa27_1 _ _) (ld_int (hq 18)) (cmp_int _ _) fun a11 hd11 H11 => ?_
   clear H10 hd10
   refine link_last (n := 114) H11 hd11 rfl rfl rfl rfl rfl rfl rfl rfl rfl rfl rfl rfl rfl rfl rfl rfl rfl rfl rfl rfl rfl rfl rfl rfl rfl rfl rfl rfl rfl (fa29_12 _ _) (ld_str (hp 21)) (fa29_12 _ _) (ld_str (hq 21)) (cmp_str _ _) fun a12 hd12 H12 => ?_
   clear H11 hd11
   go_wp2_with fail
   have hv := H12.2 _ (List.mem_cons_of_mem _ (List.mem_cons_of_mem _ (List.mem_singleton.2 rfl)))
   rw [same_total a b Es.out Eo.out, ← Hsb.out] at hv
   refine bodyPost_ret (v := .bool sb) (results_one_tmp hv) hd12 ⟨rfl, hL3.1⟩
  ·have d2 : decide (a.owner = b.owner) = false := decide_eq_false eo
   have hL3 := hL2.drewN n2
   have hsf : sb = false := by rw [Hsb.out]; simp [sameB, eo]
   have Hsf := Lib.hid hsf
   clear eo hsf a19 b19 H1' H3' H1 H2 H3 H4
   go_wp2_with fail
   go_ret
   refine ⟨?_, hL3.1⟩
   rw [Hsf.out]
   rfl
 ·have d1 : decide (a.set = b.set) = false := decide_eq_false es
  have hL3 := hL.drewN n
  have hsf : sb = false := by rw [Hsb.out]; simp [sameB, es]
  have Hsf := Lib.hid hsf
  clear es hsf H1 H2 H3 H4
  go_wp2_with fail
  go_ret
  refine ⟨?_, hL3.1⟩
  rw [Hsf.out]
  rfl
end
end Go.Proofs.YthkeiclhllikjaaGreat
