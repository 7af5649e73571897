/-
  msg.Bytes$1 and msg.Read$1: what they do, out of walk by the writer, by the reader.
-/
import Derived.Test.YthkeiclhllikjaaGreatMsgQf
import Derived.Test.YthkeiclhllikjaaGreatMsgRk
import Derived.Test.YthkeiclhllikjaaGreatMsgWalkJ
import Derived.Test.YthkeiclhllikjaaGreatMsgSafe
import Derived.Test.YthkeiclhllikjaaGreatMsgQg
import Derived.Laws.Tables
import Derived.Laws.ResultCell
import Derived.Laws.CopyOwn
set_option linter.unusedSimpArgs false
set_option linter.unusedVariables false
namespace Go.Proofs.YthkeiclhllikjaaGreat
open Go.RowKit
def Behind (K : Wkr) (w0 : World) (L : List Blk) (p : Nat) (t : TypeId) (k : Nat) (r : Except Int (K.σ × PMsg)) (n : Int) (W' : World) : Prop :=
 (n = 0 ∧ ∃ s', r = .ok s' ∧ ∃ vo vs Ro Rs B', Slot w0 vo s'.2.owner Ro ∧ Slot w0 vs s'.2.set Rs ∧ K.rep k s'.1 B' ∧ Live w0 (B' ++ (p, mcells s'.2 vo vs, t) :: (Ro ++ (Rs ++ L))) W') ∨ (r = .error n ∧ Live w0 L W')
section
variable {w0 W : World} {L B : List Blk} {p r g k : Nat} {t : TypeId} {vo vs : Value} {m : PMsg}
theorem bytesDoor (hf : m.Fits) (hvo : Rd w0 vo m.owner) (hvs : Rd w0 vs m.set) (hlo : m.owner.length ≤ 1000000000000) (hls : m.set.length ≤ 1000000000000)
  (hr : (wWk r).rep (k + 1100) [] B) (h : Live w0 (B ++ (p, mcells m vo vs, t) :: L) W) :
  Calls Tryz.prog 80 #[.pointer (some ⟨r, 0, none⟩), .pointer (some ⟨p, 0, none⟩)] W (Doors (Behind (wWk r) w0 L p t k (walkM (wWk r) ([], m)))) := by
 have hw := walk_any (K := wWk r) hf hvo hvs hlo hls hr h
 have Hf := Lib.hid hf
 clear hf hvo hvs hlo hls hr
 obtain ⟨rS, hrS⟩ : ∃ x, x = walkM (wWk r) ([], m) := ⟨_, rfl⟩
 rw [← hrS] at hw ⊢
 clear hrS
 go_enter Tryz.func80, Tryz.ntmps80
 go_wp2_with fail
 refine Calls.mono hw ?_
 rintro e W' (⟨s', h1, rfl, hx⟩ | ⟨f, h1, rfl, hL⟩)
 ·go_wp2
  go_end0
  exact .inl ⟨rfl, .inl ⟨rfl, s', h1, hx⟩⟩
 ·exact ⟨rfl, .inr ⟨f, rfl, .inr ⟨h1, hL⟩⟩⟩
theorem readDoor {s : ByteArray} {rp : Nat} (hf : m.Fits) (hvo : Rd w0 vo m.owner) (hvs : Rd w0 vs m.set) (hlo : m.owner.length ≤ 1000000000000) (hls : m.set.length ≤ 1000000000000)
  (hr : (rWk s g r).rep (k + 1100) (0 : Nat) B) (h : Live w0 (B ++ (p, mcells m vo vs, t) :: (rp, #[.pointer (some ⟨r, 0, none⟩)], 134) :: L) W) :
  Calls Tryz.prog 88 #[.pointer (some ⟨rp, 0, none⟩), .pointer (some ⟨p, 0, none⟩)] W (Doors (Behind (rWk s g r) w0 ((rp, #[.pointer (some ⟨r, 0, none⟩)], 134) :: L) p t k (walkM (rWk s g r) ((0 : Nat), m)))) := by
 have hw := walk_any (K := rWk s g r) hf hvo hvs hlo hls hr h
 have cr : W.cell? ⟨rp, 0, none⟩ = some (.pointer (some ⟨r, 0, none⟩)) := by rw [cells_at (h.mem_at (g := rp) (A := #[.pointer (some ⟨r, 0, none⟩)]) (t := 134) (by simp))]; rfl
 have Hf := Lib.hid hf
 clear hf hvo hvs hlo hls hr
 obtain ⟨rS, hrS⟩ : ∃ x, x = walkM (rWk s g r) ((0 : Nat), m) := ⟨_, rfl⟩
 rw [← hrS] at hw ⊢
 clear hrS
 go_enter Tryz.func88, Tryz.ntmps88
 go_wp2_with fail
 refine Calls.mono hw ?_
 rintro e W' (⟨s', h1, rfl, hx⟩ | ⟨f, h1, rfl, hL⟩)
 ·go_wp2
  go_end0
  exact .inl ⟨rfl, .inl ⟨rfl, s', h1, hx⟩⟩
 ·exact ⟨rfl, .inr ⟨f, rfl, .inr ⟨h1, hL⟩⟩⟩
end
end Go.Proofs.YthkeiclhllikjaaGreat
/-
 msg.Read in every case.
-/
namespace Go.Proofs.YthkeiclhllikjaaGreat
open Go.RowKit
def PMsg.zero : PMsg := ⟨0, 0, 0, 0, 0, 0, 0, 0, 0, 0, 0, 0, 0, .empty, 0, 0, 0, 0, 0, [], [], .empty⟩
theorem zero_fits : PMsg.zero.Fits := ⟨by decide, by decide, by decide, by decide, by decide, by decide, by decide, by decide, by decide⟩
abbrev zcells : Array Value := mcells .zero (.slice none 0 0) (.slice none 0 0)
def readEnd (b : ByteArray) (r : Except Int (Nat × PMsg)) : Except Int PMsg :=
 match r with
 | .error f => .error f
 | .ok (n, m) => if n < b.size then .error 8 else .ok m
def readM (b : ByteArray) : Except Int PMsg := readEnd b (walkM (rSem b) ((0 : Nat), PMsg.zero))
theorem Live.setMid {w0 W : World} {Y Z : List Blk} {g i : Nat} {A : Array Value} {t : TypeId} (h : Live w0 (Y ++ (g, A, t) :: Z) W) (v : Value) : Live w0 (Y ++ Z) (W.setCell ⟨g, i, none⟩ v) :=
 (h.mid.put i v).tail
theorem Live.five {w0 W : World} {X : List Blk} {a b c d e : Blk} (h : Live w0 (a :: b :: c :: d :: e :: X) W) : Live w0 (d :: c :: e :: b :: a :: X) W := by
 have h1 : [a, b, c, d, e].Perm [e, d, c, b, a] := (List.reverse_perm [a, b, c, d, e]).symm
 have h2 : [e, d, c, b, a].Perm [d, c, e, b, a] := (List.Perm.swap d e _).trans ((List.Perm.swap c e _).cons d)
 exact h.perm ((h1.trans h2).append_right X)
theorem Live.row {w0 W : World} {L : List Blk} {g : Nat} {A : Array Value} {t : TypeId} (h : Live w0 ((g, A, t) :: L) W) (cs : Array Value) : Live w0 ((g, cs, t) :: L) (W.setRow g cs) := by
 have hn : ∀ p, p ∈ L → p.1 ≠ g := fun p hp he => (List.nodup_cons.1 h.2.1).1 (List.mem_map.2 ⟨p, hp, he⟩)
 refine ⟨below_setRow h.1 h.ge cs, h.2.1, fun p hp => ?_⟩
 rcases List.mem_cons.1 hp with rfl | hp
 ·exact ⟨h.ge, setRow_heap W g A cs t (0, 0) h.at_⟩
 ·exact ⟨(h.2.2 p (List.mem_cons_of_mem _ hp)).1, (setRow_other W g p.1 cs (hn p hp)).trans (h.2.2 p (List.mem_cons_of_mem _ hp)).2⟩
theorem info29 : (Tryz.prog.info? 37).map (·.size) = some 22 := by kernel_rfl
theorem mcells_info (m : PMsg) (vo vs : Value) : (Tryz.prog.info? 37).map (·.size) = some (mcells m vo vs).size := info29
theorem mcells_one {m : PMsg} {vo vs : Value} (ho : vo.oneCell' = true) (hs : vs.oneCell' = true) : (mcells m vo vs).all (·.oneCell') = true := by
 simp only [mcells, List.all_toArray, List.all_cons, List.all_nil, ho, hs, Bool.and_true, Bool.true_and]
 rfl
theorem slot_one {w0 : World} {v : Value} {l : List Int} {R : List Blk} (h : Slot w0 v l R) : v.oneCell' = true := by
 rcases h with ⟨⟨rfl, _⟩ | ⟨a, c, rfl, _⟩, _⟩ | h
 ·rfl
 ·rfl
 ·obtain ⟨a, c, rfl⟩ := h.shapeI
  rfl
theorem read_results {tmps : Array Value} {w : World} {g : Nat} {cs : Array Value} (hp : tmps.getD 2 undef = .pointer (some ⟨g, 0, none⟩)) (hg : w.heap[g]? = some (.cells cs 37 (0, 0))) (hs : cs.size = 22) :
  (results Tryz.f61 tmps).run Tryz.prog w = .ok (.tuple #[.agg cs, tmps.getD 3 undef]) w := by
 rw [results_cell_tmp (p := 2) (u := 3) (ty := 37) rfl, hp]
 have h := run_loadVar_row (P := Tryz.prog) w g 37 37 cs (0, 0) _ hg Tryz.underlying37 rfl (by rw [info29, hs])
 simp [asAddr, h]
section
variable {w0 W : World} {L B : List Blk}
theorem end_left {w : World} {g : Nat} {s : ByteArray} {n : Nat} (hn : n < s.size) (h : InAt w g s n 0) (hz : s.size < 9223372036854775808) :
  Calls Tryz.prog 89 #[.pointer (some ⟨g, 0, none⟩)] w fun e w' => e = .returned (.int .i64 8) ∧ Below w.heap.size w w' := by
 have e1 : decide ((0 : Int) < (s.size : Int) - n) = true := decide_eq_true (by omega)
 have e2 : decide (n < s.size) = true := decide_eq_true hn
 have hL := fun w (h : InAt w g s n 0) => left_of (w := w) (by omega) (by omega) hz h
 have H := Lib.hid (And.intro hn hz)
 clear hn hz
 go_enter Tryz.func89, Tryz.ntmps89
 go_wp2_with fail
 refine (fault_ok h).mono ?_
 rintro e w' ⟨rfl, hb⟩
 have h' : InAt w' g s n 0 := (hb.block _ (blk_lt h)).trans h
 go_wp2_with fail
 refine (hL _ h').mono ?_
 rintro e w'' ⟨rfl, hb'⟩
 go_wp2
 refine bodyPost_ret (v := .int .i64 8) (by simp [results, Tryz.results89, go_sem]) rfl ⟨rfl, hb.trans (hb'.mono hb.size)⟩
theorem Of_ok (b : ByteArray) : Calls Tryz.prog 87 #[.string b] W fun e W' => e = .returned (.pointer (some ⟨W.heap.size, 0, none⟩)) ∧ W' = W.alloc (.cells #[.string b, .int .i64 0, .int .i64 0] 177) := by
 go_enter Tryz.func87, Tryz.ntmps87
 go_wp2
 go_ret
 exact ⟨rfl, rfl⟩
set_option maxHeartbeats 4000000 in
set_option maxRecDepth 100000 in
theorem Read_any {b : ByteArray} (hb : b.size < 140737488351233) (h : Live w0 L W) :
  Calls Tryz.prog 61 #[.string b] W fun e W' => Said (readM b) (fun m' => ∃ vo vs Ro Rs, e = .returned (.tuple #[.agg (mcells m' vo vs), .int .i64 0]) ∧ Slot w0 vo m'.owner Ro ∧ Slot w0 vs m'.set Rs ∧ Live w0 (Ro ++ (Rs ++ L)) W')
   (fun f => e = .returned (.tuple #[.agg zcells, .int .i64 f]) ∧ Live w0 L W') := by
 have hmf : ∀ (fn : Fn) (first cap : Array Value) (w : World), (Instr.makeFunc fn first cap).run Tryz.prog w = .ok (.func fn first cap) w := fun _ _ _ _ => rfl
 have Hb := Lib.hid hb
 clear hb
 obtain ⟨rM, hrM⟩ : ∃ x, x = readM b := ⟨_, rfl⟩
 rw [← hrM]
 have HrM := Lib.hid hrM
 clear hrM
 go_enter Tryz.func61, Tryz.ntmps61
 go_wp2_with fail
 refine (Of_ok b).mono ?_
 rintro e W1 ⟨rfl, rfl⟩
 have hs1 : ∀ (w : World) (o : Obj), (w.alloc o).heap.size = w.heap.size + 1 := fun w o => by simp
 have h0 := (((((h.alloc zcells 37).alloc zcells 37).alloc #[.string b, .int .i64 0, .int .i64 0] 177).alloc #[.pointer (some ⟨W.heap.size + 1 + 1, 0, none⟩)] 138).alloc #[.pointer (some ⟨W.heap.size + 1 + 1 + 1, 0, none⟩)] 134)
 have h1 := (h0.alloc #[.int .i64 0] 23).five
 simp only [hs1] at h0 h1
 go_wp2_with fail
 change Calls _ _ _ (((((W.alloc (.cells zcells 37)).alloc (.cells zcells 37)).alloc (.cells #[.string b, .int .i64 0, .int .i64 0] 177)).alloc (.cells #[.pointer (some ⟨W.heap.size + 1 + 1, 0, none⟩)] 138)).alloc (.cells #[.pointer (some ⟨W.heap.size + 1 + 1 + 1, 0, none⟩)] 134)) _
 generalize hW5 : ((((W.alloc (.cells zcells 37)).alloc (.cells zcells 37)).alloc (.cells #[.string b, .int .i64 0, .int .i64 0] 177)).alloc (.cells #[.pointer (some ⟨W.heap.size + 1 + 1, 0, none⟩)] 138)).alloc (.cells #[.pointer (some ⟨W.heap.size + 1 + 1 + 1, 0, none⟩)] 134) = W5 at *
 have hz5 : W5.heap.size = W.heap.size + 1 + 1 + 1 + 1 + 1 := by rw [← hW5]; simp
 have hd := readDoor (s := b) (g := W.heap.size + 1 + 1) (r := W.heap.size + 1 + 1 + 1) (p := W.heap.size + 1) (t := 37) (k := 0) (rp := W.heap.size + 1 + 1 + 1 + 1) (m := .zero) zero_fits (.inl ⟨rfl, rfl⟩) (.inl ⟨rfl, rfl⟩) (by decide) (by decide)
  (B := rB b (W.heap.size + 1 + 1) (W.heap.size + 1 + 1 + 1) 0) ⟨rfl, Nat.zero_le _, Hb.out⟩ h1
 have hM : readM b = readEnd b (walkM (rWk b (W.heap.size + 1 + 1) (W.heap.size + 1 + 1 + 1)) ((0 : Nat), PMsg.zero)) := rfl
 obtain ⟨rW, hrW⟩ : ∃ x, x = (walkM (rWk b (W.heap.size + 1 + 1) (W.heap.size + 1 + 1 + 1)) ((0 : Nat), PMsg.zero)) := ⟨_, rfl⟩
 rw [← hrW] at hd hM
 have HM := Lib.hid (HrM.out.trans hM)
 have HrW := Lib.hid hrW
 clear hM hrW
 refine (safely_read _ _ _ hd ?_).mono ?_
 ·intro n w' hq
  rw [hz5]
  rcases hq with ⟨rfl, s', hw, vo, vs, Ro, Rs, B', ho, hs, ⟨hB, hn, hz⟩, hL⟩ | ⟨hw, hL⟩
  ·exact hL.mem_at (by simp)
  ·exact hL.mem_at (by simp)
 rintro e w' ⟨n, w1, rfl, hq, rfl⟩
 rw [hz5]
 rcases hq with ⟨rfl, ⟨(n' : Nat), m'⟩, hw, vo, vs, Ro, Rs, B', ho, hs, ⟨hB, hn, hz⟩, hL⟩ | ⟨hw, hL⟩
 ·subst hB
  have h2 : Live w0 ((W.heap.size + 1 + 1, #[.string b, .int .i64 (n' : Nat), .int .i64 0], 177) :: (W.heap.size + 1 + 1 + 1, #[.pointer (some ⟨W.heap.size + 1 + 1, 0, none⟩)], 138) :: (W.heap.size + 1, mcells m' vo vs, 37) ::
    (Ro ++ (Rs ++ (W.heap.size + 1 + 1 + 1 + 1, #[.pointer (some ⟨W.heap.size + 1 + 1 + 1, 0, none⟩)], 134) :: (W.heap.size, zcells, 37) :: L))) (w1.setCell ⟨W.heap.size + 1 + 1 + 1 + 1 + 1, 0, none⟩ (.int .i64 0)) := by
   have h := Live.setMid (Y := rB b (W.heap.size + 1 + 1) (W.heap.size + 1 + 1 + 1) n' ++ (W.heap.size + 1, mcells m' vo vs, 37) :: (Ro ++ (Rs ++ [(W.heap.size + 1 + 1 + 1 + 1, #[.pointer (some ⟨W.heap.size + 1 + 1 + 1, 0, none⟩)], 134)])))
    (Z := (W.heap.size, zcells, 37) :: L) (g := W.heap.size + 1 + 1 + 1 + 1 + 1) (A := #[.int .i64 0]) (t := 23) (i := 0) (by simpa using hL) (.int .i64 0)
   simpa [rB] using h
  generalize w1.setCell ⟨W.heap.size + 1 + 1 + 1 + 1 + 1, 0, none⟩ (.int .i64 0) = w2 at *
  have q1 : w2.cell? ⟨W.heap.size + 1 + 1 + 1 + 1, 0, none⟩ = some (.pointer (some ⟨W.heap.size + 1 + 1 + 1, 0, none⟩)) := by
   rw [cells_at (h2.mem_at (g := W.heap.size + 1 + 1 + 1 + 1) (A := #[.pointer (some ⟨W.heap.size + 1 + 1 + 1, 0, none⟩)]) (t := 134) (by simp))]; rfl
  have q2 : w2.cell? ⟨W.heap.size + 1 + 1 + 1, 0, none⟩ = some (.pointer (some ⟨W.heap.size + 1 + 1, 0, none⟩)) := h2.tail.cell 0
  have hin : InAt w2 (W.heap.size + 1 + 1) b (n' : Nat) 0 := h2.at_
  have Hw := Lib.hid hw
  have Hn := Lib.hid hn
  have Hz := Lib.hid hz
  clear hw hn hz hL h1 h0 hd
  go_wp2_with fail
  by_cases hlt : (n' : Nat) < b.size
  ·refine (end_left hlt hin (by have := Hz.out; omega)).mono ?_
   rintro e w3 ⟨rfl, hb3⟩
   have h3 := h2.call hb3
   have Hlt := Lib.hid hlt
   have h4 := Live.dropl (X := [_, _, _]) h3
   have h5 : Live w0 ((W.heap.size, zcells, 37) :: L) w3 := (h4.dropl.dropl).tail
   have hR := h5.at_
   clear h2 hb3 q1 q2 hin hlt h3 h4
   go_wp2_with (refine wpList_store_row rfl 37 (.tmp 2) (.tmp 25) rfl W.heap.size zcells rfl rfl 37 zcells hR (mcells_info _ _ _) rfl (mcells_one rfl rfl) ?_)
   have h6 := h5.row zcells
   go_wp2
   refine bodyPost_ret (v := .tuple #[.agg zcells, .int .i64 8]) (read_results rfl h6.at_ rfl) rfl ?_
   rw [HM.out, Hw.out]
   show Said (if n' < b.size then (Except.error 8 : Except Int PMsg) else .ok m') _ _
   rw [if_pos Hlt.out]
   exact ⟨rfl, h6.tail⟩
  ·have hn2 : (n' : Nat) = b.size := by have := Hn.out; omega
   rw [hn2] at hin
   refine (end_ok hin (by have := Hz.out; omega)).mono ?_
   rintro e w3 ⟨rfl, hb3⟩
   have h3 := h2.call hb3
   have Hlt := Lib.hid hlt
   have h4 := Live.dropl (X := [_, _]) h3
   have hm := h4.at_
   have h5 : Live w0 ((W.heap.size, zcells, 37) :: (Ro ++ (Rs ++ L))) w3 := by
    have h6 : Live w0 (Ro ++ (Rs ++ (W.heap.size, zcells, 37) :: L)) w3 := by
     refine Live.dropl (X := [(W.heap.size + 1 + 1 + 1 + 1, #[.pointer (some ⟨W.heap.size + 1 + 1 + 1, 0, none⟩)], 134)]) (h4.tail.perm ?_)
     exact ((List.perm_middle (l₁ := Rs)).append_left Ro).trans (List.perm_middle (l₁ := Ro))
    exact h6.perm (((List.perm_middle (l₁ := Rs)).append_left Ro).trans (List.perm_middle (l₁ := Ro)))
   have hR := h5.at_
   have hmo : (mcells m' vo vs).all (·.oneCell') = true := mcells_one (slot_one ho) (slot_one hs)
   clear h2 hb3 q1 q2 hin hlt h3 h4 hn2
   go_wp2_with (first | (refine wpList_load_row rfl 37 (.tmp 4) rfl (W.heap.size + 1) rfl 37 (mcells m' vo vs) (0, 0) _ hm Tryz.underlying37 rfl (mcells_info _ _ _) ?_) | (refine wpList_store_row rfl 37 (.tmp 2) (.tmp 27) rfl W.heap.size (mcells m' vo vs) rfl rfl 37 zcells hR (mcells_info _ _ _) rfl hmo ?_))
   have h6 := h5.row (mcells m' vo vs)
   go_wp2
   refine bodyPost_ret (v := .tuple #[.agg (mcells m' vo vs), .int .i64 0]) (read_results rfl h6.at_ rfl) rfl ?_
   rw [HM.out, Hw.out]
   show Said (if n' < b.size then (Except.error 8 : Except Int PMsg) else .ok m') _ _
   rw [if_neg Hlt.out]
   exact ⟨vo, vs, Ro, Rs, rfl, ho, hs, h6.tail⟩
 ·have hne : n ≠ 0 := walkM_ne (rSound b) (HrW.out.symm.trans hw)
  have e1 : (n == 0) = false := beq_eq_false_iff_ne.2 hne
  have e2 : (n != 0) = true := bne_iff_ne.2 hne
  have h2 : Live w0 ((W.heap.size, zcells, 37) :: L) (w1.setCell ⟨W.heap.size + 1 + 1 + 1 + 1 + 1, 0, none⟩ (.int .i64 n)) := (hL.tail.put 0 (.int .i64 n)).tail
  generalize w1.setCell ⟨W.heap.size + 1 + 1 + 1 + 1 + 1, 0, none⟩ (.int .i64 n) = w2 at *
  have hR := h2.at_
  have Hw := Lib.hid hw
  clear hw hL h1 h0 hd hne
  go_wp2_with (refine wpList_store_row rfl 37 (.tmp 2) (.tmp 16) rfl W.heap.size zcells rfl rfl 37 zcells hR (mcells_info _ _ _) rfl (mcells_one rfl rfl) ?_)
  have h6 := h2.row zcells
  go_wp2
  refine bodyPost_ret (v := .tuple #[.agg zcells, .int .i64 n]) (read_results rfl h6.at_ rfl) rfl ?_
  rw [HM.out, Hw.out]
  show Said (Except.error n : Except Int PMsg) _ _
  exact ⟨rfl, h6.tail⟩
end
end Go.Proofs.YthkeiclhllikjaaGreat
