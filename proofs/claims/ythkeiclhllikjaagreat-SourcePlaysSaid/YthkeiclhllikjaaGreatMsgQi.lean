/-
  msg.Bytes in every case.
-/
import Derived.Test.YthkeiclhllikjaaGreatMsgEq
import Derived.Test.YthkeiclhllikjaaGreatMsgQg
set_option linter.unusedSimpArgs false
set_option linter.unusedVariables false
namespace Go.Proofs.YthkeiclhllikjaaGreat
open Go.RowKit
def packB (xs : List Nat) : ByteArray := ⟨(xs.map UInt8.ofNat).toArray⟩
def backM (s : ByteArray) : PMsg :=
 match readM s with
 | .ok m => m
 | .error _ => .zero
def bytesEnd (m : PMsg) (r : Except Int (List Nat × PMsg)) : Except Int ByteArray :=
 match r with
 | .error f => .error f
 | .ok (xs, _) => if sameB (backM (packB xs)) m = true then .ok (packB xs) else .error 1
def bytesM (m : PMsg) : Except Int ByteArray := bytesEnd m (walkM wSem (([] : List Nat), m))
theorem Slot.rd {w0 W : World} {v : Value} {l : List Int} {R L : List Blk} (h : Slot w0 v l R) (hl : Live w0 (R ++ L) W) : Rd W v l := by
 rcases h with ⟨h, rfl⟩ | h
 ·exact h.kept fun k hk => hl.1.block k hk
 ·rcases h with ⟨rfl, hx, _⟩ | ⟨g, cap, cur, rfl, rfl, h1, h2, h3, h4⟩
  ·have : l = [] := by simpa [ints] using hx
   exact .inl ⟨rfl, this⟩
  ·rw [ints_length] at h1
   refine .inr ⟨⟨g, 0, none⟩, cap, by rw [ints_length], h1, fun j u hj => ?_⟩
   have e : (⟨g, 0, none⟩ : Addr).add j = ⟨g, j, none⟩ := by unfold Addr.add; split <;> simp_all
   rw [e, cells_at hl.at_]
   have h5 : (cur.toList.take (ints l).length)[j]? = (ints l)[j]? := by rw [h4]
   have hjl : j < (ints l).length := (List.getElem?_eq_some_iff.1 hj).1
   rw [List.getElem?_take, if_pos hjl] at h5
   rw [← Array.getElem?_toList, h5, hj]
theorem packB_size (xs : List Nat) : (packB xs).size = xs.length := by
 show ((xs.map UInt8.ofNat).toArray).size = _
 simp
theorem read_short {b : ByteArray} {m : PMsg} (h : readM b = .ok m) : m.owner.length ≤ 1024 ∧ m.set.length ≤ 1024 := by
 unfold readM readEnd at h
 split at h
 ·cases h
 ·rename_i n m' hx
  split at h
  ·cases h
  ·cases h
   exact walk_short (m := .zero) (n := 0) (by decide) (by decide) hx
theorem read_back {w0 W' : World} {L : List Blk} {b : ByteArray} {e : Ending} (h : Said (readM b) (fun m' => ∃ vo vs Ro Rs, e = .returned (.tuple #[.agg (mcells m' vo vs), .int .i64 0]) ∧ Slot w0 vo m'.owner Ro ∧ Slot w0 vs m'.set Rs ∧ Live w0 (Ro ++ (Rs ++ L)) W')
   (fun f => e = .returned (.tuple #[.agg zcells, .int .i64 f]) ∧ Live w0 L W')) :
  ∃ vo vs Ro Rs err, e = .returned (.tuple #[.agg (mcells (backM b) vo vs), .int .i64 err]) ∧ Slot w0 vo (backM b).owner Ro ∧ Slot w0 vs (backM b).set Rs ∧ Live w0 (Ro ++ (Rs ++ L)) W' ∧ (backM b).owner.length ≤ 1024 ∧ (backM b).set.length ≤ 1024 := by
 unfold Said at h
 unfold backM
 split at h
 ·rename_i m' hm
  rw [hm]
  obtain ⟨vo, vs, Ro, Rs, he, ho, hs, hL⟩ := h
  exact ⟨vo, vs, Ro, Rs, 0, he, ho, hs, hL, (read_short hm).1, (read_short hm).2⟩
 ·rename_i f hm
  rw [hm]
  exact ⟨_, _, [], [], f, h.1, .inl ⟨.inl ⟨rfl, rfl⟩, rfl⟩, .inl ⟨.inl ⟨rfl, rfl⟩, rfl⟩, h.2, Nat.zero_le _, Nat.zero_le _⟩
section
variable {W : World} {m : PMsg} {vo vs : Value}
set_option maxHeartbeats 4000000 in
set_option maxRecDepth 100000 in
theorem Bytes_any (hf : m.Fits) (hk : m.kind < 256) (hik : m.ikind < 256) (hvo : Rd W vo m.owner) (hvs : Rd W vs m.set) (hlo : m.owner.length ≤ 1000000000000) (hls : m.set.length ≤ 1000000000000) :
  Calls Tryz.prog 58 #[.agg (mcells m vo vs)] W fun e W' => Below W.heap.size W W' ∧ Said (bytesM m) (fun s => e = .returned (.tuple #[.string s, .int .i64 0])) (fun f => e = .returned (.tuple #[.string .empty, .int .i64 f])) := by
 have hmf : ∀ (fn : Fn) (first cap : Array Value) (w : World), (Instr.makeFunc fn first cap).run Tryz.prog w = .ok (.func fn first cap) w := fun _ _ _ _ => rfl
 have hs1 : ∀ (w : World) (o : Obj), (w.alloc o).heap.size = w.heap.size + 1 := fun w o => by simp
 have h0 := ((Live.init W).alloc (mcells m vo vs) 37).alloc #[.slice none 0 0] 124
 have h1 := h0.alloc zcells 37
 have h2 := h1.row (mcells m vo vs)
 have h3 := h2.alloc #[.int .i64 0] 23
 simp only [hs1, setRow_size] at h0 h1 h2 h3
 have hload := h0.tail.at_
 have hstore := h1.at_
 have one : ∀ {v : Value} {l : List Int}, Rd W v l → v.oneCell' = true := fun h => slot_one (.inl ⟨h, rfl⟩)
 have hone : (mcells m vo vs).all (·.oneCell') = true := mcells_one (one hvo) (one hvs)
 obtain ⟨rM, hrM⟩ : ∃ x, x = bytesM m := ⟨_, rfl⟩
 rw [← hrM]
 have HrM := Lib.hid hrM
 clear hrM
 have Hvo := Lib.hid hvo
 have Hvs := Lib.hid hvs
 have Hlo := Lib.hid hlo
 have Hls := Lib.hid hls
 have Hk := Lib.hid hk
 have Hik := Lib.hid hik
 have hd := bytesDoor (w0 := W) (r := W.heap.size + 1) (p := W.heap.size + 1 + 1) (t := 37) (k := 10) (m := m) (vo := vo) (vs := vs) (L := [(W.heap.size + 1 + 1 + 1, #[.int .i64 0], 23), (W.heap.size, mcells m vo vs, 37)]) (B := [(W.heap.size + 1, #[.slice none 0 0], 124)])
  hf hvo hvs hlo hls ⟨.slice none 0 0, [], rfl, RowIs.nil _, by decide⟩ (h3.perm (by
   have e : ∀ (a b c d : Blk), [a, b, c, d].Perm [c, b, a, d] := fun a b c d => ((List.reverse_perm [a, b, c]).symm).append_right [d]
   exact e _ _ _ _))
 obtain ⟨rW, hrW⟩ : ∃ x, x = walkM (wWk (W.heap.size + 1)) (([] : List Nat), m) := ⟨_, rfl⟩
 rw [← hrW] at hd
 have HM : Hid (rM = bytesEnd m rW) := Lib.hid (HrM.out.trans (by rw [hrW]; rfl))
 have HrW := Lib.hid hrW
 clear hvo hvs hlo hls hk hik hf hrW
 go_enter Tryz.func58, Tryz.ntmps58
 go_wp2_with (first | (refine wpList_load_row rfl 37 (.tmp 1) rfl W.heap.size rfl 37 (mcells m vo vs) (0, 0) _ hload Tryz.underlying37 rfl (mcells_info _ _ _) ?_) | (refine wpList_store_row rfl 37 (.tmp 5) (.tmp 10) rfl (W.heap.size + 1 + 1) (mcells m vo vs) rfl rfl 37 zcells hstore (mcells_info _ _ _) rfl hone ?_))
 have hz5 : (((((W.alloc (.cells (mcells m vo vs) 37)).alloc (.cells #[.slice none 0 0] 124)).alloc (.cells zcells 37)).setRow (W.heap.size + 1 + 1) (mcells m vo vs))).heap.size = W.heap.size + 1 + 1 + 1 := by simp
 change Calls _ _ _ ((((W.alloc (.cells (mcells m vo vs) 37)).alloc (.cells #[.slice none 0 0] 124)).alloc (.cells zcells 37)).setRow (W.heap.size + 1 + 1) (mcells m vo vs)) _
 generalize (((W.alloc (.cells (mcells m vo vs) 37)).alloc (.cells #[.slice none 0 0] 124)).alloc (.cells zcells 37)).setRow (W.heap.size + 1 + 1) (mcells m vo vs) = W5 at *
 refine (safely_bytes _ _ _ hd ?_).mono ?_
 ·intro n w' hq
  rw [hz5]
  rcases hq with ⟨rfl, s', hw, vo, vs, Ro, Rs, B', ho, hs, hrep, hL⟩ | ⟨hw, hL⟩
  ·exact hL.mem_at (by simp)
  ·exact hL.mem_at (by simp)
 rintro e w' ⟨n, w1, rfl, hq, rfl⟩
 rw [hz5]
 rcases hq with ⟨rfl, ⟨(xs : List Nat), m1⟩, hw, vo1, vs1, Ro, Rs, B', ho, hs, hrep, hL⟩ | ⟨hw, hL⟩
 ·obtain ⟨v, Bv, rfl, hrow, hlen⟩ := hrep
  replace hlen : List.length xs + 1100 * 10 + 1100 ≤ 140737488355328 := hlen
  have h4 : Live W (Bv ++ (W.heap.size + 1, #[v], 124) :: [(W.heap.size, mcells m vo vs, 37)]) (w1.setCell ⟨W.heap.size + 1 + 1 + 1, 0, none⟩ (.int .i64 0)) := by
   have h := Live.setMid (Y := (Bv ++ [(W.heap.size + 1, #[v], 124)]) ++ (W.heap.size + 1 + 1, mcells m1 vo1 vs1, 37) :: (Ro ++ Rs)) (Z := [(W.heap.size, mcells m vo vs, 37)]) (g := W.heap.size + 1 + 1 + 1) (A := #[.int .i64 0]) (t := 23) (i := 0) (by simpa using hL) (.int .i64 0)
   have hp := List.perm_append_comm_assoc (Bv ++ [(W.heap.size + 1, #[v], 124)]) ((W.heap.size + 1 + 1, mcells m1 vo1 vs1, 37) :: (Ro ++ Rs)) [(W.heap.size, mcells m vo vs, 37)]
   have h' := (h.perm (by simpa using hp) : Live W (((W.heap.size + 1 + 1, mcells m1 vo1 vs1, 37) :: (Ro ++ Rs)) ++ ((Bv ++ [(W.heap.size + 1, #[v], 124)]) ++ [(W.heap.size, mcells m vo vs, 37)])) _).dropl
   simpa using h'
  generalize w1.setCell ⟨W.heap.size + 1 + 1 + 1, 0, none⟩ (.int .i64 0) = w2 at *
  have hall : ∀ x ∈ xs, x < 256 := walk_allB Hk.out Hik.out (HrW.out.symm.trans hw)
  have hsz : (packB xs).size < 140737488351233 := by rw [packB_size]; omega
  have HMx := Lib.hid (HM.out.trans (by rw [hw]; rfl) : rM = if sameB (backM (packB xs)) m = true then .ok (packB xs) else .error 1)
  have Hsz := Lib.hid hsz
  have hstr := outString_ok hrow h4 hall
  clear hw hL h0 h1 h2 h3 hd hload hstore hsz hall hlen
  go_wp2_with fail
  refine hstr.mono ?_
  rintro e w' ⟨rfl, rfl⟩
  have h5 : Live W [(W.heap.size, mcells m vo vs, 37)] w' := h4.mid.tail.dropl
  have hrd := Read_any (b := packB xs) Hsz.out h5
  clear h4 hstr
  go_wp2_with fail
  refine Calls.mono hrd ?_
  intro e w3 hs3
  obtain ⟨vo2, vs2, Ro2, Rs2, err, rfl, ho2, hs2, h6, l2o, l2s⟩ := read_back hs3
  clear hs3 hrd h5
  obtain ⟨mb, hmb⟩ : ∃ mb, mb = backM (packB xs) := ⟨_, rfl⟩
  rw [← hmb] at ho2 hs2 l2o l2s ⊢
  have Hmb := Lib.hid hmb
  clear hmb
  have h7 := h6.alloc zcells 37
  have h8 := h7.row (mcells mb vo2 vs2)
  have hst2 := h7.at_
  have hld1 := h8.at_
  have hld2 := h8.tail.dropl.dropl.at_
  have hone2 : (mcells mb vo2 vs2).all (·.oneCell') = true := mcells_one (slot_one ho2) (slot_one hs2)
  have hsame : Calls Tryz.prog 83 #[.agg (mcells mb vo2 vs2), .agg (mcells m vo vs)] ((w3.alloc (.cells zcells 37)).setRow w3.heap.size (mcells mb vo2 vs2)) fun e W' => e = .returned (.bool (sameB mb m)) ∧ Below ((w3.alloc (.cells zcells 37)).setRow w3.heap.size (mcells mb vo2 vs2)).heap.size ((w3.alloc (.cells zcells 37)).setRow w3.heap.size (mcells mb vo2 vs2)) W' := by
   refine Same_any ?_ ?_ ?_ ?_ (by omega) (by omega) (by have := Hlo.out; omega) (by have := Hls.out; omega)
   ·exact ho2.rd h8.tail
   ·refine hs2.rd (L := Ro2 ++ [(W.heap.size, mcells m vo vs, 37)]) (h8.tail.perm (List.perm_append_comm_assoc _ _ _))
   ·exact Hvo.out.kept fun k hk => h8.1.block k hk
   ·exact Hvs.out.kept fun k hk => h8.1.block k hk
  clear ho2 hs2 h6 h7 l2o l2s
  go_wp2_with (first | (refine wpList_store_row rfl 37 (.tmp 8) (.tmp 21) rfl w3.heap.size (mcells mb vo2 vs2) rfl rfl 37 zcells hst2 (mcells_info _ _ _) rfl hone2 ?_) | (refine wpList_load_row rfl 37 (.tmp 8) rfl w3.heap.size rfl 37 (mcells mb vo2 vs2) (0, 0) _ hld1 Tryz.underlying37 rfl (mcells_info _ _ _) ?_) | (refine wpList_load_row rfl 37 (.tmp 1) rfl W.heap.size rfl 37 (mcells m vo vs) (0, 0) _ hld2 Tryz.underlying37 rfl (mcells_info _ _ _) ?_))
  refine Calls.mono hsame ?_
  rintro e w4 ⟨rfl, hb4⟩
  have h9 := h8.call hb4
  clear hsame hb4 h8 hst2 hld1 hld2 hone2
  cases hsm : sameB mb m
  ·go_wp2
   refine bodyPost_ret (v := .tuple #[.string .empty, .int .i64 1]) (by simp [results, Tryz.results58, go_sem]; rfl) rfl ?_
   rw [HMx.out, ← Hmb.out, hsm]
   exact ⟨h9.1, rfl⟩
  ·go_wp2
   refine bodyPost_ret (v := .tuple #[.string (packB xs), .int .i64 0]) (by simp [results, Tryz.results58, go_sem]; rfl) rfl ?_
   rw [HMx.out, ← Hmb.out, hsm]
   exact ⟨h9.1, rfl⟩
 ·have hne : n ≠ 0 := walkM_ne wSound (HrW.out.symm.trans hw)
  have e1 : (n == 0) = false := beq_eq_false_iff_ne.2 hne
  have e2 : (n != 0) = true := bne_iff_ne.2 hne
  have hB := (hL.put 0 (.int .i64 n)).1
  have HMx := Lib.hid (HM.out.trans (by rw [hw]; rfl) : rM = .error n)
  clear hw hL h0 h1 h2 h3 hd hload hstore hne
  go_wp2
  refine bodyPost_ret (v := .tuple #[.string .empty, .int .i64 n]) (by simp [results, Tryz.results58, go_sem]; rfl) rfl ?_
  rw [HMx.out]
  exact ⟨hB, rfl⟩
end
end Go.Proofs.YthkeiclhllikjaaGreat
