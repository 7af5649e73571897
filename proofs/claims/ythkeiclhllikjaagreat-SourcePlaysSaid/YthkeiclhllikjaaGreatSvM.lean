/-
  meterlaw20.awake; an item's frame, there and back.
-/
import Derived.Test.YthkeiclhllikjaaGreatSvK
set_option linter.unusedSimpArgs false
set_option linter.unusedVariables false
namespace Go.Proofs.YthkeiclhllikjaaGreat
open Go.RowKit
theorem sameB_self (a : PMsg) : sameB a a = true := by
 have h1 : ∀ l : List UInt8, (l == l) = true := fun l => by simp
 simp [sameB]
structure PItem.Good (x : PItem) : Prop where
 ok : x.Ok
 src0 : 0 ≤ x.src
 src1 : x.src ≤ 2147483647
 seq0 : 0 ≤ x.seq
 seq1 : x.seq ≤ 2147483647
 low0 : 0 ≤ x.low
 low1 : x.low ≤ 2147483647
 part0 : 0 ≤ x.part
 part1 : x.part ≤ 2147483647
 key : x.key.size ≤ 255
theorem inB_ok {x : Int} (h0 : 0 ≤ x) (h1 : x ≤ 2147483647) : inB x = true := by
 unfold inB
 rw [decide_eq_true h0, decide_eq_true h1]
 rfl
theorem item_bytes {x : PItem} (h : x.Good) : bytesM (itm x) = .ok (packB (outM (itm x))) := by
 rw [bytes_em (itm_fits h.ok) (show (1 : Nat) < 256 by decide) h.ok.kind, if_pos ⟨Nat.le_refl _, by show (1 : Nat) ≤ 14; decide⟩]
 have h1 : okM (itm x) = true := by
  have e : okM (itm x) = [emN x.src, emN x.seq, emN x.low, emB x.kind, emT x.key 255, emN x.part, emI x.at_, emI x.n].all (·.ok) := rfl
  rw [e]
  simp only [List.all_cons, List.all_nil, emN, emB, emT, emI, inB_ok h.src0 h.src1, inB_ok h.seq0 h.seq1, inB_ok h.low0 h.low1, inB_ok h.part0 h.part1, decide_eq_true h.key, Bool.and_self]
 have h2 : onlyM (itm x) = itm x := rfl
 rw [h1, h2, sameB_self]
 rfl
def itD (x : PItem) : ByteArray := packL (frameL (packB (outM (itm x))))
theorem item_data {x : PItem} (h : x.Good) : dataM (itm x) = .ok (itD x) := data_ok (itm_fits h.ok) (show (1 : Nat) < 256 by decide) h.ok.kind (item_bytes h)
theorem item_of {x : PItem} (h : x.Good) : ofM (itD x) = .ok (itm x) := of_data (itm_fits h.ok) (show (1 : Nat) < 256 by decide) h.ok.kind (item_bytes h)
theorem item_size {x : PItem} (h : x.Good) : (itD x).size ≤ 16012 := by
 unfold itD
 rw [frame_size]
 have := bytes_len_le (itm_fits h.ok) (show (1 : Nat) < 256 by decide) h.ok.kind (item_bytes h)
 omega
section
variable {w0 W w : World} {L X : List Thg} {S : PSrc} {v : Value} {bo ba p g : Nat} {x y : PItem}
theorem ix_pk {ad : Addr} {n c j : Nat} (h : j < n) : (Instr.indexAt 41 (.slice (some ad) n c) (.int .i64 (j : Nat))).run Tryz.prog w = .ok (.pointer (some (ad.add (j * 3)))) w := by
 simp [go_sem, h]
theorem fk_0 {k : Nat} : (Instr.fieldAt 45 (.pointer (some ⟨g, k, none⟩)) 0).run Tryz.prog w = .ok (.pointer (some ⟨g, k, none⟩)) w := by simp [go_sem]
theorem fk_1 {k : Nat} : (Instr.fieldAt 45 (.pointer (some ⟨g, k, none⟩)) 1).run Tryz.prog w = .ok (.pointer (some ⟨g, k + 1, none⟩)) w := by simp [go_sem]
theorem fk_2 {k : Nat} : (Instr.fieldAt 45 (.pointer (some ⟨g, k, none⟩)) 2).run Tryz.prog w = .ok (.pointer (some ⟨g, k + 2, none⟩)) w := by simp [go_sem]
theorem PRow.pk {l : List (Int × Int × ByteArray)} (h : PRow 45 3 v l.length (pkF l) X) (hL : LV w0 (X ++ L) w) : ∃ q c, v = .slice q l.length c ∧ ∀ j (hj : j < l.length), ∃ g, q = some ⟨g, 0, none⟩ ∧ w.cell? ⟨g, j * 3, none⟩ = some (.int .i64 l[j].1) ∧ w.cell? ⟨g, j * 3 + 1, none⟩ = some (.int .i64 l[j].2.1) ∧ w.cell? ⟨g, j * 3 + 2, none⟩ = some (.string l[j].2.2) := by
 rcases h.2 with ⟨rfl, h0, _⟩ | ⟨g, cap, cur, rfl, rfl, h1, h2, h3, h4⟩
 ·exact ⟨none, 0, by rw [h0], fun j hj => by omega⟩
 ·refine ⟨_, _, rfl, fun j hj => ⟨g, rfl, ?_⟩⟩
  have key : ∀ (l : List (Int × Int × ByteArray)) (j : Nat) (hj : j < l.length) (i : Nat), i < 3 → (pkF l)[j * 3 + i]? = (pkC l[j])[i]? := by
   intro l
   induction l with
   | nil => intro j hj; simp at hj
   | cons q r ih =>
    intro j hj i hi
    have e : pkF (q :: r) = pkC q ++ pkF r := rfl
    rw [e]
    cases j with
    | zero =>
     rw [Nat.zero_mul, Nat.zero_add, List.getElem?_append_left (by simpa using hi)]
     rfl
    | succ j =>
     rw [List.getElem?_append_right (by simp; omega), show (j + 1) * 3 + i - (pkC q).length = j * 3 + i by simp; omega]
     exact ih j (by simpa using hj) i hi
  have cell : ∀ i, i < 3 → w.cell? ⟨g, j * 3 + i, none⟩ = (pkC l[j])[i]? := by
   intro i hi
   rw [LV.cell hL (j * 3 + i), ← key l j hj i hi, ← h4, List.getElem?_take, if_pos (by omega), Array.getElem?_toList]
  exact ⟨cell 0 (by decide), cell 1 (by decide), cell 2 (by decide)⟩
theorem bs_2 {a b : Int} : (Instr.buildSlice 26 2 #[(0, .int .i64 a), (1, .int .i64 b)]).run Tryz.prog w = .ok (.slice (some ⟨w.heap.size, 0, none⟩) 2 2) (w.alloc (.cells #[.int .i64 a, .int .i64 b] 3)) := by
 simp [go_sem]
theorem bd_tb {a b : Int} {q : Option Addr} {l c : Nat} {o : List Int} : (Instr.build 28 #[(0, .int .i64 a), (1, .int .i64 b), (2, .slice q l c)]).run Tryz.prog w = .ok (.agg (tbC ⟨a, b, o⟩ (.slice q l c))) w := by
 simp [go_sem]
theorem R_bs2 {P : Program} {a : Act} {w w' : World} {n : Nat} {m : List (Nat × Value)} {o : Oper} {v : Value} {t : TypeId} {k : Nat} {x0 x1 : Operand} {v0 v1 : Value} (H : Fr a n m) (ho : o.op = .buildSlice t k #[(0, x0), (1, x1)]) (h0 : ev1 m x0 = some v0) (h1 : ev1 m x1 = some v1) (hl : (Instr.buildSlice t k #[(0, v0), (1, v1)]).run P w = .ok v w') : (execOp a.eval o).run P w = .ok (.value v) w' := by
 have e0 := H.ev h0
 have e1 := H.ev h1
 unfold execOp
 rw [ho]
 generalize a.eval = ρ at *
 simp only [List.map_toArray, List.map_cons, List.map_nil, e0, e1]
 exact fr_v hl
def T1 : PTab := ⟨1, 2, [0, 1]⟩
theorem first_any : Calls Tryz.prog 10 #[] W fun e W' => ∃ v R, e = .returned (.agg (tbC T1 v)) ∧ RowIs 3 v (ints T1.own) R ∧ Live W R W' := by
 have hL := Live.init W
 go_enter Tryz.func10, Tryz.ntmps10
 refine wp_fr (n := 3) (m := []) ⟨rfl, rfl, by intro p hp; cases hp⟩ fun a0 H0 => ?_
 repeat (go_not_at_region 0; go_step)
 refine wp_region_lit ?_
 refine h_opL [(W.heap.size, (tbC ⟨0, 0, []⟩ (.slice none 0 0)), 28)] H0 rfl (wn rfl) (R_alloc rfl al_tb) (hL.alloc _ _) rfl (P1 0 rfl) fun _ w1 H1 hL => ?_
 refine h_end ?_
 repeat (go_not_at_region 1; go_step)
 refine wp_region_lit ?_
 refine h_opL [(w1.heap.size, #[.int .i64 0, .int .i64 1], 3), (W.heap.size, (tbC ⟨0, 0, []⟩ (.slice none 0 0)), 28)] H1 rfl (wn rfl) (R_bs2 H1 rfl rfl rfl bs_2) (hL.alloc _ _) rfl (P2 1 0 rfl rfl) fun _ w2 H2 hL => ?_
 refine h_o H2 rfl (R_bd3 H2 rfl rfl rfl rfl (bd_tb (o := [0, 1]))) (P2 2 0 rfl rfl) fun _ H3 => ?_
 refine h_stL [(W.heap.size, (tbC T1 (.slice (some ⟨w1.heap.size, 0, none⟩) 2 2)), 28), (w1.heap.size, #[.int .i64 0, .int .i64 1], 3)] H3 rfl (wn rfl) (R_st H3 rfl rfl rfl (st_tb (t := ⟨0, 0, []⟩) (p := none) (l := 0) (c := 0) hL.swap.at_)) (hL.swap.row _) fun _ w4 H4 hL => ?_
 refine h_end ?_
 repeat (go_not_at_region 999; go_step)
 refine bodyPost_ret (v := .agg (tbC T1 (.slice (some ⟨w1.heap.size, 0, none⟩) 2 2))) (tb_results rfl (H4.getD rfl) hL.at_) H4.1 ⟨_, _, rfl, .inr ⟨w1.heap.size, 2, #[.int .i64 0, .int .i64 1], rfl, rfl, Nat.le_refl _, by unfold maxLen; omega, rfl, rfl⟩, hL.tail⟩
end
end Go.Proofs.YthkeiclhllikjaaGreat
/-
 meterlaw20.awake.
-/
namespace Go.Proofs.YthkeiclhllikjaaGreat
open Go.RowKit
section
variable {w0 W w : World} {L X : List Thg} {S : PSrc} {v vo vs vo2 vs2 : Value} {bo ba p g : Nat} {x y : PItem} {m m2 : PMsg}
theorem ix_pkj {n c j : Nat} (h : j < n) : (Instr.indexAt 41 (.slice (some ⟨g, 0, none⟩) n c) (.int .i64 (j : Nat))).run Tryz.prog w = .ok (.pointer (some ⟨g, j * 3, none⟩)) w := by
 rw [ix_pk h]
 cases j <;> simp [Addr.add]
theorem bd_it3 {k : Nat} {a b : Int} : (Instr.build 33 #[(3, .int .u8 (k : Nat)), (5, .int .i64 a), (6, .int .i64 b)]).run Tryz.prog w = .ok (.agg (itC ⟨0, 0, 0, k, .empty, a, b, 0⟩)) w := by
 simp [go_sem]
 rfl
theorem bd_it2 {a b : Int} : (Instr.build 33 #[(0, .int .i64 a), (1, .int .i64 b)]).run Tryz.prog w = .ok (.agg (itC ⟨a, b, 0, 0, .empty, 0, 0, 0⟩)) w := by
 simp [go_sem]
 rfl
def ansMsg (src seq code : Int) : PMsg := { PMsg.zero with kind := 2, isrc := src, iseq := seq, code := code }
theorem bd_ans {a b c : Int} : (Instr.build 37 #[(0, .int .u8 2), (9, .agg (itC ⟨a, b, 0, 0, .empty, 0, 0, 0⟩)), (6, .int .i64 c)]).run Tryz.prog w = .ok (.agg (mcells (ansMsg a b c) (.slice none 0 0) (.slice none 0 0))) w := by
 simp [go_sem]
 rfl
theorem al_mg : (Instr.alloc 37 true (.tuple #[])).run Tryz.prog w = .ok (.pointer (some ⟨w.heap.size, 0, none⟩)) (w.alloc (.cells zcells 37)) := by
 simp [go_sem]
 rfl
theorem st_mg (hg : w.heap[g]? = some (.cells zcells 37 (0, 0))) (h1 : (mcells m vo vs).all (·.oneCell') = true) : (Instr.storeAt 37 (.pointer (some ⟨g, 0, none⟩)) (.agg (mcells m vo vs))).run Tryz.prog w = .ok () (w.setRow g (mcells m vo vs)) := by
 simp only [Instr.storeAt, Instr.sureAddr, Sem.run_bind, Sem.run_pure, Result.andThen_ok, run_storeVar_row w g 37 37 zcells (mcells m vo vs) hg (mcells_info _ _ _) rfl h1]
theorem ld_itm (h : ∀ i, w.cell? ⟨g, i, none⟩ = (mcells m vo vs)[i]?) : (Instr.loadAt 33 (.pointer (some ⟨g, 9, none⟩))).run Tryz.prog w = .ok (.agg #[.int .i64 m.isrc, .int .i64 m.iseq, .int .i64 m.ilow, .int .u8 (m.ikind : Nat), .string m.ikey, .int .i64 m.ipart, .int .i64 m.iat, .int .i64 m.iN]) w :=
 ld_item (h 9) (h 10) (h 11) (h 12) (h 13) (h 14) (h 15) (h 16)
theorem bd_y1 : (Instr.build 33 #[(0, .int .i64 1), (1, .int .i64 1), (2, .int .i64 1), (3, .int .u8 2), (5, .int .i64 1), (6, .int .i64 9)]).run Tryz.prog w = .ok (.agg #[.int .i64 1, .int .i64 1, .int .i64 1, .int .u8 2, .string .empty, .int .i64 1, .int .i64 9, .int .i64 0]) w := by
 simp [go_sem]
 rfl
theorem LV.shift {a c d e : Thg} {K R : List Thg} (h : LV w0 (a :: (K ++ (c :: d :: e :: R))) w) : LV w0 (c :: d :: e :: (a :: (K ++ R))) w := h.perm (List.perm_append_comm_assoc (a :: K) [c, d, e] R)
theorem R_bd6 {P : Program} {a : Act} {w : World} {o : Oper} {v : Value} {t : TypeId} {i0 i1 i2 i3 i4 i5 : Nat} {v0 v1 v2 v3 v4 v5 : Value} (ho : o.op = .build t #[(i0, .const v0), (i1, .const v1), (i2, .const v2), (i3, .const v3), (i4, .const v4), (i5, .const v5)]) (hl : (Instr.build t #[(i0, v0), (i1, v1), (i2, v2), (i3, v3), (i4, v4), (i5, v5)]).run P w = .ok v w) : (execOp a.eval o).run P w = .ok (.value v) w := by
 unfold execOp
 rw [ho]
 simp only [List.map_toArray, List.map_cons, List.map_nil]
 exact fr_v hl
end
def x0 : PItem := ⟨0, 0, 0, 2, .empty, 1, 9, 0⟩
def x1 : PItem := ⟨1, 1, 0, 2, .empty, 1, 9, 0⟩
def y1 : PItem := ⟨1, 1, 1, 2, .empty, 1, 9, 0⟩
def S0 : PSrc := ⟨1, T1, []⟩
def S1 : PSrc := ⟨1, T1, [(x1, 0)]⟩
def S2 : PSrc := ⟨1, T1, [(x1, 2)]⟩
theorem send01 : sendM S0 x0 = (S1, 1, 0) := by kernel_rfl
theorem hand12 : handleM S1 (ansMsg 1 1 2) = (S2, true) := by kernel_rfl
theorem y1_good : y1.Good := ⟨⟨by decide, by decide, by decide, by decide, by decide, by decide⟩, by decide, by decide, by decide, by decide, by decide, by decide, by decide, by decide, by decide⟩
theorem x1_ok : x1.Ok := ⟨by decide, by decide, by decide, by decide, by decide, by decide⟩
theorem pk1 : pktsM S1 = [(5, 1, itD y1)] := by
 have e : pktsM S1 = [x1].filterMap (pkt S1) := rfl
 have e2 : pkt S1 x1 = some (5, 1, itD y1) := by
  unfold pkt
  rw [show ({ x1 with low := ((lowN S1.L : Nat) : Int) } : PItem) = y1 from rfl, item_data y1_good]
  rfl
 rw [e, List.filterMap_cons, e2]
 rfl
theorem y1_eq : ((itm y1).isrc == 1 && ((itm y1).iseq == 1 && ((itm y1).ilow == 1 && (((itm y1).ikind : Int) == 2 && ((itm y1).ikey.toList == ByteArray.empty.toList && ((itm y1).ipart == 1 && ((itm y1).iat == 9 && (itm y1).iN == 0))))))) = true := by
 have e : ((itm y1).ikey.toList == ByteArray.empty.toList) = true := by
  show (ByteArray.empty.toList == ByteArray.empty.toList) = true
  exact beq_self_eq_true _
 rw [e]
 rfl
theorem pk2 : pktsM S2 = [] := rfl
section
variable {W : World}
theorem of_it {x : PItem} (h : x.Good) : Calls Tryz.prog 41 #[.string (itD x)] W fun e W' => ∃ vo vs Ro Rs, e = .returned (.tuple #[.agg (mcells (itm x) vo vs), .int .i64 0]) ∧ Slot W vo [] Ro ∧ Slot W vs [] Rs ∧ Live W (Ro ++ (Rs ++ [])) W' := by
 have hq := Of_any (w0 := W) (L := []) (d := itD x) (by have := item_size h; omega) (Live.init W)
 rw [item_of h] at hq
 exact hq
set_option maxRecDepth 100000 in
set_option maxHeartbeats 4000000 in
theorem awake_ok : Calls Tryz.prog 16 #[] W fun e W' => e = .returned (.bool true) ∧ Below W.heap.size W W' := by
 have hL := LV.init W
 go_enter Tryz.func16, Tryz.ntmps16
 refine wp_fr (n := 99) (m := []) ⟨rfl, rfl, by intro p hp; cases hp⟩ fun a0 H0 => ?_
 repeat (go_not_at_region 0; go_step)
 refine wp_region_lit ?_
 refine h_o H0 rfl (R_as H0 rfl rfl) .nil fun _ H1 => ?_
 refine h_end ?_
 repeat (go_not_at_region 1; go_step)
 refine wp_region_lit ?_
 refine h_call H1 rfl (wn rfl) (R_call0 H1 rfl (fun w => by simp [go_sem])) rfl ?_
 refine first_any.mono ?_
 rintro e w2 ⟨vt, R1, rfl, hr1, hL3⟩
 replace hL := hL.join hL3
 clear hL3
 refine ⟨_, rfl, fun a2 HH => ?_⟩
 have H2 := HH _ (P1 12 rfl)
 refine h_call H2 rfl (wn rfl) (R_call2 H2 rfl rfl rfl (fun w => by simp [go_sem])) rfl ?_
 refine (new_any (t := T1) (src := 1) (rd_row hr1 _ hL) (by decide)).mono ?_
 rintro e w3 ⟨hA, _⟩
 obtain ⟨v1, R2, p, bo, ba, rfl, hr2, hL3⟩ := hA (by kernel_rfl)
 obtain ⟨LX, hLX⟩ : ∃ LX, LX = lift R2 ++ (lift R1 ++ []) := ⟨_, rfl⟩
 replace hL : LV W (bk p (srC S0 v1 bo ba) 60 :: mp bo (opE S0.L) :: mp ba (anE S0.L) :: LX) w3 := by rw [hLX]; exact hL.joinV hL3
 clear hL3
 have hv : ∀ w, LV W LX w → Rd w v1 T1.own := fun w h => by rw [hLX] at h; exact rd_row hr2 w h
 clear hLX
 refine ⟨_, rfl, fun a3 HH => ?_⟩
 have H3 := HH _ (P1 13 rfl)
 refine h_o H3 rfl (R_mv H3 rfl rfl) (P1 11 rfl) fun _ H4 => ?_
 refine h_o H4 rfl (R_ext H4 rfl rfl rfl) (P2 14 11 rfl rfl) fun _ H5 => ?_
 refine h_o H5 rfl (R_ext H5 rfl rfl rfl) (P2 15 14 rfl rfl) fun _ H6 => ?_
 refine h_o H6 rfl (R_as H6 rfl rfl) (P2 1 15 rfl rfl) fun _ H7 => ?_
 refine h_o H7 rfl (R_as H7 rfl rfl) (P2 2 1 rfl rfl) fun _ H8 => ?_
 refine h_end ?_
 repeat (go_not_at_region 2; go_step)
 refine wp_region_lit ?_
 refine h_o H8 rfl (R_mv H8 rfl rfl) (P3 17 2 1 rfl rfl rfl) fun _ H9 => ?_
 refine h_o H9 rfl (R_bd3 H9 rfl rfl rfl rfl bd_it3) (P4 18 17 2 1 rfl rfl rfl rfl) fun _ H10 => ?_
 refine h_call H10 rfl (wn rfl) (R_call2 H10 rfl rfl rfl (fun w => by simp [go_sem])) rfl ?_
 have hq := send_any (x := x0) hL (hv _ hL.tail.tail.tail) (by decide)
 rw [send01] at hq
 refine hq.mono ?_
 rintro e w11 ⟨rfl, hL2⟩
 replace hL := hL2
 clear hL2 hq
 refine ⟨_, rfl, fun a11 HH => ?_⟩
 have H11 := HH _ (P3 19 2 1 rfl rfl rfl)
 refine h_o H11 rfl (R_mv H11 rfl rfl) (P3 16 2 1 rfl rfl rfl) fun _ H12 => ?_
 refine h_o H12 rfl (R_ext H12 rfl rfl rfl) (P4 20 16 2 1 rfl rfl rfl rfl) fun _ H13 => ?_
 refine h_o H13 rfl (R_ext H13 rfl rfl rfl) (P4 21 20 2 1 rfl rfl rfl rfl) fun _ H14 => ?_
 refine h_o H14 rfl (R_as H14 rfl rfl) (P4 3 21 2 1 rfl rfl rfl rfl) fun _ H15 => ?_
 refine h_o H15 rfl (R_as H15 rfl rfl) (P4 4 3 2 1 rfl rfl rfl rfl) fun _ H16 => ?_
 refine h_end ?_
 repeat (go_not_at_region 3; go_step)
 refine wp_region_lit ?_
 refine h_o H16 rfl (R_mv H16 rfl rfl) (P5 22 4 3 2 1 rfl rfl rfl rfl rfl) fun _ H17 => ?_
 refine h_call H17 rfl (wn rfl) (R_call1 H17 rfl rfl (fun w => by simp [go_sem])) rfl ?_
 have hq := tick_any hL hv (by decide) (by decide) (fun q hq => by rcases List.mem_singleton.1 hq with rfl; exact x1_ok) (by decide) (by decide)
 rw [pk1] at hq
 refine hq.mono ?_
 rintro e w18 ⟨vp, X1, rfl, hpr, hL2⟩
 obtain ⟨q1, c1, rfl, hpk⟩ := hpr.pk hL2
 obtain ⟨g1, rfl, hc0, hc1, hc2⟩ := hpk 0 (by decide)
 replace hL := hL2.dropl
 clear hL2 hq hpk
 refine ⟨_, rfl, fun a18 HH => ?_⟩
 have H18 := HH _ (P5 23 4 3 2 1 rfl rfl rfl rfl rfl)
 refine h_o H18 rfl (R_as H18 rfl rfl) (P5 5 4 3 2 1 rfl rfl rfl rfl rfl) fun _ H19 => ?_
 refine h_end ?_
 repeat (go_not_at_region 4; go_step)
 refine wp_region_lit ?_
 refine h_o H19 rfl (R_mv H19 rfl rfl) (P5 24 5 4 3 1 rfl rfl rfl rfl rfl) fun _ H20 => ?_
 refine h_o H20 rfl (R_bin H20 rfl rfl rfl (B_to (y := false) (B_ne Tryz.underlying23 _ _) (by decide))) (P5 25 5 4 3 1 rfl rfl rfl rfl rfl) fun _ H21 => ?_
 refine h_o H21 rfl (R_mv H21 rfl rfl) (P5 26 5 4 3 1 rfl rfl rfl rfl rfl) fun _ H22 => ?_
 refine h_op H22 rfl (H22.wt rfl rfl rfl) (R_mv H22 rfl rfl) rfl (P5 27 26 5 3 1 rfl rfl rfl rfl rfl) fun _ H23 => ?_
 refine h_op H23 rfl (H23.wt rfl rfl rfl) (R_bin H23 rfl rfl rfl (B_to (y := false) (B_ne Tryz.underlying23 _ _) (by decide))) rfl (P5 28 26 5 3 1 rfl rfl rfl rfl rfl) fun _ H24 => ?_
 refine h_o H24 rfl (R_pick H24 rfl rfl rfl) (P4 29 5 3 1 rfl rfl rfl rfl) fun _ H25 => ?_
 refine h_o H25 rfl (R_mv H25 rfl rfl) (P4 30 5 3 1 rfl rfl rfl rfl) fun _ H26 => ?_
 refine h_op H26 rfl (H26.wt rfl rfl rfl) (R_mv H26 rfl rfl) rfl (P4 31 30 5 1 rfl rfl rfl rfl) fun _ H27 => ?_
 refine h_op H27 rfl (H27.wt rfl rfl rfl) (R_bin H27 rfl rfl rfl (B_to (y := false) (B_ne Tryz.underlying3 _ _) (by decide))) rfl (P4 32 30 5 1 rfl rfl rfl rfl) fun _ H28 => ?_
 refine h_o H28 rfl (R_pick H28 rfl rfl rfl) (P3 33 5 1 rfl rfl rfl) fun _ H29 => ?_
 refine h_o H29 rfl (R_mv H29 rfl rfl) (P3 34 5 1 rfl rfl rfl) fun _ H30 => ?_
 refine h_op H30 rfl (H30.wt rfl rfl rfl) (R_mv H30 rfl rfl) rfl (P4 35 34 5 1 rfl rfl rfl rfl) fun _ H31 => ?_
 refine h_op H31 rfl (H31.wt rfl rfl rfl) (R_lenS H31 rfl rfl Tryz.underlying41) rfl (P4 36 34 5 1 rfl rfl rfl rfl) fun _ H32 => ?_
 refine h_op H32 rfl (H32.wt rfl rfl rfl) (R_bin H32 rfl rfl rfl (B_to (y := false) (B_ne Tryz.underlying3 _ _) (by decide))) rfl (P4 37 34 5 1 rfl rfl rfl rfl) fun _ H33 => ?_
 refine h_o H33 rfl (R_pick H33 rfl rfl rfl) (P3 38 5 1 rfl rfl rfl) fun _ H34 => ?_
 refine h_o H34 rfl (R_mv H34 rfl rfl) (P3 39 5 1 rfl rfl rfl) fun _ H35 => ?_
 refine h_op H35 rfl (H35.wt rfl rfl rfl) (R_mv H35 rfl rfl) rfl (P4 40 39 5 1 rfl rfl rfl rfl) fun _ H36 => ?_
 refine h_op H36 rfl (H36.wt rfl rfl rfl) (R_ixa H36 rfl rfl rfl (ix_pkj (j := 0) (by decide))) rfl (P4 41 39 5 1 rfl rfl rfl rfl) fun _ H37 => ?_
 refine h_op H37 rfl (H37.wt rfl rfl rfl) (R_fa H37 rfl rfl fk_0) rfl (P4 42 39 5 1 rfl rfl rfl rfl) fun _ H38 => ?_
 refine h_op H38 rfl (H38.wt rfl rfl rfl) (R_ld H38 rfl rfl (ld_int hc0)) rfl (P4 43 39 5 1 rfl rfl rfl rfl) fun _ H39 => ?_
 refine h_op H39 rfl (H39.wt rfl rfl rfl) (R_bin H39 rfl rfl rfl (B_to (y := false) (B_ne Tryz.underlying3 _ _) (by decide))) rfl (P4 44 39 5 1 rfl rfl rfl rfl) fun _ H40 => ?_
 refine h_o H40 rfl (R_pick H40 rfl rfl rfl) (P3 45 5 1 rfl rfl rfl) fun _ H41 => ?_
 refine h_o H41 rfl (R_mv H41 rfl rfl) (P3 46 5 1 rfl rfl rfl) fun _ H42 => ?_
 refine h_op H42 rfl (H42.wt rfl rfl rfl) (R_mv H42 rfl rfl) rfl (P4 47 46 5 1 rfl rfl rfl rfl) fun _ H43 => ?_
 refine h_op H43 rfl (H43.wt rfl rfl rfl) (R_ixa H43 rfl rfl rfl (ix_pkj (j := 0) (by decide))) rfl (P4 48 46 5 1 rfl rfl rfl rfl) fun _ H44 => ?_
 refine h_op H44 rfl (H44.wt rfl rfl rfl) (R_fa H44 rfl rfl fk_1) rfl (P4 49 46 5 1 rfl rfl rfl rfl) fun _ H45 => ?_
 refine h_op H45 rfl (H45.wt rfl rfl rfl) (R_ld H45 rfl rfl (ld_int hc1)) rfl (P4 50 46 5 1 rfl rfl rfl rfl) fun _ H46 => ?_
 refine h_op H46 rfl (H46.wt rfl rfl rfl) (R_bin H46 rfl rfl rfl (B_to (y := false) (B_ne Tryz.underlying3 _ _) (by decide))) rfl (P4 51 46 5 1 rfl rfl rfl rfl) fun _ H47 => ?_
 refine h_o H47 rfl (R_pick H47 rfl rfl rfl) (P3 52 5 1 rfl rfl rfl) fun _ H48 => ?_
 refine h_end ?_
 repeat (go_not_at_region 6; go_step)
 refine wp_cond_false (H48.ev (x := .tmp 52) rfl) ?_
 repeat (go_not_at_region 6; go_step)
 refine wp_region_lit ?_
 refine h_o H48 rfl (R_mv H48 rfl rfl) (P2 54 1 rfl rfl) fun _ H49 => ?_
 refine h_o H49 rfl (R_ixa H49 rfl rfl rfl (ix_pkj (j := 0) (by decide))) (P2 55 1 rfl rfl) fun _ H50 => ?_
 refine h_o H50 rfl (R_fa H50 rfl rfl fk_2) (P2 56 1 rfl rfl) fun _ H51 => ?_
 refine h_o H51 rfl (R_ld H51 rfl rfl (ld_str hc2)) (P2 57 1 rfl rfl) fun _ H52 => ?_
 refine h_call H52 rfl (wn rfl) (R_call1 H52 rfl rfl (fun w => by simp [go_sem])) rfl ?_
 refine (of_it y1_good).mono ?_
 rintro e w53 ⟨vo, vs, Ro, Rs, rfl, ho, hs, hL2⟩
 replace hL := hL.join hL2
 clear hL2
 refine ⟨_, rfl, fun a53 HH => ?_⟩
 have H53 := HH _ (P2 58 1 rfl rfl)
 refine h_o H53 rfl (R_mv H53 rfl rfl) (P2 53 1 rfl rfl) fun _ H54 => ?_
 refine h_o H54 rfl (R_ext H54 rfl rfl rfl) (P3 59 53 1 rfl rfl rfl) fun _ H55 => ?_
 refine h_o H55 rfl (R_ext H55 rfl rfl rfl) (P3 60 59 1 rfl rfl rfl) fun _ H56 => ?_
 refine h_opS (bk w53.heap.size zcells 37 :: (lift (Ro ++ (Rs ++ [])) ++ (bk p (srC S1 v1 bo ba) 60 :: mp bo (opE S1.L) :: mp ba (anE S1.L) :: LX))) H56 rfl (wn rfl) (R_alloc rfl al_mg) (hL.alloc _ _) rfl (P4 6 60 59 1 rfl rfl rfl rfl) fun _ w57 H57 hL => ?_
 refine h_stS (bk w53.heap.size (mcells (itm y1) vo vs) 37 :: (lift (Ro ++ (Rs ++ [])) ++ (bk p (srC S1 v1 bo ba) 60 :: mp bo (opE S1.L) :: mp ba (anE S1.L) :: LX))) H57 rfl (wn rfl) (R_st H57 rfl rfl rfl (st_mg hL.at_ (mcells_one (slot_one ho) (slot_one hs)))) (hL.row _) fun _ w58 H58 hL => ?_
 refine h_o H58 rfl (R_as H58 rfl rfl) (P3 7 6 1 rfl rfl rfl) fun _ H59 => ?_
 refine h_end ?_
 obtain ⟨LY, hLY⟩ : ∃ LY, LY = bk w53.heap.size (mcells (itm y1) vo vs) 37 :: (lift (Ro ++ (Rs ++ [])) ++ LX) := ⟨_, rfl⟩
 replace hL := hL.shift
 rw [← hLY] at hL
 have hv2 : ∀ w, LV W LY w → Rd w v1 T1.own := fun w h => hv w (by rw [hLY] at h; exact h.tail.dropl)
 repeat (go_not_at_region 7; go_step)
 refine wp_region_lit ?_
 refine h_o H59 rfl (R_mv H59 rfl rfl) (P4 61 7 6 1 rfl rfl rfl rfl) fun _ H60 => ?_
 refine h_o H60 rfl (R_bd2 H60 rfl rfl rfl bd_it2) (P5 62 61 7 6 1 rfl rfl rfl rfl rfl) fun _ H61 => ?_
 refine h_o H61 rfl (R_bd3 H61 rfl rfl rfl rfl bd_ans) (P5 63 61 7 6 1 rfl rfl rfl rfl rfl) fun _ H62 => ?_
 refine h_call H62 rfl (wn rfl) (R_call2 H62 rfl rfl rfl (fun w => by simp [go_sem])) rfl ?_
 have hq := handle_any (m := ansMsg 1 1 2) (vo := .slice none 0 0) (vs := .slice none 0 0) hL hv2 (fun w _ => rd_nul w) (by decide) (by decide) (by decide) (by decide) (Nat.zero_le _) rfl
 rw [hand12] at hq
 refine hq.mono ?_
 rintro e w63 ⟨v2, X2, rfl, hL2, hv3⟩
 replace hL := hL2
 clear hL2 hq
 refine ⟨_, rfl, fun a63 HH => ?_⟩
 have H63 := HH _ (P4 64 7 6 1 rfl rfl rfl rfl)
 refine h_o H63 rfl (R_as H63 rfl rfl) (P4 8 7 6 1 rfl rfl rfl rfl) fun _ H64 => ?_
 refine h_end ?_
 repeat (go_not_at_region 8; go_step)
 refine wp_region_lit ?_
 refine h_o H64 rfl (R_mv H64 rfl rfl) (P5 66 8 7 6 1 rfl rfl rfl rfl rfl) fun _ H65 => ?_
 refine h_call H65 rfl (wn rfl) (R_call2 H65 rfl rfl rfl (fun w => by simp [go_sem])) rfl ?_
 refine (answer_any (k := 1) hL.at_ (hL.tail.tail.mem_map (by simp)) (by decide) (by decide)).mono ?_
 rintro e wx ⟨rfl, rfl⟩
 refine ⟨_, rfl, fun a66 HH => ?_⟩
 have H66 := HH _ (P5 67 8 7 6 1 rfl rfl rfl rfl rfl)
 refine h_o H66 rfl (R_mv H66 rfl rfl) (P5 65 8 7 6 1 rfl rfl rfl rfl rfl) fun _ H67 => ?_
 refine h_o H67 rfl (R_ext H67 rfl rfl rfl) (P6 68 65 8 7 6 1 rfl rfl rfl rfl rfl rfl) fun _ H68 => ?_
 refine h_o H68 rfl (R_ext H68 rfl rfl rfl) (P6 69 68 8 7 6 1 rfl rfl rfl rfl rfl rfl) fun _ H69 => ?_
 refine h_o H69 rfl (R_as H69 rfl rfl) (P6 9 69 8 7 6 1 rfl rfl rfl rfl rfl rfl) fun _ H70 => ?_
 refine h_o H70 rfl (R_as H70 rfl rfl) (P6 10 9 8 7 6 1 rfl rfl rfl rfl rfl rfl) fun _ H71 => ?_
 refine h_end ?_
 have hcm := fun i => hL.cl (g := w53.heap.size) (A := mcells (itm y1) vo vs) (t := 37) (by rw [hLY]; simp) i
 repeat (go_not_at_region 9; go_step)
 refine wp_region_lit ?_
 refine h_o H71 rfl (R_mv H71 rfl rfl) (P6 70 10 9 8 6 1 rfl rfl rfl rfl rfl rfl) fun _ H72 => ?_
 refine h_o H72 rfl (R_bin H72 rfl rfl rfl (B_to (y := true) (B_eq Tryz.underlying23 _ _) (by decide))) (P6 71 10 9 8 6 1 rfl rfl rfl rfl rfl rfl) fun _ H73 => ?_
 refine h_o H73 rfl (R_mv H73 rfl rfl) (P6 72 10 9 8 6 1 rfl rfl rfl rfl rfl rfl) fun _ H74 => ?_
 refine h_op H74 rfl (H74.wt rfl rfl rfl) (R_fa H74 rfl rfl (fa29_9 _ _)) rfl (P6 73 72 10 9 8 1 rfl rfl rfl rfl rfl rfl) fun _ H75 => ?_
 refine h_op H75 rfl (H75.wt rfl rfl rfl) (R_ld H75 rfl rfl (ld_itm hcm)) rfl (P6 74 72 10 9 8 1 rfl rfl rfl rfl rfl rfl) fun _ H76 => ?_
 refine h_op H76 rfl (H76.wt rfl rfl rfl) (R_bd6 rfl bd_y1) rfl (P7 75 74 72 10 9 8 1 rfl rfl rfl rfl rfl rfl rfl) fun _ H77 => ?_
 refine h_op H77 rfl (H77.wt rfl rfl rfl) (R_bin H77 rfl rfl rfl (B_to (y := true) (cmp_item _ _ _ _ _ _ _ _ _ _ _ _ _ _ _ _) y1_eq)) rfl (P6 76 72 10 9 8 1 rfl rfl rfl rfl rfl rfl) fun _ H78 => ?_
 refine h_o H78 rfl (R_pick H78 rfl rfl rfl) (P5 77 10 9 8 1 rfl rfl rfl rfl rfl) fun _ H79 => ?_
 refine h_o H79 rfl (R_mv H79 rfl rfl) (P5 78 10 9 8 1 rfl rfl rfl rfl rfl) fun _ H80 => ?_
 refine h_op H80 rfl (H80.wt rfl rfl rfl) (R_mv H80 rfl rfl) rfl (P5 79 78 10 9 1 rfl rfl rfl rfl rfl) fun _ H81 => ?_
 refine h_o H81 rfl (R_pick H81 rfl rfl rfl) (P4 80 10 9 1 rfl rfl rfl rfl) fun _ H82 => ?_
 refine h_o H82 rfl (R_mv H82 rfl rfl) (P4 81 10 9 1 rfl rfl rfl rfl) fun _ H83 => ?_
 refine h_op H83 rfl (H83.wt rfl rfl rfl) (R_mv H83 rfl rfl) rfl (P4 82 81 10 1 rfl rfl rfl rfl) fun _ H84 => ?_
 refine h_op H84 rfl (H84.wt rfl rfl rfl) (R_bin H84 rfl rfl rfl (B_to (y := true) (B_eq Tryz.underlying3 _ _) (by decide))) rfl (P4 83 81 10 1 rfl rfl rfl rfl) fun _ H85 => ?_
 refine h_o H85 rfl (R_pick H85 rfl rfl rfl) (P3 84 10 1 rfl rfl rfl) fun _ H86 => ?_
 refine h_o H86 rfl (R_mv H86 rfl rfl) (P3 85 10 1 rfl rfl rfl) fun _ H87 => ?_
 refine h_op H87 rfl (H87.wt rfl rfl rfl) (R_mv H87 rfl rfl) rfl (P3 86 85 1 rfl rfl rfl) fun _ H88 => ?_
 refine h_o H88 rfl (R_pick H88 rfl rfl rfl) (P2 87 1 rfl rfl) fun _ H89 => ?_
 refine h_o H89 rfl (R_mv H89 rfl rfl) (P2 88 1 rfl rfl) fun _ H90 => ?_
 refine h_op H90 rfl (H90.wt rfl rfl rfl) (R_mv H90 rfl rfl) rfl (P3 89 88 1 rfl rfl rfl) fun _ H91 => ?_
 refine h_call H91 rfl (H91.wt rfl rfl rfl) (R_call1 H91 rfl rfl (fun w => by simp [go_sem])) rfl ?_
 refine (low_any hL.at_).mono ?_
 rintro e wx ⟨rfl, rfl⟩
 refine ⟨_, rfl, fun a92 HH => ?_⟩
 have H92 := HH _ (P3 90 88 1 rfl rfl rfl)
 refine h_op H92 rfl (H92.wt rfl rfl rfl) (R_bin H92 rfl rfl rfl (B_to (y := true) (B_eq Tryz.underlying3 _ _) (by decide))) rfl (P3 91 88 1 rfl rfl rfl) fun _ H93 => ?_
 refine h_o H93 rfl (R_pick H93 rfl rfl rfl) (P2 92 1 rfl rfl) fun _ H94 => ?_
 refine h_o H94 rfl (R_mv H94 rfl rfl) (P2 93 1 rfl rfl) fun _ H95 => ?_
 refine h_op H95 rfl (H95.wt rfl rfl rfl) (R_mv H95 rfl rfl) rfl (P2 94 93 rfl rfl) fun _ H96 => ?_
 refine h_call H96 rfl (H96.wt rfl rfl rfl) (R_call1 H96 rfl rfl (fun w => by simp [go_sem])) rfl ?_
 have hq := tick_any hL hv3 (by decide) (by decide) (fun q hq => by rcases List.mem_singleton.1 hq with rfl; exact x1_ok) (by decide) (by decide)
 rw [pk2] at hq
 refine hq.mono ?_
 rintro e w97 ⟨vp, X1, rfl, hpr, hL2⟩
 obtain ⟨q1, c1, rfl, _⟩ := hpr.pk hL2
 replace hL := hL2
 clear hL2 hq
 refine ⟨_, rfl, fun a97 HH => ?_⟩
 have H97 := HH _ (P2 95 93 rfl rfl)
 refine h_op H97 rfl (H97.wt rfl rfl rfl) (R_lenS H97 rfl rfl Tryz.underlying41) rfl (P2 96 93 rfl rfl) fun _ H98 => ?_
 refine h_op H98 rfl (H98.wt rfl rfl rfl) (R_bin H98 rfl rfl rfl (B_to (y := true) (B_eq Tryz.underlying3 _ _) (by decide))) rfl (P2 97 93 rfl rfl) fun _ H99 => ?_
 refine h_o H99 rfl (R_pick H99 rfl rfl rfl) (P1 98 rfl) fun _ H100 => ?_
 refine h_o H100 rfl (R_as H100 rfl rfl) (P1 0 rfl) fun _ H101 => ?_
 refine h_end ?_
 repeat (go_not_at_region 999; go_step)
 exact H101.ret1 rfl rfl ⟨rfl, hL.1⟩
end
end Go.Proofs.YthkeiclhllikjaaGreat
