/-
  Acts that are not great; one act of a source that stands beside another one.
-/
import Derived.Test.YthkeiclhllikjaaGreatRowS
import Derived.Test.YthkeiclhllikjaaGreatSvR
set_option linter.unusedSimpArgs false
set_option linter.unusedVariables false
namespace Go.Proofs.YthkeiclhllikjaaGreat
open Go.RowKit
/-! Steps that know the world by whatever. -/
section
variable {P : Program} {ops : Array Oper} {Q : Exit → Act → World → Prop} {rest : List Oper} {o : Oper} {a : Act} {w w' : World} {n d : Nat} {v : Value} {m m' : List (Nat × Value)} {K : Act → World → Prop}
theorem h_opP (R : World → Prop) (H : Fr a n m) (hd : o.dst = some d) (hg : Region.wanted o (yielded ops a.tmps) = true) (hr : (execOp a.eval o).run P w = .ok (.value v) w') (hL : R w') (hn : Nat.blt d n = true) (hp : Picks ((d, v) :: m) m')
    (k : ∀ a' w', Fr a' n m' → R w' → wpList P ops Q rest a' w') : wpList P ops Q (o :: rest) a w :=
  h_op H hd hg hr hn hp fun a' H' => k a' w' H' hL
theorem h_stP (R : World → Prop) (H : Fr a n m) (hd : o.dst = none) (hg : Region.wanted o (yielded ops a.tmps) = true) (hr : (execOp a.eval o).run P w = .ok .skip w') (hL : R w')
    (k : ∀ a' w', Fr a' n m → R w' → wpList P ops Q rest a' w') : wpList P ops Q (o :: rest) a w :=
  h_st H hd hg hr fun a' H' => k a' w' H' hL
theorem Fr.retT {P : Program} {fn : Func} {R : Ending → World → Prop} {a : Act} {w : World} {n : Nat} {m : List (Nat × Value)} {t u s : Nat} {v x y : Value} (H : Fr a n m) (h : fn.results = #[.tmp t, .tmp u, .tmp s]) (hv : look m t = some v) (hx : look m u = some x) (hy : look m s = some y) (hR : R (.returned (.tuple #[v, x, y])) w) : bodyPost P fn R .ret a w :=
  ⟨H.1, _, by rw [results_tmp3 h, H.getD hv, H.getD hx, H.getD hy], hR⟩
end
/-! Two sources, and what a law has made beside. -/
def TwoK (w0 : World) (pa oa aa : Nat) (Sa : PSrc) (pb ob ab : Nat) (Sb : PSrc) (K : List Thg) (w : World) : Prop :=
  ∃ va vb L, LV w0 (srcs pa Sa va oa aa (srcs pb Sb vb ob ab (K ++ L))) w ∧ (∀ w, LV w0 L w → Rd w va Sa.t.own) ∧ ∀ w, LV w0 L w → Rd w vb Sb.t.own
section
variable {w0 W w : World} {pa oa aa pb ob ab : Nat} {Sa Sb S : PSrc} {x : PItem} {k : Int} {m : PMsg} {vo vs v : Value} {L K X : List Thg} {g : Nat} {A : Array Value} {t : TypeId} {q q' : Thg}
theorem TwoS.kk (h : TwoS w0 pa oa aa Sa pb ob ab Sb w) : TwoK w0 pa oa aa Sa pb ob ab Sb [] w := h
theorem TwoK.symm (h : TwoK w0 pa oa aa Sa pb ob ab Sb K w) : TwoK w0 pb ob ab Sb pa oa aa Sa K w := by
  obtain ⟨va, vb, L, hL, ha, hb⟩ := h
  exact ⟨vb, va, L, hL.ab, hb, ha⟩
theorem TwoK.below (h : TwoK w0 pa oa aa Sa pb ob ab Sb K w) : Below w0.heap.size w0 w := by
  obtain ⟨va, vb, L, hL, ha, hb⟩ := h
  exact hL.1
theorem TwoK.call (h : TwoK w0 pa oa aa Sa pb ob ab Sb K W) (hb : Below W.heap.size W w) : TwoK w0 pa oa aa Sa pb ob ab Sb K w := by
  obtain ⟨va, vb, L, hL, h⟩ := h
  exact ⟨va, vb, L, hL.call hb, h⟩
theorem TwoK.drew (h : TwoK w0 pa oa aa Sa pb ob ab Sb K w) : TwoK w0 pa oa aa Sa pb ob ab Sb K w.drew := by
  obtain ⟨va, vb, L, hL, h⟩ := h
  exact ⟨va, vb, L, hL.drew, h⟩
theorem TwoK.mem (h : TwoK w0 pa oa aa Sa pb ob ab Sb K w) (hm : bk g A t ∈ K) : w.heap[g]? = some (.cells A t (0, 0)) := by
  obtain ⟨va, vb, L, hL, h⟩ := h
  exact hL.mem_at (by simp [hm])
theorem TwoK.cl (h : TwoK w0 pa oa aa Sa pb ob ab Sb K w) (hm : bk g A t ∈ K) (i : Nat) : w.cell? ⟨g, i, none⟩ = A[i]? := cells_at (h.mem hm) i
theorem TwoK.lvl (h : TwoK w0 pa oa aa Sa pb ob ab Sb K w) : ∃ L, LV w0 (K ++ L) w := by
  obtain ⟨va, vb, L, hL, h⟩ := h
  exact ⟨L, hL.dropl (X := [_, _, _, _, _, _])⟩
theorem TwoK.add (h : TwoK w0 pa oa aa Sa pb ob ab Sb K W) (hf : ∀ R, LV w0 R W → LV w0 (q :: R) w) : TwoK w0 pa oa aa Sa pb ob ab Sb (q :: K) w := by
  obtain ⟨va, vb, L, hL, h⟩ := h
  exact ⟨va, vb, L, (hf _ hL).perm (List.perm_middle (l₁ := [_, _, _, _, _, _])).symm, h⟩
theorem TwoK.upd (h : TwoK w0 pa oa aa Sa pb ob ab Sb (q :: K) W) (hf : ∀ R, LV w0 (q :: R) W → LV w0 (q' :: R) w) : TwoK w0 pa oa aa Sa pb ob ab Sb (q' :: K) w := by
  obtain ⟨va, vb, L, hL, h⟩ := h
  have h2 := hL.perm (List.perm_middle (l₁ := [_, _, _, _, _, _]))
  exact ⟨va, vb, L, (hf _ h2).perm (List.perm_middle (l₁ := [_, _, _, _, _, _])).symm, h⟩
theorem TwoK.tail (h : TwoK w0 pa oa aa Sa pb ob ab Sb (q :: K) w) : TwoK w0 pa oa aa Sa pb ob ab Sb K w := by
  obtain ⟨va, vb, L, hL, h⟩ := h
  exact ⟨va, vb, L, (hL.perm (List.perm_middle (l₁ := [_, _, _, _, _, _]))).tail, h⟩
theorem TwoK.addl (h : TwoK w0 pa oa aa Sa pb ob ab Sb K W) (hf : ∀ R, LV w0 R W → LV w0 (X ++ R) w) : TwoK w0 pa oa aa Sa pb ob ab Sb (X ++ K) w := by
  obtain ⟨va, vb, L, hL, h⟩ := h
  refine ⟨va, vb, L, (hf _ hL).perm ?_, h⟩
  rw [List.append_assoc]
  exact List.perm_append_comm_assoc X [_, _, _, _, _, _] (K ++ L)
theorem TwoK.dropl (h : TwoK w0 pa oa aa Sa pb ob ab Sb (X ++ K) w) : TwoK w0 pa oa aa Sa pb ob ab Sb K w := by
  obtain ⟨va, vb, L, hL, h⟩ := h
  rw [List.append_assoc] at hL
  exact ⟨va, vb, L, LV.dropl (X := X) (hL.perm (List.perm_append_comm_assoc X [_, _, _, _, _, _] (K ++ L)).symm), h⟩
theorem k2_send (h : TwoK w0 pa oa aa Sa pb ob ab Sb K W) (hn : Sa.L.length < 100000) :
    Calls Tryz.prog 11 #[.pointer (some ⟨pa, 0, none⟩), .agg (itC x)] W fun e W' => e = .returned (.tuple #[.int .i64 (sendM Sa x).2.1, .int .i64 (sendM Sa x).2.2]) ∧ TwoK w0 pa oa aa (sendM Sa x).1 pb ob ab Sb K W' := by
  obtain ⟨va, vb, L, hL, ha, hb⟩ := h
  refine (send_any (x := x) hL (ha _ hL.tail.tail.tail.tail.tail.tail.dropl) hn).mono ?_
  rintro e w ⟨rfl, hL2⟩
  have ht : (sendM Sa x).1.t = Sa.t := by
    unfold sendM
    split
    · rfl
    split
    · rfl
    split
    · rfl
    split <;> rfl
  exact ⟨rfl, va, vb, L, hL2, fun w h => by rw [ht]; exact ha w h, hb⟩
theorem k2_handle (h : TwoK w0 pa oa aa Sa pb ob ab Sb K W) (hm : ∀ w, Below w0.heap.size w0 w → Rd w vo m.owner) (hn : Sa.L.length < 100000) (k0 : -9223372036854775808 ≤ m.iseq) (k1 : m.iseq < 9223372036854775808)
    (l1 : Sa.t.own.length ≤ 1000000000000) (l2 : m.owner.length ≤ 1000000000000) (hs : vs.oneCell' = true) :
    Calls Tryz.prog 12 #[.pointer (some ⟨pa, 0, none⟩), .agg (mcells m vo vs)] W fun e W' => e = .returned (.bool (handleM Sa m).2) ∧ TwoK w0 pa oa aa (handleM Sa m).1 pb ob ab Sb K W' := by
  obtain ⟨va, vb, L, hL, ha, hb⟩ := h
  refine (handle_two hL (fun w h => ha w h.tail.tail.tail.dropl) (fun w h => hm w h.1) hn k0 k1 l1 l2 hs).mono ?_
  rintro e w ⟨v', X, rfl, hL2, hd⟩
  refine ⟨rfl, v', vb, X ++ L, hL2.perm ?_, ?_, fun w h => hb w h.dropl⟩
  · refine ((List.Perm.trans (List.perm_append_comm_assoc X [_, _, _] (K ++ L)) ?_).cons _).cons _ |>.cons _
    exact (List.perm_append_comm_assoc X K L).append_left [_, _, _]
  · rcases hd with ⟨rfl, hd⟩ | hd
    · intro w h
      rw [hd]
      exact ha w h.dropl
    · exact hd L
theorem k2_last (h : TwoK w0 pa oa aa Sa pb ob ab Sb K W) : Calls Tryz.prog 19 #[.pointer (some ⟨pa, 0, none⟩)] W fun e W' => e = .returned (.int .i64 (Sa.L.length : Nat)) ∧ W' = W := by
  obtain ⟨va, vb, L, hL, ha, hb⟩ := h
  exact last_any hL.at_
theorem k2_low (h : TwoK w0 pa oa aa Sa pb ob ab Sb K W) : Calls Tryz.prog 14 #[.pointer (some ⟨pa, 0, none⟩)] W fun e W' => e = .returned (.int .i64 (lowN Sa.L : Nat)) ∧ W' = W := by
  obtain ⟨va, vb, L, hL, ha, hb⟩ := h
  exact low_any hL.at_
theorem k2_left (h : TwoK w0 pa oa aa Sa pb ob ab Sb K W) : Calls Tryz.prog 20 #[.pointer (some ⟨pa, 0, none⟩)] W fun e W' => e = .returned (.int .i64 ((opE Sa.L).length : Nat)) ∧ W' = W := by
  obtain ⟨va, vb, L, hL, ha, hb⟩ := h
  exact left_any hL.at_ (hL.tail.mem_map (by simp))
theorem k2_answer (h : TwoK w0 pa oa aa Sa pb ob ab Sb K W) (h0 : -9223372036854775808 ≤ k) (h1 : k < 9223372036854775808) : Calls Tryz.prog 13 #[.pointer (some ⟨pa, 0, none⟩), .int .i64 k] W fun e W' => e = .returned (.tuple #[.int .i64 (codeN Sa.L k : Nat), .bool (decide (codeN Sa.L k ≠ 0))]) ∧ W' = W := by
  obtain ⟨va, vb, L, hL, ha, hb⟩ := h
  exact answer_any hL.at_ (hL.tail.tail.mem_map (by simp)) h0 h1
theorem k2_tick (h : TwoK w0 pa oa aa Sa pb ob ab Sb K W) (hn : Sa.L.length < 100000) (l1 : Sa.t.own.length ≤ 1000000000000) (hok : ∀ q ∈ Sa.L, q.1.Ok) (s0 : 0 ≤ Sa.src) (s1 : Sa.src < 1000) :
    Calls Tryz.prog 15 #[.pointer (some ⟨pa, 0, none⟩)] W fun e W' => ∃ v' X, e = .returned v' ∧ PRow 45 3 v' (pktsM Sa).length (pkF (pktsM Sa)) X ∧ TwoK w0 pa oa aa Sa pb ob ab Sb (X ++ K) W' := by
  obtain ⟨va, vb, L, hL, ha, hb⟩ := h
  refine (tick_any hL (fun w h => ha w h.tail.tail.tail.dropl) hn l1 hok s0 s1).mono ?_
  rintro e w ⟨v', X, rfl, hp, hL2⟩
  refine ⟨v', X, rfl, hp, va, vb, L, hL2.perm ?_, ha, hb⟩
  rw [List.append_assoc]
  exact List.perm_append_comm_assoc X [_, _, _, _, _, _] (K ++ L)
theorem k2_table (h : TwoK w0 pa oa aa Sa pb ob ab Sb K W) (l1 : Sa.t.own.length ≤ 1000000000000) :
    Calls Tryz.prog 22 #[.pointer (some ⟨pa, 0, none⟩)] W fun e W' => ∃ v' R, e = .returned (.agg (tbC Sa.t v')) ∧ RowIs 3 v' (ints Sa.t.own) R ∧ TwoK w0 pa oa aa Sa pb ob ab Sb (lift R ++ K) W' := by
  obtain ⟨va, vb, L, hL, ha, hb⟩ := h
  refine (stable_any hL.at_ (ha _ hL.tail.tail.tail.tail.tail.tail.dropl) l1).mono ?_
  rintro e w ⟨v', R, rfl, hr, hL3⟩
  exact ⟨v', R, rfl, hr, TwoK.addl (X := lift R) ⟨va, vb, L, hL, ha, hb⟩ fun R' h' => h'.join hL3⟩
theorem k2_alike (h : TwoK w0 pa oa aa S pb ob ab S K W) (hn : S.L.length < 100000) (l1 : S.t.own.length ≤ 1000000000000) (hok : ∀ q ∈ S.L, q.1.Ok) (s0 : 0 ≤ S.src) (s1 : S.src < 1000) :
    Calls Tryz.prog 29 #[.pointer (some ⟨pa, 0, none⟩), .pointer (some ⟨pb, 0, none⟩)] W fun e W' => e = .returned (.bool true) ∧ Below w0.heap.size w0 W' := by
  obtain ⟨va, vb, L, hL, ha, hb⟩ := h
  exact alike_any hL (fun w h => ha w h.dropl) (fun w h => hb w h.dropl) hn l1 hok s0 s1
end
/-! What an act does. -/
/-- An act that is not great. -/
structure PAct.Small (x : PAct) : Prop where
  key : x.item.key.size ≤ 3000
  set : x.msg.set.length ≤ 300
  owner : x.msg.owner.length ≤ 300
  data : x.msg.data.size ≤ 3000
  ikey : x.msg.ikey.size ≤ 3000
def oneM (S : PSrc) (n : Int) (x : PAct) : PSrc × Int × Int × Bool :=
  if x.do_ = 0 then ((sendM S x.item).1, (sendM S x.item).2.1, (sendM S x.item).2.2, false)
  else if x.do_ = 1 then ((handleM S x.msg).1, 0, 0, (handleM S x.msg).2)
  else if x.do_ = 2 then ((handleM S (ansMsg n ((lowN S.L : Nat) + x.of_.tmod 16) x.code)).1, 0, 0, (handleM S (ansMsg n ((lowN S.L : Nat) + x.of_.tmod 16) x.code)).2)
  else (S, 0, 0, false)
section
variable {W w : World} {x : PAct} {a : Addr} {j : Nat} {l : List PAct} {v : Value}
theorem msg_at {k : Nat} {u : Value} (hu : (mcells x.msg x.vo x.vs)[k]? = some u) : (actC x)[9 + k]? = some u := by
  rw [← hu]
  have hk : k < 22 := (Array.getElem?_eq_some_iff.1 hu).1
  have key : (actC x).toList.drop 9 = (mcells x.msg x.vo x.vs).toList ++ [.int .i64 x.of_, .int .i64 x.code] := rfl
  have h2 : ((actC x).toList.drop 9)[k]? = (mcells x.msg x.vo x.vs).toList[k]? := by
    rw [key, List.getElem?_append_left (by exact hk)]
  rw [List.getElem?_drop] at h2
  simpa using h2
theorem Rd.one {l : List Int} (h : Rd w v l) : v.oneCell' = true := by
  obtain ⟨A, c, rfl⟩ := h.slc
  rfl
theorem ld_slE {b : Addr} {q : Option Addr} {n c : Nat} (h : w.cell? b = some v) (e : v = .slice q n c) : (Instr.loadAt 26 (.pointer (some b))).run Tryz.prog w = .ok (.slice q n c) w := by subst e; exact ld_sl h
theorem ix_actE {A : Option Addr} {n c : Nat} (he : A = some a) (h : j < n) : (Instr.indexAt 46 (.slice A n c) (.int .i64 (j : Nat))).run Tryz.prog w = .ok (.pointer (some (a.add (j * 33)))) w := by subst he; exact ix_actA h
theorem Rd.shape {l : List Int} (h : Rd w v l) : ∃ q c, v = .slice q l.length c := h.slc
set_option maxRecDepth 100000 in
set_option maxHeartbeats 4000000 in
theorem great_any (hl : RdC W 33 v (l.map actC)) (hok : ∀ x ∈ l, x.OkA W) (hll : l.length ≤ maxLen) : Calls Tryz.prog 17 #[v] W fun e W' => ∃ b, e = .returned (.bool b) ∧ Below W.heap.size W W' ∧ (b = false → l.length ≤ 200 ∧ ∀ x ∈ l, x.Small) := by
  have hlw : ∀ w, Below W.heap.size W w → RdC w 33 v (l.map actC) := fun w hb => hl.kept fun k hk => hb.block k hk
  obtain ⟨A1, c1, rfl⟩ := hl.slc
  rw [List.length_map] at hlw
  rw [List.length_map]
  clear hl
  have ml : maxLen ≤ 9223372036854775807 := by unfold maxLen; omega
  have hL := LV.init W
  go_enter Tryz.func17, Tryz.ntmps17
  refine wp_fr (n := 57) (m := [(0, _)]) ⟨rfl, rfl, by intro p hp; simp only [List.mem_cons, List.not_mem_nil, or_false] at hp; rcases hp with rfl <;> rfl⟩ fun a0 H0 => ?_
  repeat (go_not_at_region 0; go_step)
  refine wp_region_lit ?_
  refine h_op H0 rfl (wn rfl) (R_as H0 rfl rfl) rfl (P1 0 rfl) fun a1 H1 => ?_
  clear H0
  refine h_end ?_
  repeat (go_not_at_region 1; go_step)
  refine wp_region_lit ?_
  refine h_op H1 rfl (wn rfl) (R_as H1 rfl rfl) rfl (P2 3 0 rfl rfl) fun a2 H2 => ?_
  clear H1
  refine h_end ?_
  repeat (go_not_at_region 2; go_step)
  obtain ⟨I, hI⟩ : ∃ I : Nat → Act → World → Prop, ∀ n a' w', I n a' w' ↔ ∃ j : Nat, n = l.length - j ∧ j ≤ l.length ∧ Fr a' 57 [(0, .slice A1 l.length c1), (3, .int .i64 (j : Nat))] ∧ LV W [] w' ∧ ∀ i (h : i < l.length), i < j → l[i].Small := ⟨_, fun _ _ _ => Iff.rfl⟩
  have HI := Lib.hid hI
  clear hI
  refine wp_loop_ghost I l.length ((HI.out _ _ _).2 ⟨0, rfl, Nat.zero_le _, H2.pick _ (P2 0 3 rfl rfl), hL, fun i h h0 => absurd h0 (Nat.not_lt_zero _)⟩) ?_
  clear hL H2
  intro n a1 wl hi
  obtain ⟨j, rfl, hj, H0, hL, hsm⟩ := (HI.out _ _ _).1 hi
  clear hi
  repeat (go_not_at_region 2; go_step)
  refine wp_region_lit ?_
  refine h_op H0 rfl (wn rfl) (R_mv H0 rfl rfl) rfl (P3 5 0 3 rfl rfl rfl) fun a1 H1 => ?_
  clear H0
  refine h_op H1 rfl (wn rfl) (R_mv H1 rfl rfl) rfl (P4 6 5 0 3 rfl rfl rfl rfl) fun a2 H2 => ?_
  clear H1
  refine h_op H2 rfl (wn rfl) (R_lenS H2 rfl rfl Tryz.underlying46) rfl (P4 7 5 0 3 rfl rfl rfl rfl) fun a3 H3 => ?_
  clear H2
  refine h_op H3 rfl (wn rfl) (R_bin H3 rfl rfl rfl (B_lt Tryz.underlying3 _ _)) rfl (P3 8 0 3 rfl rfl rfl) fun a4 H4 => ?_
  clear H3
  refine h_op H4 rfl (wn rfl) (R_mv H4 rfl rfl) rfl (P3 9 0 3 rfl rfl rfl) fun a5 H5 => ?_
  clear H4
  replace H5 := H5.pick [(0, .slice A1 l.length c1), (3, .int .i64 (j : Nat)), (9, .bool (decide ((j : Int) < (l.length : Nat))))] (P3 0 3 9 rfl rfl rfl)
  generalize ht0 : (decide ((j : Int) < (l.length : Nat))) = t0 at H5
  refine wpList_cut [_, _, _] (R := fun a' w' => Fr a' 57 [(0, .slice A1 l.length c1), (3, .int .i64 (j : Nat)), (12, .bool (t0 && (decide ((j : Int) ≤ 200))))] ∧ LV W [] w') ?_ ?_
  · cases t0
    · refine h_skip H5 rfl (H5.wf rfl rfl rfl) rfl (P4 10 0 3 9 rfl rfl rfl rfl) fun a6 H6 => ?_
      clear H5
      refine h_skip H6 rfl (H6.wf rfl rfl rfl) rfl (P4 11 0 3 9 rfl rfl rfl rfl) fun a7 H7 => ?_
      clear H6
      refine h_op H7 rfl (wn rfl) (R_pick H7 rfl rfl rfl) rfl (P3 12 0 3 rfl rfl rfl) fun a8 H8 => ?_
      clear H7
      exact h_end ⟨H8.pick _ (P3 0 3 12 rfl rfl rfl), hL⟩
    · refine h_op H5 rfl (H5.wt rfl rfl rfl) (R_mv H5 rfl rfl) rfl (P4 10 0 3 9 rfl rfl rfl rfl) fun a6 H6 => ?_
      clear H5
      refine h_op H6 rfl (H6.wt rfl rfl rfl) (R_bin H6 rfl rfl rfl (B_le Tryz.underlying3 _ _)) rfl (P4 11 0 3 9 rfl rfl rfl rfl) fun a7 H7 => ?_
      clear H6
      refine h_op H7 rfl (wn rfl) (R_pick H7 rfl rfl rfl) rfl (P3 12 0 3 rfl rfl rfl) fun a8 H8 => ?_
      clear H7
      exact h_end ⟨H8.pick _ (P3 0 3 12 rfl rfl rfl), hL⟩
  clear hL H5
  rintro a9 wx ⟨H9, hL⟩
  generalize ht1 : (t0 && (decide ((j : Int) ≤ 200))) = t1 at H9
  refine h_end ?_
  cases t1
  · repeat (go_not_at_region 7; go_step)
    refine wp_cond_false (H9.ev (x := .tmp 12) rfl) ?_
    repeat (go_not_at_region 7; go_step)
    refine wp_region_lit ?_
    refine h_op H9 rfl (wn rfl) (R_mv H9 rfl rfl) rfl (P1 54 rfl) fun a10 H10 => ?_
    clear H9
    refine h_op H10 rfl (wn rfl) (R_lenS H10 rfl rfl Tryz.underlying46) rfl (P1 55 rfl) fun a11 H11 => ?_
    clear H10
    refine h_op H11 rfl (wn rfl) (R_bin H11 rfl rfl rfl (B_gt Tryz.underlying3 _ _)) rfl (P1 56 rfl) fun a12 H12 => ?_
    clear H11
    refine h_op H12 rfl (wn rfl) (R_as H12 rfl rfl) rfl (P1 2 rfl) fun a13 H13 => ?_
    clear H12
    refine h_end ?_
    repeat (go_not_at_region 999; go_step)
    refine H13.ret1 rfl rfl ⟨_, rfl, hL.1, fun hb => ?_⟩
    rw [decide_eq_false_iff_not] at hb
    rw [← ht0] at ht1
    simp only [Bool.and_eq_false_iff, decide_eq_false_iff_not] at ht1
    refine ⟨by omega, fun x hx => ?_⟩
    obtain ⟨i, hi, rfl⟩ := List.mem_iff_getElem.1 hx
    exact hsm i hi (by omega)
  · rw [← ht0] at ht1
    simp only [Bool.and_eq_true, decide_eq_true_eq] at ht1
    have hjl : j < l.length := by omega
    clear ht0
    repeat (go_not_at_region 4; go_step)
    refine wp_cond_true (H9.ev (x := .tmp 12) rfl) ?_
    obtain ⟨a, hae, hel⟩ := (hlw _ hL.1).elem (List.length_map _) hjl
    have hel2 : ∀ w, Below W.heap.size W w → ∀ (k : Nat) u, (actC l[j])[k]? = some u → w.cell? ((a.add (j * 33)).add k) = some u := fun w hb k u hu => by
      obtain ⟨a2, hae2, h2⟩ := (hlw _ hb).elem (List.length_map _) hjl
      have hq := Option.some.inj (hae.symm.trans hae2)
      subst hq
      exact h2 k u (by rw [List.getElem_map]; exact hu)
    have hx := hok _ (List.getElem_mem hjl)
    obtain ⟨qo, co, evo⟩ := hx.vo.shape
    obtain ⟨qs, cq, evs⟩ := hx.vs.shape
    obtain ⟨x, hxe⟩ : ∃ x, x = l[j] := ⟨_, rfl⟩
    rw [← hxe] at evo evs hx
    repeat (go_not_at_region 4; go_step)
    refine wp_region_lit ?_
    refine h_op H9 rfl (wn rfl) (R_mv H9 rfl rfl) rfl (P3 15 0 3 rfl rfl rfl) fun a10 H10 => ?_
    clear H9
    refine h_op H10 rfl (wn rfl) (R_mv H10 rfl rfl) rfl (P4 16 15 0 3 rfl rfl rfl rfl) fun a11 H11 => ?_
    clear H10
    refine h_op H11 rfl (wn rfl) (R_ixa H11 rfl rfl rfl (ix_actE hae hjl)) rfl (P3 17 0 3 rfl rfl rfl) fun a12 H12 => ?_
    clear H11
    refine h_op H12 rfl (wn rfl) (R_fa H12 rfl rfl fa_act2) rfl (P3 18 0 3 rfl rfl rfl) fun a13 H13 => ?_
    clear H12
    refine h_op H13 rfl (wn rfl) (R_ld H13 rfl rfl (ld_msgA (m := x.msg) (vo := x.vo) (vs := x.vs) fun k u hu => by rw [Deep.add_add]; exact hel2 _ hL.1 (9 + k) u (by rw [← hxe]; exact msg_at hu))) rfl (P3 19 0 3 rfl rfl rfl) fun a14 H14 => ?_
    clear H13
    refine h_opS [bk wx.heap.size zcells 37] H14 rfl (wn rfl) (R_alloc rfl al_mg) (hL.alloc _ _) rfl (P4 4 19 0 3 rfl rfl rfl rfl) fun a15 w15 H15 hL' => ?_
    replace hL := hL'
    clear H14 hL'
    refine h_stS [bk wx.heap.size (mcells x.msg x.vo x.vs) 37] H15 rfl (wn rfl) (R_st H15 rfl rfl rfl (st_mg hL.at_ (mcells_one hx.vo.one hx.vs.one))) (hL.row _) fun a16 w16 H16 hL' => ?_
    replace hL := hL'
    clear H15 hL'
    refine h_end ?_
    obtain ⟨gm, hgm⟩ : ∃ g, g = wx.heap.size := ⟨_, rfl⟩
    rw [← hgm] at H16 hL
    clear hgm
    repeat (go_not_at_region 5; go_step)
    refine wp_region_lit ?_
    refine h_op H16 rfl (wn rfl) (R_mv H16 rfl rfl) rfl (P4 20 4 0 3 rfl rfl rfl rfl) fun a17 H17 => ?_
    clear H16
    refine h_op H17 rfl (wn rfl) (R_mv H17 rfl rfl) rfl (P5 21 20 4 0 3 rfl rfl rfl rfl rfl) fun a18 H18 => ?_
    clear H17
    refine h_op H18 rfl (wn rfl) (R_ixa H18 rfl rfl rfl (ix_actE hae hjl)) rfl (P4 22 4 0 3 rfl rfl rfl rfl) fun a19 H19 => ?_
    clear H18
    refine h_op H19 rfl (wn rfl) (R_fa H19 rfl rfl fa_act1) rfl (P4 23 4 0 3 rfl rfl rfl rfl) fun a20 H20 => ?_
    clear H19
    refine h_op H20 rfl (wn rfl) (R_fa H20 rfl rfl (fi_itA (by decide))) rfl (P4 24 4 0 3 rfl rfl rfl rfl) fun a21 H21 => ?_
    clear H20
    refine h_op H21 rfl (wn rfl) (R_ld H21 rfl rfl (ld_strA (s := x.item.key) (by rw [Deep.add_add]; exact hel2 _ hL.1 5 _ (by rw [← hxe]; rfl)))) rfl (P4 25 4 0 3 rfl rfl rfl rfl) fun a22 H22 => ?_
    clear H21
    refine h_op H22 rfl (wn rfl) (R_len H22 rfl rfl Tryz.underlying9) rfl (P4 26 4 0 3 rfl rfl rfl rfl) fun a23 H23 => ?_
    clear H22
    refine h_op H23 rfl (wn rfl) (R_bin H23 rfl rfl rfl (B_gt Tryz.underlying3 _ _)) rfl (P4 27 4 0 3 rfl rfl rfl rfl) fun a24 H24 => ?_
    clear H23
    refine h_op H24 rfl (wn rfl) (R_mv H24 rfl rfl) rfl (P4 28 4 0 3 rfl rfl rfl rfl) fun a25 H25 => ?_
    clear H24
    replace H25 := H25.pick [(0, .slice A1 l.length c1), (3, .int .i64 (j : Nat)), (4, .pointer (some ⟨gm, 0, none⟩)), (28, .bool (decide ((x.item.key.size : Int) > 3000)))] (P4 0 3 4 28 rfl rfl rfl rfl)
    generalize hs0 : (decide ((x.item.key.size : Int) > 3000)) = s0 at H25
    refine wpList_cut [_, _, _, _, _, _] (R := fun a' w' => Fr a' 57 [(0, .slice A1 l.length c1), (3, .int .i64 (j : Nat)), (4, .pointer (some ⟨gm, 0, none⟩)), (34, .bool (s0 || (decide ((x.msg.set.length : Int) > 300))))] ∧ LV W [bk gm (mcells x.msg x.vo x.vs) 37] w') ?_ ?_
    · cases s0
      · refine h_op H25 rfl (H25.wt rfl rfl rfl) (R_fa H25 rfl rfl (fa29_11 _ _)) rfl (P5 29 0 3 4 28 rfl rfl rfl rfl rfl) fun a26 H26 => ?_
        clear H25
        refine h_op H26 rfl (H26.wt rfl rfl rfl) (R_ld H26 rfl rfl (ld_slE (hL.cell 20) evs)) rfl (P5 30 0 3 4 28 rfl rfl rfl rfl rfl) fun a27 H27 => ?_
        clear H26
        refine h_op H27 rfl (H27.wt rfl rfl rfl) (R_lenS H27 rfl rfl Tryz.underlying26) rfl (P5 31 0 3 4 28 rfl rfl rfl rfl rfl) fun a28 H28 => ?_
        clear H27
        refine h_op H28 rfl (H28.wt rfl rfl rfl) (R_bin H28 rfl rfl rfl (B_gt Tryz.underlying3 _ _)) rfl (P5 32 0 3 4 28 rfl rfl rfl rfl rfl) fun a29 H29 => ?_
        clear H28
        refine h_op H29 rfl (wn rfl) (R_pick H29 rfl rfl rfl) rfl (P4 33 0 3 4 rfl rfl rfl rfl) fun a30 H30 => ?_
        clear H29
        refine h_op H30 rfl (wn rfl) (R_mv H30 rfl rfl) rfl (P4 34 0 3 4 rfl rfl rfl rfl) fun a31 H31 => ?_
        clear H30
        exact h_end ⟨H31.pick _ (P4 0 3 4 34 rfl rfl rfl rfl), hL⟩
      · refine h_skip H25 rfl (H25.wf rfl rfl rfl) rfl (P5 29 0 3 4 28 rfl rfl rfl rfl rfl) fun a26 H26 => ?_
        clear H25
        refine h_skip H26 rfl (H26.wf rfl rfl rfl) rfl (P5 30 0 3 4 28 rfl rfl rfl rfl rfl) fun a27 H27 => ?_
        clear H26
        refine h_skip H27 rfl (H27.wf rfl rfl rfl) rfl (P5 31 0 3 4 28 rfl rfl rfl rfl rfl) fun a28 H28 => ?_
        clear H27
        refine h_skip H28 rfl (H28.wf rfl rfl rfl) rfl (P5 32 0 3 4 28 rfl rfl rfl rfl rfl) fun a29 H29 => ?_
        clear H28
        refine h_op H29 rfl (wn rfl) (R_pick H29 rfl rfl rfl) rfl (P4 33 0 3 4 rfl rfl rfl rfl) fun a30 H30 => ?_
        clear H29
        refine h_op H30 rfl (wn rfl) (R_mv H30 rfl rfl) rfl (P4 34 0 3 4 rfl rfl rfl rfl) fun a31 H31 => ?_
        clear H30
        exact h_end ⟨H31.pick _ (P4 0 3 4 34 rfl rfl rfl rfl), hL⟩
    clear hL H25
    rintro a32 wx ⟨H32, hL⟩
    generalize hs1 : (s0 || (decide ((x.msg.set.length : Int) > 300))) = s1 at H32
    refine wpList_cut [_, _, _, _, _, _, _] (R := fun a' w' => Fr a' 57 [(0, .slice A1 l.length c1), (3, .int .i64 (j : Nat)), (4, .pointer (some ⟨gm, 0, none⟩)), (41, .bool (s1 || (decide ((x.msg.owner.length : Int) > 300))))] ∧ LV W [bk gm (mcells x.msg x.vo x.vs) 37] w') ?_ ?_
    · cases s1
      · refine h_op H32 rfl (H32.wt rfl rfl rfl) (R_fa H32 rfl rfl (fa29_10 _ _)) rfl (P5 35 0 3 4 34 rfl rfl rfl rfl rfl) fun a33 H33 => ?_
        clear H32
        refine h_op H33 rfl (H33.wt rfl rfl rfl) (R_fa H33 rfl rfl (fa27_2 _ _)) rfl (P5 36 0 3 4 34 rfl rfl rfl rfl rfl) fun a34 H34 => ?_
        clear H33
        refine h_op H34 rfl (H34.wt rfl rfl rfl) (R_ld H34 rfl rfl (ld_slE (hL.cell 19) evo)) rfl (P5 37 0 3 4 34 rfl rfl rfl rfl rfl) fun a35 H35 => ?_
        clear H34
        refine h_op H35 rfl (H35.wt rfl rfl rfl) (R_lenS H35 rfl rfl Tryz.underlying26) rfl (P5 38 0 3 4 34 rfl rfl rfl rfl rfl) fun a36 H36 => ?_
        clear H35
        refine h_op H36 rfl (H36.wt rfl rfl rfl) (R_bin H36 rfl rfl rfl (B_gt Tryz.underlying3 _ _)) rfl (P5 39 0 3 4 34 rfl rfl rfl rfl rfl) fun a37 H37 => ?_
        clear H36
        refine h_op H37 rfl (wn rfl) (R_pick H37 rfl rfl rfl) rfl (P4 40 0 3 4 rfl rfl rfl rfl) fun a38 H38 => ?_
        clear H37
        refine h_op H38 rfl (wn rfl) (R_mv H38 rfl rfl) rfl (P4 41 0 3 4 rfl rfl rfl rfl) fun a39 H39 => ?_
        clear H38
        exact h_end ⟨H39.pick _ (P4 0 3 4 41 rfl rfl rfl rfl), hL⟩
      · refine h_skip H32 rfl (H32.wf rfl rfl rfl) rfl (P5 35 0 3 4 34 rfl rfl rfl rfl rfl) fun a33 H33 => ?_
        clear H32
        refine h_skip H33 rfl (H33.wf rfl rfl rfl) rfl (P5 36 0 3 4 34 rfl rfl rfl rfl rfl) fun a34 H34 => ?_
        clear H33
        refine h_skip H34 rfl (H34.wf rfl rfl rfl) rfl (P5 37 0 3 4 34 rfl rfl rfl rfl rfl) fun a35 H35 => ?_
        clear H34
        refine h_skip H35 rfl (H35.wf rfl rfl rfl) rfl (P5 38 0 3 4 34 rfl rfl rfl rfl rfl) fun a36 H36 => ?_
        clear H35
        refine h_skip H36 rfl (H36.wf rfl rfl rfl) rfl (P5 39 0 3 4 34 rfl rfl rfl rfl rfl) fun a37 H37 => ?_
        clear H36
        refine h_op H37 rfl (wn rfl) (R_pick H37 rfl rfl rfl) rfl (P4 40 0 3 4 rfl rfl rfl rfl) fun a38 H38 => ?_
        clear H37
        refine h_op H38 rfl (wn rfl) (R_mv H38 rfl rfl) rfl (P4 41 0 3 4 rfl rfl rfl rfl) fun a39 H39 => ?_
        clear H38
        exact h_end ⟨H39.pick _ (P4 0 3 4 41 rfl rfl rfl rfl), hL⟩
    clear hL H32
    rintro a40 wx ⟨H40, hL⟩
    generalize hs2 : (s1 || (decide ((x.msg.owner.length : Int) > 300))) = s2 at H40
    refine wpList_cut [_, _, _, _, _, _] (R := fun a' w' => Fr a' 57 [(0, .slice A1 l.length c1), (3, .int .i64 (j : Nat)), (4, .pointer (some ⟨gm, 0, none⟩)), (47, .bool (s2 || (decide ((x.msg.data.size : Int) > 3000))))] ∧ LV W [bk gm (mcells x.msg x.vo x.vs) 37] w') ?_ ?_
    · cases s2
      · refine h_op H40 rfl (H40.wt rfl rfl rfl) (R_fa H40 rfl rfl (fa29_12 _ _)) rfl (P5 42 0 3 4 41 rfl rfl rfl rfl rfl) fun a41 H41 => ?_
        clear H40
        refine h_op H41 rfl (H41.wt rfl rfl rfl) (R_ld H41 rfl rfl (ld_str (hL.cell 21))) rfl (P5 43 0 3 4 41 rfl rfl rfl rfl rfl) fun a42 H42 => ?_
        clear H41
        refine h_op H42 rfl (H42.wt rfl rfl rfl) (R_len H42 rfl rfl Tryz.underlying9) rfl (P5 44 0 3 4 41 rfl rfl rfl rfl rfl) fun a43 H43 => ?_
        clear H42
        refine h_op H43 rfl (H43.wt rfl rfl rfl) (R_bin H43 rfl rfl rfl (B_gt Tryz.underlying3 _ _)) rfl (P5 45 0 3 4 41 rfl rfl rfl rfl rfl) fun a44 H44 => ?_
        clear H43
        refine h_op H44 rfl (wn rfl) (R_pick H44 rfl rfl rfl) rfl (P4 46 0 3 4 rfl rfl rfl rfl) fun a45 H45 => ?_
        clear H44
        refine h_op H45 rfl (wn rfl) (R_mv H45 rfl rfl) rfl (P4 47 0 3 4 rfl rfl rfl rfl) fun a46 H46 => ?_
        clear H45
        exact h_end ⟨H46.pick _ (P4 0 3 4 47 rfl rfl rfl rfl), hL⟩
      · refine h_skip H40 rfl (H40.wf rfl rfl rfl) rfl (P5 42 0 3 4 41 rfl rfl rfl rfl rfl) fun a41 H41 => ?_
        clear H40
        refine h_skip H41 rfl (H41.wf rfl rfl rfl) rfl (P5 43 0 3 4 41 rfl rfl rfl rfl rfl) fun a42 H42 => ?_
        clear H41
        refine h_skip H42 rfl (H42.wf rfl rfl rfl) rfl (P5 44 0 3 4 41 rfl rfl rfl rfl rfl) fun a43 H43 => ?_
        clear H42
        refine h_skip H43 rfl (H43.wf rfl rfl rfl) rfl (P5 45 0 3 4 41 rfl rfl rfl rfl rfl) fun a44 H44 => ?_
        clear H43
        refine h_op H44 rfl (wn rfl) (R_pick H44 rfl rfl rfl) rfl (P4 46 0 3 4 rfl rfl rfl rfl) fun a45 H45 => ?_
        clear H44
        refine h_op H45 rfl (wn rfl) (R_mv H45 rfl rfl) rfl (P4 47 0 3 4 rfl rfl rfl rfl) fun a46 H46 => ?_
        clear H45
        exact h_end ⟨H46.pick _ (P4 0 3 4 47 rfl rfl rfl rfl), hL⟩
    clear hL H40
    rintro a47 wx ⟨H47, hL⟩
    generalize hs3 : (s2 || (decide ((x.msg.data.size : Int) > 3000))) = s3 at H47
    refine wpList_cut [_, _, _, _, _, _] (R := fun a' w' => Fr a' 57 [(0, .slice A1 l.length c1), (3, .int .i64 (j : Nat)), (4, .pointer (some ⟨gm, 0, none⟩)), (53, .bool (s3 || (decide ((x.msg.ikey.size : Int) > 3000))))] ∧ LV W [bk gm (mcells x.msg x.vo x.vs) 37] w') ?_ ?_
    · cases s3
      · refine h_op H47 rfl (H47.wt rfl rfl rfl) (R_fa H47 rfl rfl (fa29_9 _ _)) rfl (P5 48 0 3 4 47 rfl rfl rfl rfl rfl) fun a48 H48 => ?_
        clear H47
        refine h_op H48 rfl (H48.wt rfl rfl rfl) (R_fa H48 rfl rfl (fi_k (by decide))) rfl (P5 49 0 3 4 47 rfl rfl rfl rfl rfl) fun a49 H49 => ?_
        clear H48
        refine h_op H49 rfl (H49.wt rfl rfl rfl) (R_ld H49 rfl rfl (ld_str (hL.cell 13))) rfl (P5 50 0 3 4 47 rfl rfl rfl rfl rfl) fun a50 H50 => ?_
        clear H49
        refine h_op H50 rfl (H50.wt rfl rfl rfl) (R_len H50 rfl rfl Tryz.underlying9) rfl (P5 51 0 3 4 47 rfl rfl rfl rfl rfl) fun a51 H51 => ?_
        clear H50
        refine h_op H51 rfl (H51.wt rfl rfl rfl) (R_bin H51 rfl rfl rfl (B_gt Tryz.underlying3 _ _)) rfl (P5 52 0 3 4 47 rfl rfl rfl rfl rfl) fun a52 H52 => ?_
        clear H51
        refine h_op H52 rfl (wn rfl) (R_pick H52 rfl rfl rfl) rfl (P4 53 0 3 4 rfl rfl rfl rfl) fun a53 H53 => ?_
        clear H52
        exact h_end ⟨H53.pick _ (P4 0 3 4 53 rfl rfl rfl rfl), hL⟩
      · refine h_skip H47 rfl (H47.wf rfl rfl rfl) rfl (P5 48 0 3 4 47 rfl rfl rfl rfl rfl) fun a48 H48 => ?_
        clear H47
        refine h_skip H48 rfl (H48.wf rfl rfl rfl) rfl (P5 49 0 3 4 47 rfl rfl rfl rfl rfl) fun a49 H49 => ?_
        clear H48
        refine h_skip H49 rfl (H49.wf rfl rfl rfl) rfl (P5 50 0 3 4 47 rfl rfl rfl rfl rfl) fun a50 H50 => ?_
        clear H49
        refine h_skip H50 rfl (H50.wf rfl rfl rfl) rfl (P5 51 0 3 4 47 rfl rfl rfl rfl rfl) fun a51 H51 => ?_
        clear H50
        refine h_skip H51 rfl (H51.wf rfl rfl rfl) rfl (P5 52 0 3 4 47 rfl rfl rfl rfl rfl) fun a52 H52 => ?_
        clear H51
        refine h_op H52 rfl (wn rfl) (R_pick H52 rfl rfl rfl) rfl (P4 53 0 3 4 rfl rfl rfl rfl) fun a53 H53 => ?_
        clear H52
        exact h_end ⟨H53.pick _ (P4 0 3 4 53 rfl rfl rfl rfl), hL⟩
    clear hL H47
    rintro a54 wx ⟨H54, hL⟩
    generalize hs4 : (s3 || (decide ((x.msg.ikey.size : Int) > 3000))) = s4 at H54
    refine h_end ?_
    cases s4
    rotate_left
    · repeat (go_not_at_region 6; go_step)
      refine wp_cond_true (H54.ev (x := .tmp 53) rfl) ?_
      repeat (go_not_at_region 6; go_step)
      refine wp_region_lit ?_
      refine h_op H54 rfl (wn rfl) (R_as H54 rfl rfl) rfl (P1 2 rfl) fun a55 H55 => ?_
      clear H54
      refine h_end ?_
      repeat (go_not_at_region 999; go_step)
      exact H55.ret1 rfl rfl ⟨_, rfl, hL.1, fun h => (by cases h)⟩
    have hsx : x.Small := by
      rw [← hs3, ← hs2, ← hs1, ← hs0] at hs4
      simp only [Bool.or_eq_false_iff, decide_eq_false_iff_not] at hs4
      obtain ⟨⟨⟨⟨a1, a2⟩, a3⟩, a4⟩, a5⟩ := hs4
      exact ⟨by omega, by omega, by omega, by omega, by omega⟩
    repeat (go_not_at_region 3; go_step)
    refine wp_cond_false (H54.ev (x := .tmp 53) rfl) ?_
    repeat (go_not_at_region 3; go_step)
    refine wp_region_lit ?_
    refine h_op H54 rfl (wn rfl) (R_mv H54 rfl rfl) rfl (P3 13 0 3 rfl rfl rfl) fun a55 H55 => ?_
    clear H54
    refine h_op H55 rfl (wn rfl) (R_bin H55 rfl rfl rfl (B_add Tryz.underlying3 _ _ (by omega) (by omega))) rfl (P3 14 0 3 rfl rfl rfl) fun a56 H56 => ?_
    clear H55
    refine h_op H56 rfl (wn rfl) (R_as H56 rfl rfl) rfl (P2 3 0 rfl rfl) fun a57 H57 => ?_
    clear H56
    refine h_end ?_
    repeat (go_not_at_region 999; go_step)
    refine ⟨l.length - (j + 1), by omega, (HI.out _ _ _).2 ⟨j + 1, rfl, hjl, H57.pick _ (P2 0 3 rfl rfl), hL.tail, fun i h h0 => ?_⟩⟩
    rcases Nat.lt_succ_iff_lt_or_eq.1 h0 with h0 | rfl
    · exact hsm i h h0
    · rw [← hxe]; exact hsx
end
section
variable {w0 W w : World} {pa oa aa pb ob ab : Nat} {Sa Sb S : PSrc} {x : PAct} {n : Int} {K : List Thg} {g : Nat}
def HasB (g : Nat) (A : Array Value) (t : TypeId) (w : World) : Prop := w.heap[g]? = some (.cells A t (0, 0))
theorem HasB.cl {A : Array Value} {t : TypeId} (h : HasB g A t w) (i : Nat) : w.cell? ⟨g, i, none⟩ = A[i]? := cells_at h i
theorem B_rem16 {X Y : Operand} (z : Int) : ((do eqGuard .rem 3 X Y (.int .i64 z) (.int .i64 16); binOp .rem 3 (.int .i64 z) (.int .i64 16)) : Sem Value).run Tryz.prog w = .ok (.int .i64 (z.tmod 16)) w := by
  have h1 := Int.tmod_lt_of_pos z (show (0 : Int) < 16 by decide)
  have h2 := Int.lt_tmod_of_pos z (show (0 : Int) < 16 by decide)
  have e : IntKind.wrap .i64 (z.tmod 16) = z.tmod 16 := i64_id (by omega) (by omega)
  simp [go_sem, e]
set_option maxRecDepth 100000 in
set_option maxHeartbeats 4000000 in
theorem one_k (h : TwoK w0 pa oa aa Sa pb ob ab Sb K W) (hvo : ∀ w, Below w0.heap.size w0 w → Rd w x.vo x.msg.owner) (hvs : x.vs.oneCell' = true) (hx : x.msg.FitsN) (hs : x.Small) (hn : Sa.L.length < 90000) (l1 : Sa.t.own.length ≤ 1000000000000) :
    Calls Tryz.prog 28 #[.pointer (some ⟨pa, 0, none⟩), .int .i64 n, .agg (actC x)] W fun e W' => e = .returned (.tuple #[.int .i64 (oneM Sa n x).2.1, .int .i64 (oneM Sa n x).2.2.1, .bool (oneM Sa n x).2.2.2]) ∧ TwoK w0 pa oa aa (oneM Sa n x).1 pb ob ab Sb K W' := by
  have hL := h
  clear h
  have hown := hs.owner
  obtain ⟨z, hz⟩ : ∃ z, z = oneM Sa n x := ⟨_, rfl⟩
  rw [← hz]
  unfold oneM at hz
  go_enter Tryz.func28, Tryz.ntmps28
  refine wp_fr (n := 45) (m := [(0, _), (1, _), (2, _)]) ⟨rfl, rfl, by intro p hp; simp only [List.mem_cons, List.not_mem_nil, or_false] at hp; rcases hp with rfl | rfl | rfl <;> rfl⟩ fun a0 H0 => ?_
  repeat (go_not_at_region 0; go_step)
  refine wp_region_lit ?_
  refine h_opP (TwoK w0 pa oa aa Sa pb ob ab Sb (bk W.heap.size (actC x) 50 :: K)) H0 rfl (wn rfl) (R_box H0 rfl rfl bx_act) (hL.add fun R h => h.alloc _ _) rfl (P3 5 0 1 rfl rfl rfl) fun a1 w1 H1 hL' => ?_
  replace hL := hL'
  clear H0 hL'
  refine h_op H1 rfl (wn rfl) (R_as H1 rfl rfl) rfl (P3 5 0 1 rfl rfl rfl) fun a2 H2 => ?_
  clear H1
  refine h_op H2 rfl (wn rfl) (R_as H2 rfl rfl) rfl (P3 5 0 1 rfl rfl rfl) fun a3 H3 => ?_
  clear H2
  refine h_op H3 rfl (wn rfl) (R_as H3 rfl rfl) rfl (P3 5 0 1 rfl rfl rfl) fun a4 H4 => ?_
  clear H3
  refine h_end ?_
  repeat (go_not_at_region 1; go_step)
  refine wp_region_lit ?_
  refine h_op H4 rfl (wn rfl) (R_fa H4 rfl rfl fa_box0) rfl (P4 11 5 0 1 rfl rfl rfl rfl) fun a5 H5 => ?_
  clear H4
  refine h_op H5 rfl (wn rfl) (R_ld H5 rfl rfl (ld_int (x := x.do_) (by rw [hL.cl List.mem_cons_self]; rfl))) rfl (P4 12 5 0 1 rfl rfl rfl rfl) fun a6 H6 => ?_
  clear H5
  refine h_end ?_
  by_cases h0 : x.do_ = 0
  · rw [if_pos h0] at hz
    repeat (go_not_at_region 2; go_step)
    refine wp_region_lit ?_
    refine h_op H6 rfl (wn rfl) (R_bin H6 rfl rfl rfl (B_to (y := true) (B_eq Tryz.underlying3 _ _) (beq_iff_eq.2 h0))) rfl (P5 14 12 5 0 1 rfl rfl rfl rfl rfl) fun a7 H7 => ?_
    clear H6
    refine h_op H7 rfl (wn rfl) (R_as H7 rfl rfl) rfl (P5 13 12 5 0 1 rfl rfl rfl rfl rfl) fun a8 H8 => ?_
    clear H7
    refine h_end ?_
    repeat (go_not_at_region 3; go_step)
    refine wp_cond_true (H8.ev (x := .tmp 13) rfl) ?_
    repeat (go_not_at_region 3; go_step)
    refine wp_region_lit ?_
    refine h_op H8 rfl (wn rfl) (R_mv H8 rfl rfl) rfl (P2 16 5 rfl rfl) fun a9 H9 => ?_
    clear H8
    refine h_op H9 rfl (wn rfl) (R_fa H9 rfl rfl fa_box1) rfl (P2 17 16 rfl rfl) fun a10 H10 => ?_
    clear H9
    refine h_op H10 rfl (wn rfl) (R_ld H10 rfl rfl (ld_boxI (hL.mem List.mem_cons_self))) rfl (P2 18 16 rfl rfl) fun a11 H11 => ?_
    clear H10
    refine h_call H11 rfl (wn rfl) (R_call2 H11 rfl rfl rfl (fun w => by simp [go_sem])) rfl ?_
    refine (k2_send (x := x.item) hL (by omega)).mono ?_
    rintro e w12 ⟨rfl, hL2⟩
    replace hL := hL2.tail
    clear hL2
    refine ⟨_, rfl, fun a12 HH => ?_⟩
    have H12 := HH _ (P1 19 rfl)
    clear HH H11
    refine h_op H12 rfl (wn rfl) (R_mv H12 rfl rfl) rfl (P1 15 rfl) fun a13 H13 => ?_
    clear H12
    refine h_op H13 rfl (wn rfl) (R_ext H13 rfl rfl rfl) rfl (P2 20 15 rfl rfl) fun a14 H14 => ?_
    clear H13
    refine h_op H14 rfl (wn rfl) (R_ext H14 rfl rfl rfl) rfl (P2 21 20 rfl rfl) fun a15 H15 => ?_
    clear H14
    refine h_op H15 rfl (wn rfl) (R_as H15 rfl rfl) rfl (P2 9 21 rfl rfl) fun a16 H16 => ?_
    clear H15
    refine h_op H16 rfl (wn rfl) (R_as H16 rfl rfl) rfl (P2 10 9 rfl rfl) fun a17 H17 => ?_
    clear H16
    refine h_end ?_
    repeat (go_not_at_region 4; go_step)
    refine wp_region_lit ?_
    refine h_op H17 rfl (wn rfl) (R_mv H17 rfl rfl) rfl (P2 22 10 rfl rfl) fun a18 H18 => ?_
    clear H17
    refine h_op H18 rfl (wn rfl) (R_mv H18 rfl rfl) rfl (P2 23 22 rfl rfl) fun a19 H19 => ?_
    clear H18
    refine h_op H19 rfl (wn rfl) (R_as H19 rfl rfl) rfl (P2 6 23 rfl rfl) fun a20 H20 => ?_
    clear H19
    refine h_op H20 rfl (wn rfl) (R_as H20 rfl rfl) rfl (P2 7 6 rfl rfl) fun a21 H21 => ?_
    clear H20
    refine h_op H21 rfl (wn rfl) (R_as H21 rfl rfl) rfl (P3 8 7 6 rfl rfl rfl) fun a22 H22 => ?_
    clear H21
    refine h_end ?_
    repeat (go_not_at_region 999; go_step)
    refine H22.retT rfl rfl rfl rfl ?_
    rw [hz]
    exact ⟨rfl, hL⟩
  · rw [if_neg h0] at hz
    repeat (go_not_at_region 2; go_step)
    refine wp_region_lit ?_
    refine h_op H6 rfl (wn rfl) (R_bin H6 rfl rfl rfl (B_to (y := false) (B_eq Tryz.underlying3 _ _) (beq_eq_false_iff_ne.2 h0))) rfl (P5 14 12 5 0 1 rfl rfl rfl rfl rfl) fun a7 H7 => ?_
    clear H6
    refine h_op H7 rfl (wn rfl) (R_as H7 rfl rfl) rfl (P5 13 12 5 0 1 rfl rfl rfl rfl rfl) fun a8 H8 => ?_
    clear H7
    refine h_end ?_
    repeat (go_not_at_region 5; go_step)
    refine wp_cond_false (H8.ev (x := .tmp 13) rfl) ?_
    by_cases h1 : x.do_ = 1
    · rw [if_pos h1] at hz
      repeat (go_not_at_region 5; go_step)
      refine wp_region_lit ?_
      refine h_op H8 rfl (wn rfl) (R_bin H8 rfl rfl rfl (B_to (y := true) (B_eq Tryz.underlying3 _ _) (beq_iff_eq.2 h1))) rfl (P5 25 12 5 0 1 rfl rfl rfl rfl rfl) fun a9 H9 => ?_
      clear H8
      refine h_op H9 rfl (wn rfl) (R_as H9 rfl rfl) rfl (P5 24 12 5 0 1 rfl rfl rfl rfl rfl) fun a10 H10 => ?_
      clear H9
      refine h_end ?_
      repeat (go_not_at_region 6; go_step)
      refine wp_cond_true (H10.ev (x := .tmp 24) rfl) ?_
      repeat (go_not_at_region 6; go_step)
      refine wp_region_lit ?_
      refine h_op H10 rfl (wn rfl) (R_mv H10 rfl rfl) rfl (P2 26 5 rfl rfl) fun a11 H11 => ?_
      clear H10
      refine h_op H11 rfl (wn rfl) (R_fa H11 rfl rfl fa_box2) rfl (P2 27 26 rfl rfl) fun a12 H12 => ?_
      clear H11
      refine h_op H12 rfl (wn rfl) (R_ld H12 rfl rfl (ld_boxM (hL.mem List.mem_cons_self))) rfl (P2 28 26 rfl rfl) fun a13 H13 => ?_
      clear H12
      refine h_call H13 rfl (wn rfl) (R_call2 H13 rfl rfl rfl (fun w => by simp [go_sem])) rfl ?_
      refine (k2_handle (m := x.msg) (vo := x.vo) (vs := x.vs) hL hvo (by omega) hx.iseq0 hx.iseq1 l1 (by omega) hvs).mono ?_
      rintro e w14 ⟨rfl, hL2⟩
      replace hL := hL2.tail
      clear hL2
      refine ⟨_, rfl, fun a14 HH => ?_⟩
      have H14 := HH _ (P1 29 rfl)
      clear HH H13
      refine h_op H14 rfl (wn rfl) (R_as H14 rfl rfl) rfl (P2 6 29 rfl rfl) fun a15 H15 => ?_
      clear H14
      refine h_op H15 rfl (wn rfl) (R_as H15 rfl rfl) rfl (P3 7 6 29 rfl rfl rfl) fun a16 H16 => ?_
      clear H15
      refine h_op H16 rfl (wn rfl) (R_as H16 rfl rfl) rfl (P3 8 7 6 rfl rfl rfl) fun a17 H17 => ?_
      clear H16
      refine h_end ?_
      repeat (go_not_at_region 999; go_step)
      refine H17.retT rfl rfl rfl rfl ?_
      rw [hz]
      exact ⟨rfl, hL⟩
    · rw [if_neg h1] at hz
      repeat (go_not_at_region 5; go_step)
      refine wp_region_lit ?_
      refine h_op H8 rfl (wn rfl) (R_bin H8 rfl rfl rfl (B_to (y := false) (B_eq Tryz.underlying3 _ _) (beq_eq_false_iff_ne.2 h1))) rfl (P5 25 12 5 0 1 rfl rfl rfl rfl rfl) fun a9 H9 => ?_
      clear H8
      refine h_op H9 rfl (wn rfl) (R_as H9 rfl rfl) rfl (P5 24 12 5 0 1 rfl rfl rfl rfl rfl) fun a10 H10 => ?_
      clear H9
      refine h_end ?_
      repeat (go_not_at_region 7; go_step)
      refine wp_cond_false (H10.ev (x := .tmp 24) rfl) ?_
      by_cases h2 : x.do_ = 2
      · rw [if_pos h2] at hz
        have hlo := lowN_le (L := Sa.L)
        have hr1 := Int.tmod_lt_of_pos x.of_ (show (0 : Int) < 16 by decide)
        have hr2 := Int.lt_tmod_of_pos x.of_ (show (0 : Int) < 16 by decide)
        repeat (go_not_at_region 7; go_step)
        refine wp_region_lit ?_
        refine h_op H10 rfl (wn rfl) (R_bin H10 rfl rfl rfl (B_to (y := true) (B_eq Tryz.underlying3 _ _) (beq_iff_eq.2 h2))) rfl (P5 31 12 5 0 1 rfl rfl rfl rfl rfl) fun a11 H11 => ?_
        clear H10
        refine h_op H11 rfl (wn rfl) (R_as H11 rfl rfl) rfl (P5 30 12 5 0 1 rfl rfl rfl rfl rfl) fun a12 H12 => ?_
        clear H11
        refine h_end ?_
        repeat (go_not_at_region 8; go_step)
        refine wp_cond_true (H12.ev (x := .tmp 30) rfl) ?_
        repeat (go_not_at_region 8; go_step)
        refine wp_region_held_drew (S := fun w' => HasB W.heap.size (actC x) 50 w') (by kernel_rfl) ((TwoK.mem hL.drew List.mem_cons_self : HasB W.heap.size (actC x) 50 _)) (fun _ => ?_)
        replace hL := hL.drew
        refine a_op 0 H12 rfl rfl (by kernel_rfl) (by kernel_rfl) (by kernel_rfl) (fun _ _ _ h => h) (wn rfl) (fun w hL => R_mv H12 rfl rfl) ((TwoK.mem hL List.mem_cons_self : HasB W.heap.size (actC x) 50 _)) rfl (P4 32 5 0 1 rfl rfl rfl rfl) fun a13 H13 => ?_
        clear H12
        refine a_op 1 H13 rfl rfl (by kernel_rfl) (by kernel_rfl) (by kernel_rfl) (fun _ _ _ h => h) (wn rfl) (fun w hL => R_mv H13 rfl rfl) ((TwoK.mem hL List.mem_cons_self : HasB W.heap.size (actC x) 50 _)) rfl (P4 33 32 5 0 rfl rfl rfl rfl) fun a14 H14 => ?_
        clear H13
        refine a_op 2 H14 rfl rfl (by kernel_rfl) (by kernel_rfl) (by kernel_rfl) (fun _ _ _ h => h) (wn rfl) (fun w hL => R_mv H14 rfl rfl) ((TwoK.mem hL List.mem_cons_self : HasB W.heap.size (actC x) 50 _)) rfl (P4 34 33 32 5 rfl rfl rfl rfl) fun a15 H15 => ?_
        clear H14
        refine a_op 4 H15 rfl rfl (by kernel_rfl) (by kernel_rfl) (by kernel_rfl) (fun _ _ _ h => h) (wn rfl) (fun w hL => R_fa H15 rfl rfl fa_box3) ((TwoK.mem hL List.mem_cons_self : HasB W.heap.size (actC x) 50 _)) rfl (P5 36 34 33 32 5 rfl rfl rfl rfl rfl) fun a16 H16 => ?_
        clear H15
        refine a_op 9 H16 rfl rfl (by kernel_rfl) (by kernel_rfl) (by kernel_rfl) (fun _ _ _ h => h) (wn rfl) (fun w hL => R_fa H16 rfl rfl fa_box4) ((TwoK.mem hL List.mem_cons_self : HasB W.heap.size (actC x) 50 _)) rfl (P5 41 36 34 33 32 rfl rfl rfl rfl rfl) fun a17 H17 => ?_
        clear H16
        refine a_op 5 H17 rfl rfl (by kernel_rfl) (by kernel_rfl) (by kernel_rfl) (fun _ _ _ h => h) (wn rfl) (fun w hL => R_ld H17 rfl rfl (ld_int (x := x.of_) (by rw [HasB.cl hL]; rfl))) ((TwoK.mem hL List.mem_cons_self : HasB W.heap.size (actC x) 50 _)) rfl (P5 37 41 34 33 32 rfl rfl rfl rfl rfl) fun a18 H18 => ?_
        clear H17
        refine a_op 10 H18 rfl rfl (by kernel_rfl) (by kernel_rfl) (by kernel_rfl) (fun _ _ _ h => h) (wn rfl) (fun w hL => R_ld H18 rfl rfl (ld_int (x := x.code) (by rw [HasB.cl hL]; rfl))) ((TwoK.mem hL List.mem_cons_self : HasB W.heap.size (actC x) 50 _)) rfl (P5 42 37 34 33 32 rfl rfl rfl rfl rfl) fun a19 H19 => ?_
        clear H18
        refine a_op 6 H19 rfl rfl (by kernel_rfl) (by kernel_rfl) (by kernel_rfl) (fun _ _ _ h => h) (wn rfl) (fun w hL => R_bin H19 rfl rfl rfl (B_rem16 _)) ((TwoK.mem hL List.mem_cons_self : HasB W.heap.size (actC x) 50 _)) rfl (P5 38 42 34 33 32 rfl rfl rfl rfl rfl) fun a20 H20 => ?_
        clear H19
        refine a_all1 3 (by kernel_rfl) ?_
        refine o_call 3 H20 rfl rfl (wn rfl) (R_call1 H20 rfl rfl (fun w => by simp [go_sem])) rfl ?_
        refine (k2_low hL).mono ?_
        rintro e wx ⟨rfl, rfl⟩
        refine ⟨_, rfl, fun a21 HH => ?_⟩
        have H21 := HH _ (P5 35 38 42 33 32 rfl rfl rfl rfl rfl)
        clear HH H20
        refine ⟨(TwoK.mem hL List.mem_cons_self : HasB W.heap.size (actC x) 50 _), ?_⟩
        refine a_op 7 H21 rfl rfl (by kernel_rfl) (by kernel_rfl) (by kernel_rfl) (fun _ _ _ h => h) (wn rfl) (fun w hL => R_bin H21 rfl rfl rfl (B_add Tryz.underlying3 _ _ (by omega) (by omega))) ((TwoK.mem hL List.mem_cons_self : HasB W.heap.size (actC x) 50 _)) rfl (P4 39 42 33 32 rfl rfl rfl rfl) fun a22 H22 => ?_
        clear H21
        refine a_op 8 H22 rfl rfl (by kernel_rfl) (by kernel_rfl) (by kernel_rfl) (fun _ _ _ h => h) (wn rfl) (fun w hL => R_bd2 H22 rfl rfl rfl bd_it2) ((TwoK.mem hL List.mem_cons_self : HasB W.heap.size (actC x) 50 _)) rfl (P3 40 42 32 rfl rfl rfl) fun a23 H23 => ?_
        clear H22
        refine a_op 11 H23 rfl rfl (by kernel_rfl) (by kernel_rfl) (by kernel_rfl) (fun _ _ _ h => h) (wn rfl) (fun w hL => R_bd3 H23 rfl rfl rfl rfl bd_ans) ((TwoK.mem hL List.mem_cons_self : HasB W.heap.size (actC x) 50 _)) rfl (P2 43 32 rfl rfl) fun a24 H24 => ?_
        clear H23
        refine a_all1 12 (by kernel_rfl) ?_
        refine o_call 12 H24 rfl rfl (wn rfl) (R_call2 H24 rfl rfl rfl (fun w => by simp [go_sem])) rfl ?_
        refine (k2_handle (m := (ansMsg n ((lowN Sa.L : Nat) + x.of_.tmod 16) x.code)) (vo := .slice none 0 0) (vs := .slice none 0 0) hL (fun w _ => rd_nul w) (by omega) (by show (_ : Int) ≤ (lowN Sa.L : Nat) + x.of_.tmod 16; omega) (by show ((lowN Sa.L : Nat) : Int) + x.of_.tmod 16 < _; omega) l1 (Nat.zero_le _) rfl).mono ?_
        rintro e w25 ⟨rfl, hL2⟩
        replace hL := hL2
        clear hL2
        refine ⟨_, rfl, fun a25 HH => ?_⟩
        have H25 := HH _ (P1 44 rfl)
        clear HH H24
        refine ⟨(TwoK.mem hL List.mem_cons_self : HasB W.heap.size (actC x) 50 _), ?_⟩
        refine a_op 13 H25 rfl rfl (by kernel_rfl) (by kernel_rfl) (by kernel_rfl) (fun _ _ _ h => h) (wn rfl) (fun w hL => R_as H25 rfl rfl) ((TwoK.mem hL List.mem_cons_self : HasB W.heap.size (actC x) 50 _)) rfl (P2 6 44 rfl rfl) fun a26 H26 => ?_
        clear H25
        refine a_op 14 H26 rfl rfl (by kernel_rfl) (by kernel_rfl) (by kernel_rfl) (fun _ _ _ h => h) (wn rfl) (fun w hL => R_as H26 rfl rfl) ((TwoK.mem hL List.mem_cons_self : HasB W.heap.size (actC x) 50 _)) rfl (P3 7 6 44 rfl rfl rfl) fun a27 H27 => ?_
        clear H26
        refine a_op 15 H27 rfl rfl (by kernel_rfl) (by kernel_rfl) (by kernel_rfl) (fun _ _ _ h => h) (wn rfl) (fun w hL => R_as H27 rfl rfl) ((TwoK.mem hL List.mem_cons_self : HasB W.heap.size (actC x) 50 _)) rfl (P3 8 7 6 rfl rfl rfl) fun a28 H28 => ?_
        clear H27
        refine wpAnyH_done (by kernel_rfl) ?_ _
        repeat (go_not_at_region 999; go_step)
        exact H28.retT rfl rfl rfl rfl (by rw [hz]; exact ⟨rfl, hL.tail⟩)
      · rw [if_neg h2] at hz
        repeat (go_not_at_region 7; go_step)
        refine wp_region_lit ?_
        refine h_op H10 rfl (wn rfl) (R_bin H10 rfl rfl rfl (B_to (y := false) (B_eq Tryz.underlying3 _ _) (beq_eq_false_iff_ne.2 h2))) rfl (P5 31 12 5 0 1 rfl rfl rfl rfl rfl) fun a11 H11 => ?_
        clear H10
        refine h_op H11 rfl (wn rfl) (R_as H11 rfl rfl) rfl (P5 30 12 5 0 1 rfl rfl rfl rfl rfl) fun a12 H12 => ?_
        clear H11
        refine h_end ?_
        repeat (go_not_at_region 9; go_step)
        refine wp_cond_false (H12.ev (x := .tmp 30) rfl) ?_
        repeat (go_not_at_region 9; go_step)
        refine wp_region_lit ?_
        refine h_op H12 rfl (wn rfl) (R_as H12 rfl rfl) rfl (P1 6 rfl) fun a13 H13 => ?_
        clear H12
        refine h_op H13 rfl (wn rfl) (R_as H13 rfl rfl) rfl (P2 7 6 rfl rfl) fun a14 H14 => ?_
        clear H13
        refine h_op H14 rfl (wn rfl) (R_as H14 rfl rfl) rfl (P3 8 7 6 rfl rfl rfl) fun a15 H15 => ?_
        clear H14
        refine h_end ?_
        replace hL := hL.tail
        repeat (go_not_at_region 999; go_step)
        refine H15.retT rfl rfl rfl rfl ?_
        rw [hz]
        exact ⟨rfl, hL⟩
end
end Go.Proofs.YthkeiclhllikjaaGreat
