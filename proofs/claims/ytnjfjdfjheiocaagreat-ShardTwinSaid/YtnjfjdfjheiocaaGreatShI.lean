/-
  A map of windows is gone through; a row of windows is sorted.
-/
import Derived.Test.YtnjfjdfjheiocaaGreatShH
import Derived.Shelf.SlSortCmp.NoneTotal
import Derived.OwnWalk
set_option linter.unusedSimpArgs false
set_option linter.unusedVariables false
namespace Go.Proofs.YtnjfjdfjheiocaaGreat
open Go.RowKit Go.Sort
section
variable {P : Program} {a : Act} {w w' : World} {n : Nat} {m : List (Nat × Value)} {o : Oper} {v : Value} {x : Operand} {vx : Value}
theorem R_rg {t : TypeId} (H : Fr a n m) (ho : o.op = .range t x) (hx : ev1 m x = some vx) (hl : (Instr.range t vx).run P w = .ok v w') : (execOp a.eval o).run P w = .ok (.value v) w' := by
  unfold execOp; rw [ho]; simp only [H.ev hx]; exact fr_v hl
theorem R_nx {b : Bool} (H : Fr a n m) (ho : o.op = .next x b) (hx : ev1 m x = some vx) (hl : (Instr.next vx b o.type).run P w = .ok v w') : (execOp a.eval o).run P w = .ok (.value v) w' := by
  unfold execOp; rw [ho]; simp only [H.ev hx]; exact fr_v hl
theorem R_en (H : Fr a n m) (ho : o.op = .entry x) (hx : ev1 m x = some vx) (hl : (Instr.entry vx).run P w = .ok v w') : (execOp a.eval o).run P w = .ok (.value v) w' := by
  unfold execOp; rw [ho]; simp only [H.ev hx]; exact fr_v hl
end
section
variable {w w0 W : World} {L : List Thg} {M Z : Wins} {b r cnt : Nat} {mo it : Obj}
theorem LV.shape {p p' : Thg} (h : LV w0 (p :: L) W) (he : p'.1 = p.1) (ho : p'.ok W) : LV w0 (p' :: L) W :=
  h.tail.cons (by rw [he]; exact h.ge) (fun q hq => by rw [he]; exact h.ne q hq) ho
theorem rng_of {n : Nat} {D : DataW Value} {left : Lit → Bool} (h : W.ranges Tryz.prog 162 heldE b r n D left cnt) : ∃ mo it, W.heap[b]? = some mo ∧ W.heap[r]? = some it ∧ ∀ w : World, w.heap[b]? = some mo → w.heap[r]? = some it → w.ranges Tryz.prog 162 heldE b r n D left cnt := by
  obtain ⟨es, clock, since, seen, c0, hb, F, hs, hD, hr, rest⟩ := h
  exact ⟨_, _, hb, hr, fun w h1 h2 => ⟨es, clock, since, seen, c0, h1, F, hs, hD, h2, rest⟩⟩
/-- What has come is Z; as much is to come. -/
def Rng (M : Wins) (b r : Nat) (mo it : Obj) (Z : Wins) (cnt : Nat) : Prop :=
  ∃ D left, WD D M ∧ (∀ w : World, w.heap[b]? = some mo → w.heap[r]? = some it → w.ranges Tryz.prog 162 heldE b r M.length D left cnt) ∧ (∀ x, left x = true → ∃ p ∈ M, winLit p.1 = x) ∧ (∀ p ∈ M, left (winLit p.1) = true ↔ p ∉ Z) ∧ Z.Nodup ∧ ∀ p ∈ Z, p ∈ M
theorem WD.has_in {D : DataW Value} (h : WD D M) {x : Lit} (hx : Maps.has D x = true) : ∃ p ∈ M, winLit p.1 = x := by
  obtain ⟨⟨es, rfl, hp⟩, _, _⟩ := h
  obtain ⟨e, he, hs⟩ := List.any_eq_true.1 (show es.any (fun p => p.1.sameKey x) = true from hx)
  obtain ⟨p, hpm, rfl⟩ := List.mem_map.1 (hp.mem_iff.1 he)
  exact ⟨p, hpm, WideAt.sameKey_eq hs⟩
theorem rng_start (h : LV w0 (mw b M :: L) W) : ∃ W' mo it cnt, (Instr.range 149 (.map (some b))).run Tryz.prog W = .ok (.pointer (some ⟨W.heap.size, 0, none⟩)) W' ∧ LV w0 (ob W.heap.size it :: ob b mo :: L) W' ∧ Rng M b W.heap.size mo it [] cnt := by
  obtain ⟨D, hD, hm⟩ := h.mem_win (M := M) List.mem_cons_self
  obtain ⟨W', hrun, hr, hg, hs⟩ := World.ownsMap.range hm winKeyed Tryz.underlying149
  obtain ⟨mo, it, h1, h2, h3⟩ := rng_of hr
  have h4 := h.call (show Below W.heap.size W W' from ⟨hg.os, hg.tape, hg.output, hg.size, fun k hk => hg.block k hk (by simp)⟩)
  refine ⟨W', mo, it, _, hrun, (h4.shape (p' := ob b mo) rfl h1).cons (p := ob W.heap.size it) h.1.size (fun q hq => ?_) h2, D, _, hD, h3, fun x hx => hD.has_in hx, fun p hp => ?_, List.nodup_nil, fun p hp => by cases hp⟩
  · rcases List.mem_cons.1 hq with rfl | hq
    · exact h.ne_new (mw b M) List.mem_cons_self
    · exact h.ne_new q (List.mem_cons_of_mem _ hq)
  · rw [hD.has (hD.ok p hp), lookW_of hD.rise.nodup (k := p.1) (a := p.2) hp]
    simp
theorem rng_next (h : LV w0 (ob r it :: ob b mo :: L) W) (hr : Rng M b r mo it Z cnt) (ty : TypeId) :
    (cnt = 0 ∧ Z.Perm M ∧ (Instr.next (.pointer (some ⟨r, 0, none⟩)) false ty).run Tryz.prog W = .ok (.tuple #[.bool false]) W) ∨
    ∃ p W' it' cnt', p ∈ M ∧ p ∉ Z ∧ (Instr.next (.pointer (some ⟨r, 0, none⟩)) false ty).run Tryz.prog W = .ok (.tuple #[.bool true, winV p.1, .agg p.2.arr]) W' ∧ LV w0 (ob r it' :: ob b mo :: L) W' ∧ Rng M b r mo it' (Z ++ [p]) cnt' ∧ cnt' < cnt ∧
      (Instr.entry (.pointer (some ⟨r, 0, none⟩))).run Tryz.prog W' = .ok (.tuple #[winV p.1, .agg p.2.arr]) W' := by
  obtain ⟨D, left, hD, hrg, hl1, hl2, hnd, hsub⟩ := hr
  have hrW := hrg W (h.2.2 (ob b mo) (by simp)).2 (h.2.2 (ob r it) (by simp)).2
  rcases hrW.next winKeyed ty with ⟨h0, hl, hrun⟩ | ⟨key, v, kl, y, W', cnt', hkey, hlk, hv, hat, hrun, hr2, hlt, hg, hs, hen⟩
  · refine .inl ⟨h0, ?_, hrun⟩
    refine (List.perm_ext_iff_of_nodup hnd ?_).2 fun p => ⟨hsub p, fun hp => ?_⟩
    · exact hD.rise.imp fun {p q} hlt e => by
          rw [e, winLt_irrefl] at hlt
          cases hlt
    · by_cases hz : p ∈ Z
      · exact hz
      · have := (hl2 p hp).2 hz
        rw [hl] at this
        cases this
  · obtain ⟨p, hp, rfl⟩ := hl1 kl hlk
    have hk := hD.ok p hp
    have ek : key = winV p.1 := winKeyed.inj hkey (winKey hk)
    subst ek
    have ev : v = .agg p.2.arr := by
      have h1 := hat (.held v)
      rw [hD.at_ hk, lookW_of hD.rise.nodup (k := p.1) (a := p.2) hp] at h1
      cases hv
      simpa using h1.symm
    subst ev
    obtain ⟨mo', it', h1, h2, h3⟩ := rng_of hr2
    have h4 : LV w0 (ob r it' :: ob b mo :: L) W' := h.turned hg rfl h2
    have hmo : mo' = mo := by
      have h5 : W'.heap[b]? = some mo := (h4.2.2 (ob b mo) (by simp)).2
      rw [h1] at h5
      exact Option.some.inj h5
    subst hmo
    have hpZ := (hl2 p hp).1 hlk
    refine .inr ⟨p, W', it', cnt', hp, hpZ, hrun, h4, ⟨D, _, hD, h3, fun x hx => hl1 x (by simp only [Bool.and_eq_true] at hx; exact hx.1), fun q hq => ?_, ?_, fun q hq => ?_⟩, hlt, hen⟩
    · rw [same_win (hD.ok q hq) hk, Bool.and_eq_true, hl2 q hq, Bool.not_eq_true', decide_eq_false_iff_not, List.mem_append, List.mem_singleton]
      constructor
      · rintro ⟨h5, h6⟩ (h7 | rfl)
        · exact h5 h7
        · exact h6 rfl
      · intro h5
        refine ⟨fun h6 => h5 (.inl h6), fun h6 => h5 (.inr ?_)⟩
        have e1 := lookW_of hD.rise.nodup (k := q.1) (a := q.2) hq
        have e2 := lookW_of hD.rise.nodup (k := p.1) (a := p.2) hp
        rw [h6, e2] at e1
        exact Prod.ext h6 (Option.some.inj e1).symm
    · exact List.nodup_append.2 ⟨hnd, by simp, fun x hx y hy => by rcases List.mem_singleton.1 hy with rfl; rintro rfl; exact hpZ hx⟩
    · rcases List.mem_append.1 hq with hq | hq
      · exact hsub q hq
      · rcases List.mem_singleton.1 hq with rfl
        exact hp
theorem rng_end (h : LV w0 (ob r it :: ob b mo :: L) W) (hr : Rng M b r mo it Z cnt) : LV w0 (mw b M :: L) W := by
  obtain ⟨D, left, hD, hrg, _⟩ := hr
  have hrW := hrg W (h.2.2 (ob b mo) (by simp)).2 (h.2.2 (ob r it) (by simp)).2
  exact h.tail.shape (p' := mw b M) rfl ⟨D, hD, hrW.owns⟩
end
/-! Rows of windows. -/
def outF (Z : Wins) : List Value := Z.flatMap outE
theorem outE_len (p : Win × A8) : (outE p).length = 10 := rfl
theorem outF_len (Z : Wins) : (outF Z).length = Z.length * 10 := by
  unfold outF
  induction Z with
  | nil => rfl
  | cons p r ih =>
    rw [List.flatMap_cons, List.length_append, ih, outE_len, List.length_cons]
    omega
theorem outF_app (Z : Wins) (p : Win × A8) : outF (Z ++ [p]) = outF Z ++ outE p := by
  unfold outF
  simp
theorem outF_get : ∀ (Z : Wins) (t : Nat), (outF Z)[t]? = (Z[t / 10]?).bind fun p => (outE p)[t % 10]?
  | [], t => by simp [outF]
  | p :: r, t => by
    have e : outF (p :: r) = outE p ++ outF r := rfl
    rw [e]
    by_cases h : t < 10
    · rw [List.getElem?_append_left (by rw [outE_len]; exact h), Nat.div_eq_of_lt h, Nat.mod_eq_of_lt h]
      rfl
    · rw [List.getElem?_append_right (by rw [outE_len]; omega), outE_len, outF_get r (t - 10)]
      have e1 : t / 10 = (t - 10) / 10 + 1 := by omega
      have e2 : t % 10 = (t - 10) % 10 := by omega
      rw [e1, e2, List.getElem?_cons_succ]
instance : Inhabited A8 := ⟨A8.zero⟩
theorem flat_out (d : Array (Win × A8)) {t : Nat} (h : t < d.size * 10) : (flatK outE 10 d)[t]? = (outF d.toList)[t]? := by
  rw [outF_get]
  have h1 : t / 10 < d.size := by omega
  have e1 : (flatK outE 10 d)[t]? = some ((flatK outE 10 d)[t]!) := by
    rw [getElem!_pos _ t (by rw [size_flatK]; exact h), Array.getElem?_eq_getElem (by rw [size_flatK]; exact h)]
  rw [e1, get_flatK _ _ _ _ h, Array.getElem?_toList, Array.getElem?_eq_getElem h1]
  have h2 : t % 10 < (outE d[t / 10]).length := by rw [outE_len]; omega
  simp only [Option.bind_some]
  rw [getElem!_pos d _ h1, getElem!_pos (outE d[t / 10]) (t % 10) h2, List.getElem?_eq_getElem h2]
theorem swoO : SWO (ltOf cmpO) where
  irrefl x := by rw [cmpO_lt]; exact winLt_irrefl _
  trans x y z h1 h2 := by
    rw [cmpO_lt] at *
    exact winLt_trans h1 h2
  ntrans x y z h1 h2 := by
    rw [cmpO_lt] at *
    cases h3 : winLt x.1 z.1 with
    | false => rfl
    | true =>
      by_cases e : x.1 = y.1
      · rw [e, h2] at h3
        cases h3
      · rcases winLt_total e with h4 | h4
        · rw [h4] at h1
          cases h1
        · rw [winLt_trans h4 h3] at h2
          cases h2
section
variable {w0 W : World} {L X : List Thg} {M Z : Wins} {v : Value} {g : Nat} {cur : Array Value}
theorem holds_out {e : TypeId} (hb : W.heap[g]? = some (.cells cur e (0, 0))) (ht : cur.toList.take (Z.length * 10) = outF Z) : HoldsK outE 10 W g 0 Z.toArray := by
  intro j hj
  have hj' : j < Z.toArray.size * 10 := by simpa using hj
  refine ⟨?_, by simp [World.frozen?, hb]⟩
  have h1 : (cur.toList.take (Z.length * 10))[j]? = (outF Z)[j]? := by rw [ht]
  rw [List.getElem?_take_of_lt (by simpa using hj')] at h1
  rw [Nat.zero_add, cells_at hb j, ← Array.getElem?_toList, h1]
  have h2 := flat_out Z.toArray hj'
  rw [show (Z.toArray).toList = Z from rfl] at h2
  rw [← h2, getElem!_pos _ j hj, Array.getElem?_eq_getElem hj]
  rfl
theorem lays_out {n : Nat} {blk off : Nat} {w : World} : CmpLays Tryz.prog 107 #[] outE 10 cmpO blk off n w :=
  fun _ _ _ _ x y => all1_any
theorem sorted_is {d : Array (Win × A8)} (hp : PermIn 0 Z.toArray.size Z.toArray d) (hs : SortedIn (ltOf cmpO) 0 Z.toArray.size d) (hz : Z.Perm M) (hM : Rise M) : d.toList = M := by
  obtain ⟨h1, _, h2⟩ := hp
  have hsz : d.size = Z.length := by simpa using h1
  have h3 : d.toList.Perm Z := by
    have e1 : d.extract 0 Z.toArray.size = d := by rw [← h1]; exact Array.extract_size
    have e2 : Z.toArray.extract 0 Z.toArray.size = Z.toArray := Array.extract_size
    rw [e1, e2] at h2
    exact h2
  have h4 := h3.trans hz
  refine Rise.eq ?_ hM h4
  have hnd : (d.toList.map (·.1)).Nodup := (h4.map _).nodup_iff.2 hM.nodup
  refine List.pairwise_iff_getElem.2 fun i j hi hj hij => ?_
  have hi' : i < d.size := by simpa using hi
  have hj' : j < d.size := by simpa using hj
  have h5 := hs i j (Nat.zero_le _) hij (by rw [← h1]; exact hj')
  rw [cmpO_lt, getElem!_pos d i hi', getElem!_pos d j hj'] at h5
  have hne : (d.toList[i]).1 ≠ (d.toList[j]).1 := by
    intro e
    have h6 := (List.getElem_inj (xs := d.toList.map (·.1)) (i := i) (j := j) (h₀ := by simpa using hi) (h₁ := by simpa using hj) hnd).1 (by simpa using e)
    omega
  rcases winLt_total hne with h6 | h6
  · exact h6
  · rw [Array.getElem_toList, Array.getElem_toList, h5] at h6
    cases h6
theorem sorto_any (hr : PRow 57 10 v Z.length (outF Z) X) (hL : LV w0 (X ++ L) W) (hz : Z.Perm M) (hM : Rise M) (hl : Z.length ≤ 1000000) :
    Calls Tryz.prog 106 #[v, .func (.func 107) #[] #[]] W fun e W' => e = .returned (.tuple #[]) ∧ ∃ X', PRow 57 10 v M.length (outF M) X' ∧ LV w0 (X' ++ L) W' := by
  have hlen := hz.length_eq
  rcases hr.2 with ⟨rfl, h0, rfl⟩ | ⟨g, cap, cur, rfl, rfl, h1, h2, h3, h4⟩
  · refine Calls.mono (AnyF.slices_SortFunc_none Tryz.sortO none 0 (.func (.func 107) #[] #[]) W) ?_
    rintro e W' ⟨rfl, rfl⟩
    have hM0 : M = [] := List.length_eq_zero_iff.1 (by omega)
    subst hM0
    exact ⟨rfl, [], PRow.nil, hL⟩
  · have hL' : LV w0 (bk g cur 57 :: L) W := hL
    have hcon := AnyQ.slices_SortFunc Tryz.sortO 10 Tryz.isAgg57 Tryz.sizeOf57 outE outE_len (fun x u hu => by simp only [outE, List.mem_cons, List.not_mem_nil, or_false] at hu; rcases hu with rfl | rfl | rfl | rfl | rfl | rfl | rfl | rfl | rfl | rfl <;> rfl) cmpO swoO 107 #[] g 0 cap Z.toArray W
      (enters_of Tryz.func107 (by kernel_rfl) rfl) lays_out (holds_out hL'.at_ h4) (blk_lt hL'.at_) (by simp only [List.size_toArray]; omega)
    have e0 : Z.toArray.size = Z.length := rfl
    rw [e0] at hcon
    refine Calls.mono hcon ?_
    rintro e W' ⟨rfl, d, n, os, hp, hs, rfl⟩
    have hd := sorted_is hp hs hz hM
    have hds : d.size = M.length := by rw [← hd]; simp
    have hg1 : g < W.heap.size := blk_lt hL'.at_
    have hblk : (sortWorldK outE 10 W g 0 n d os).heap[g]? = some (.cells (putCells id 0 (flatK outE 10 d) cur) 57 (0, 0)) := by
      unfold sortWorldK putRowK
      rw [heap_grow_old _ _ (by simpa using hg1)]
      simp [putRow, mapBlock, Sort.ahead, Array.getElem?_modify, hL'.at_, onCells]
    have hgr : W.grownBy (sortWorldK outE 10 W g 0 n d os) (some g) := by
      refine ⟨rfl, rfl, rfl, by simp [sortWorldK, putRowK], fun k hk hne => ?_⟩
      unfold sortWorldK putRowK
      rw [heap_grow_old _ _ (by simpa using hk)]
      have : g ≠ k := fun e => hne (by rw [e])
      simp [putRow, mapBlock, Sort.ahead, Array.getElem?_modify, this]
    refine ⟨rfl, [bk g (putCells id 0 (flatK outE 10 d) cur) 57], ⟨outF_len M, .inr ⟨g, cap, _, by rw [hlen], rfl, by omega, h2, by simp [putCells, h3], ?_⟩⟩, hL'.turned hgr rfl hblk⟩
    apply List.ext_getElem?
    intro j
    by_cases hj : j < M.length * 10
    · rw [List.getElem?_take_of_lt hj, Array.getElem?_toList]
      have hjd : j < d.size * 10 := by rw [hds]; exact hj
      have hjc : j < cur.size := by rw [h3]; omega
      have e3 := flat_out d hjd
      rw [hd] at e3
      rw [← e3]
      have hjf : j < (flatK outE 10 d).size := by rw [size_flatK]; exact hjd
      rw [Array.getElem?_eq_getElem hjf]
      unfold putCells
      rw [Array.getElem?_mapIdx, Array.getElem?_eq_getElem hjc]
      simp only [Option.map_some, Nat.zero_le, Nat.zero_add, true_and, hjf, if_true, Nat.sub_zero, id]
      rw [getElem!_pos _ j hjf]
    · rw [List.getElem?_take_eq_none (by omega), List.getElem?_eq_none (by rw [outF_len]; omega)]
end
end Go.Proofs.YtnjfjdfjheiocaaGreat
