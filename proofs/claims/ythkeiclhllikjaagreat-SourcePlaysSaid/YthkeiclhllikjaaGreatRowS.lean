/-
  Parameters that are rows of structs, opened: items; small numbers.
-/
import Derived.Test.YthkeiclhllikjaaGreatSvP
import Derived.Test.YthkeiclhllikjaaGreatRowM
import Derived.Deep.Slices
set_option linter.unusedSimpArgs false
set_option linter.unusedVariables false
namespace Go.Proofs.YthkeiclhllikjaaGreat
open Go.ChangeShapes Go.WideShapes Go.ChangeAt Go.RowKit Go.Joins
def RdC (W : World) (K : Nat) (v : Value) (rows : List (Array Value)) : Prop :=
 (v = .slice none 0 0 ∧ rows = []) ∨ ∃ a c, v = .slice (some a) rows.length c ∧ ∀ (i : Nat) r, rows[i]? = some r → ∀ (k : Nat) u, r[k]? = some u → W.cell? ((a.add (i * K)).add k) = some u
section
variable {W W' : World} {K : Nat} {v : Value} {rows : List (Array Value)}
theorem RdC.kept (h : RdC W K v rows) (hb : ∀ k, k < W.heap.size → W'.heap[k]? = W.heap[k]?) : RdC W' K v rows := by
 rcases h with h | ⟨a, c, hv, h⟩
 ·exact .inl h
 ·refine .inr ⟨a, c, hv, fun i r hr k u hu => ?_⟩
  have h1 := h i r hr k u hu
  have h2 := cell_some_lt h1
  rw [← h1]
  unfold World.cell?
  rw [hb _ h2]
theorem RdC.slc (h : RdC W K v rows) : ∃ A c, v = .slice A rows.length c := by
 rcases h with ⟨rfl, rfl⟩ | ⟨a, c, rfl, _⟩
 ·exact ⟨_, _, rfl⟩
 ·exact ⟨_, _, rfl⟩
theorem RdC.elem {A : Option Addr} {n c : Nat} (h : RdC W K (.slice A n c) rows) (hn : rows.length = n) {j : Nat} (hj : j < n) : ∃ a, A = some a ∧ ∀ (k : Nat) u, (rows[j]'(by omega))[k]? = some u → W.cell? ((a.add (j * K)).add k) = some u := by
 rcases h with ⟨he, rfl⟩ | ⟨a, c', he, h⟩
 ·cases hn
  cases hj
 ·cases he
  exact ⟨a, rfl, h j _ (List.getElem?_eq_getElem (by omega))⟩
end
section
variable {H : Type} {enc : TypeId × Value → H} {w : World} {base : Nat}
theorem open_rows {α : Type} [Inhabited α] {t e : TypeId} {K : Nat} {f : α → Array Value} {p : α → Prop} (ht : Tryz.prog.underlying t = some (.slice e)) (hc : Tryz.prog.cellsOf e = K)
  (ho : ∀ (n : Nat) (cs : List Value) (y : DataW H × List MemPlace), DataW.trod enc Tryz.prog w base (fun _ => true) true n e cs = some y → ∃ x, cs = (f x).toList ∧ p x)
  {n : Nat} {c : Value} {y : DataW H × List MemPlace} (h : DataW.trod enc Tryz.prog w base (fun _ => true) true n t [c] = some y) : ∃ l : List α, RdC w K c (l.map f) ∧ (∀ x ∈ l, p x) ∧ l.length ≤ maxLen := by
 rcases Deep.open_slice ht h with ⟨hcs, _⟩ | ⟨a, len, cap, m, n2, D, Pl, hcs, _, hl, hm, hmm, _, hx⟩
 ·simp at hcs
  subst hcs
  exact ⟨[], .inl ⟨rfl, rfl⟩, by simp, by simp⟩
 ·simp at hcs
  subst hcs
  simp only [if_true] at hmm
  subst hmm
  rw [hc] at hx
  obtain ⟨X, hX⟩ := Deep.choose_lt (n := len) (p := fun i (x : α) => (∀ (k : Nat) u, (f x)[k]? = some u → w.cell? ((a.add (i * K)).add k) = some u) ∧ p x) (fun i hi => by
   obtain ⟨cs', h1, h2⟩ := hx i (by omega)
   obtain ⟨x, rfl, hp⟩ := ho _ _ _ h2
   obtain ⟨_, hlen, hg⟩ := World.cells?_some h1
   refine ⟨x, fun k u hu => ?_, hp⟩
   have hk : k < K := by
    have := (Array.getElem?_eq_some_iff.1 hu).1
    simp at hlen
    omega
   rw [hg k hk]
   simpa using hu)
  refine ⟨(List.range len).map X, .inr ⟨a, m, by simp, fun i r hr => ?_⟩, fun x hx => ?_, by simp; omega⟩
  ·have hi : i < len := by
    have := (List.getElem?_eq_some_iff.1 hr).1
    simpa using this
   simp [List.getElem?_range, hi] at hr
   subst hr
   exact (hX i hi).1
  ·obtain ⟨i, hi, rfl⟩ := List.mem_map.1 hx
   exact (hX i (by simpa using hi)).2
set_option maxRecDepth 100000 in
theorem open_rowsV {α : Type} [Inhabited α] {t e : TypeId} {K : Nat} {f : α → Array Value} {p : α → Prop} {r : Reach} {b0 : Nat} {v : Value} {d : DataW H} {pl : List MemPlace} (ht : Tryz.prog.underlying t = some (.slice e)) (hc : Tryz.prog.cellsOf e = K)
  (ho : ∀ (n : Nat) (cs : List Value) (y : DataW H × List MemPlace), DataW.trod enc Tryz.prog w base (fun _ => true) true n e cs = some y → ∃ x, cs = (f x).toList ∧ p x)
  (hv : Value.okWide Tryz.prog w r b0 t v) (h : DataW.Trod enc Tryz.prog w base (fun _ => true) true t v d pl) : ∃ l : List α, RdC w K v (l.map f) ∧ (∀ x ∈ l, p x) ∧ l.length ≤ maxLen := by
 obtain ⟨a, len, cap, rfl⟩ := okWide_slice ht hv
 obtain ⟨n, hf⟩ := h
 have e : (Value.cells (.slice a len cap)).toList = [.slice a len cap] := rfl
 rw [e] at hf
 exact open_rows ht hc ho hf
instance : Inhabited PItem := ⟨itZ⟩
structure PItem.OkN (x : PItem) : Prop where
 kind : x.kind < 256
 at0 : -9223372036854775808 ≤ x.at_
 at1 : x.at_ < 9223372036854775808
 n0 : -9223372036854775808 ≤ x.n
 n1 : x.n < 9223372036854775808
 key : x.key.size ≤ maxLen
theorem PItem.OkN.ok {x : PItem} (h : x.OkN) (hk : x.key.size ≤ 3000) : x.Ok := ⟨h.kind, by omega, h.at0, h.at1, h.n0, h.n1⟩
theorem cs24i : Tryz.prog.cellsOf 33 = 8 := by kernel_rfl
set_option maxRecDepth 100000 in
theorem array8 {α : Type} {cs : Array α} (h : cs.size = 8) : ∃ c0 c1 c2 c3 c4 c5 c6 c7, cs = #[c0, c1, c2, c3, c4, c5, c6, c7] := by
 obtain ⟨l⟩ := cs
 match l, h with
 | [c0, c1, c2, c3, c4, c5, c6, c7], _ => exact ⟨_, _, _, _, _, _, _, _, rfl⟩
set_option maxHeartbeats 4000000 in
set_option maxRecDepth 100000 in
theorem open_itemC {n : Nat} {cs : List Value} {y : DataW H × List MemPlace} (h : DataW.trod enc Tryz.prog w base (fun _ => true) true n 33 cs = some y) : ∃ x : PItem, cs = (itC x).toList ∧ x.OkN := by
 obtain ⟨is, n2, _, hx2, hcl, hlen2, hi⟩ := DataW.trod_struct Tryz.underlying33 h
 obtain ⟨c0, c1, c2, c3, c4, c5, c6, c7, hce⟩ := array8 (cs := cs.toArray) (by simpa using hcl.trans cs24i)
 obtain rfl : cs = [c0, c1, c2, c3, c4, c5, c6, c7] := congrArg Array.toList hce
 match is, hlen2 with
 | [z0, z1, z2, z3, z4, z5, z6, z7], _ =>
  have i0 := hi 0 _ rfl
  have i1 := hi 1 _ rfl
  have i2 := hi 2 _ rfl
  have i3 := hi 3 _ rfl
  have i4 := hi 4 _ rfl
  have i5 := hi 5 _ rfl
  have i6 := hi 6 _ rfl
  have i7 := hi 7 _ rfl
  simp [cs3, cs5, cs22, cs2, cs9] at i0 i1 i2 i3 i4 i5 i6 i7
  obtain ⟨x9, rfl, wx9⟩ := one_int Tryz.underlying3 i0
  obtain ⟨x10, rfl, wx10⟩ := one_int Tryz.underlying3 i1
  obtain ⟨x11, rfl, wx11⟩ := one_int Tryz.underlying3 i2
  obtain ⟨x12, rfl, wx12⟩ := one_int Tryz.underlying5 i3
  obtain ⟨x14, rfl, wx14⟩ := one_int Tryz.underlying3 i5
  obtain ⟨x15, rfl, wx15⟩ := one_int Tryz.underlying2 i6
  obtain ⟨x16, rfl, wx16⟩ := one_int Tryz.underlying2 i7
  obtain ⟨s13, rfl, w13⟩ := one_str i4
  obtain ⟨a12, b12⟩ := wf_u8 wx12
  obtain ⟨a15, b15⟩ := wf_i64 wx15
  obtain ⟨a16, b16⟩ := wf_i64 wx16
  obtain ⟨n12, rfl⟩ : ∃ n : Nat, x12 = n := ⟨x12.toNat, by omega⟩
  exact ⟨⟨x9, x10, x11, n12, s13, x14, x15, x16⟩, rfl, ⟨by show n12 < 256; omega, a15, b15, a16, b16, w13⟩⟩
end
section
variable {w : World} {a : Addr} {x : PItem} {n c j : Nat}
theorem ld_itA (h : ∀ (k : Nat) u, (itC x)[k]? = some u → w.cell? (a.add k) = some u) : (Instr.loadAt 33 (.pointer (some a))).run Tryz.prog w = .ok (.agg (itC x)) w := by
 have h0 := h 0 _ rfl
 have h1 := h 1 _ rfl
 have h2 := h 2 _ rfl
 have h3 := h 3 _ rfl
 have h4 := h 4 _ rfl
 have h5 := h 5 _ rfl
 have h6 := h 6 _ rfl
 have h7 := h 7 _ rfl
 simp [Addr.add] at h0 h1 h2 h3 h4 h5 h6 h7
 simp [go_sem, h0, h1, h2, h3, h4, h5, h6, h7]
theorem fi_itA {i : Nat} (hi : i < 8) : (Instr.fieldAt 33 (.pointer (some a)) i).run Tryz.prog w = .ok (.pointer (some (a.add i))) w := by
 rcases i with _ | _ | _ | _ | _ | _ | _ | _ | i
 all_goals first | (exfalso; omega) | simp [go_sem]
theorem ld_strA {s : ByteArray} (h : w.cell? a = some (.string s)) : (Instr.loadAt 9 (.pointer (some a))).run Tryz.prog w = .ok (.string s) w := by simp [go_sem, h]
end
end Go.Proofs.YthkeiclhllikjaaGreat
/-
 Acts: a row of them, opened; what is read of one.
-/
namespace Go.Proofs.YthkeiclhllikjaaGreat
open Go.ChangeShapes Go.WideShapes Go.ChangeAt Go.RowKit Go.Joins
structure PAct where
 do_ : Int
 item : PItem
 msg : PMsg
 vo : Value
 vs : Value
 of_ : Int
 code : Int
instance : Inhabited PAct := ⟨⟨0, itZ, PMsg.zero, .slice none 0 0, .slice none 0 0, 0, 0⟩⟩
def actC (x : PAct) : Array Value :=
 #[.int .i64 x.do_, .int .i64 x.item.src, .int .i64 x.item.seq, .int .i64 x.item.low, .int .u8 (x.item.kind : Nat), .string x.item.key, .int .i64 x.item.part, .int .i64 x.item.at_, .int .i64 x.item.n, .int .u8 x.msg.kind, .int .i64 x.msg.move, .int .i64 x.msg.part, .int .i64 x.msg.to, .int .i64 x.msg.n, .int .i64 x.msg.count, .int .i64 x.msg.code, .int .u64 x.msg.digest, .int .i64 x.msg.at_, .int .i64 x.msg.isrc, .int .i64 x.msg.iseq, .int .i64 x.msg.ilow, .int .u8 x.msg.ikind, .string x.msg.ikey, .int .i64 x.msg.ipart, .int .i64 x.msg.iat, .int .i64 x.msg.iN, .int .i64 x.msg.epoch, .int .i64 x.msg.nodes, x.vo, x.vs, .string x.msg.data, .int .i64 x.of_, .int .i64 x.code]
structure PAct.OkA (x : PAct) (w : World) : Prop where
 item : x.item.OkN
 msg : x.msg.FitsN
 vo : Rd w x.vo x.msg.owner
 vs : Rd w x.vs x.msg.set
section
variable {H : Type} {enc : TypeId × Value → H} {w : World} {base : Nat}
theorem csAct : Tryz.prog.cellsOf 50 = 33 := by kernel_rfl
theorem csMsg : Tryz.prog.cellsOf 37 = 22 := by kernel_rfl
set_option maxRecDepth 100000 in
theorem array33 {α : Type} {cs : Array α} (h : cs.size = 33) : ∃ c0 c1 c2 c3 c4 c5 c6 c7 c8 c9 c10 c11 c12 c13 c14 c15 c16 c17 c18 c19 c20 c21 c22 c23 c24 c25 c26 c27 c28 c29 c30 c31 c32, cs = #[c0, c1, c2, c3, c4, c5, c6, c7, c8, c9, c10, c11, c12, c13, c14, c15, c16, c17, c18, c19, c20, c21, c22, c23, c24, c25, c26, c27, c28, c29, c30, c31, c32] := by
 obtain ⟨l⟩ := cs
 match l, h with
 | c0 :: c1 :: c2 :: c3 :: c4 :: c5 :: c6 :: c7 :: c8 :: c9 :: c10 :: c11 :: c12 :: c13 :: c14 :: c15 :: c16 :: c17 :: c18 :: c19 :: c20 :: c21 :: c22 :: c23 :: c24 :: c25 :: c26 :: c27 :: c28 :: c29 :: c30 :: c31 :: c32 :: [], _ => exact ⟨_, _, _, _, _, _, _, _, _, _, _, _, _, _, _, _, _, _, _, _, _, _, _, _, _, _, _, _, _, _, _, _, _, rfl⟩
set_option maxHeartbeats 4000000 in
set_option maxRecDepth 100000 in
theorem open_actC {n : Nat} {cs : List Value} {y : DataW H × List MemPlace} (h : DataW.trod enc Tryz.prog w base (fun _ => true) true n 50 cs = some y) : ∃ x : PAct, cs = (actC x).toList ∧ x.OkA w := by
 obtain ⟨is, n2, _, hx2, hcl, hlen2, hi⟩ := DataW.trod_struct Tryz.underlying50 h
 obtain ⟨c0, c1, c2, c3, c4, c5, c6, c7, c8, c9, c10, c11, c12, c13, c14, c15, c16, c17, c18, c19, c20, c21, c22, c23, c24, c25, c26, c27, c28, c29, c30, c31, c32, hce⟩ := array33 (cs := cs.toArray) (by simpa using hcl.trans csAct)
 obtain rfl : cs = [c0, c1, c2, c3, c4, c5, c6, c7, c8, c9, c10, c11, c12, c13, c14, c15, c16, c17, c18, c19, c20, c21, c22, c23, c24, c25, c26, c27, c28, c29, c30, c31, c32] := congrArg Array.toList hce
 match is, hlen2 with
 | [z0, z1, z2, z3, z4], _ =>
  have i0 := hi 0 _ rfl
  have i1 := hi 1 _ rfl
  have i2 := hi 2 _ rfl
  have i3 := hi 3 _ rfl
  have i4 := hi 4 _ rfl
  simp [cs3, cs24i, csMsg] at i0 i1 i2 i3 i4
  obtain ⟨x0, rfl, wx0⟩ := one_int Tryz.underlying3 i0
  obtain ⟨x3, rfl, wx3⟩ := one_int Tryz.underlying3 i3
  obtain ⟨x4, rfl, wx4⟩ := one_int Tryz.underlying3 i4
  obtain ⟨x, hx, okx⟩ := open_itemC i1
  obtain ⟨m, vo, vs, hm, okm, ro, rs⟩ := open_msgC i2
  simp only [List.cons.injEq, and_true, mcells] at hx hm
  obtain ⟨rfl, rfl, rfl, rfl, rfl, rfl, rfl, rfl⟩ := hx
  obtain ⟨rfl, rfl, rfl, rfl, rfl, rfl, rfl, rfl, rfl, rfl, rfl, rfl, rfl, rfl, rfl, rfl, rfl, rfl, rfl, rfl, rfl, rfl⟩ := hm
  exact ⟨⟨x0, x, m, _, _, x3, x4⟩, rfl, ⟨okx, okm, ro, rs⟩⟩
end
section
variable {w : World} {a : Addr} {x : PAct} {m : PMsg} {vo vs : Value} {n c j : Nat} {g off : Nat}
theorem ix_actA (h : j < n) : (Instr.indexAt 46 (.slice (some a) n c) (.int .i64 (j : Nat))).run Tryz.prog w = .ok (.pointer (some (a.add (j * 33)))) w := by
 simp [go_sem, h]
theorem fa_act1 : (Instr.fieldAt 50 (.pointer (some a)) 1).run Tryz.prog w = .ok (.pointer (some (a.add 1))) w := by simp [go_sem]
theorem fa_act2 : (Instr.fieldAt 50 (.pointer (some a)) 2).run Tryz.prog w = .ok (.pointer (some (a.add 9))) w := by simp [go_sem]
theorem fa_box0 : (Instr.fieldAt 50 (.pointer (some ⟨g, 0, none⟩)) 0).run Tryz.prog w = .ok (.pointer (some ⟨g, 0, none⟩)) w := by simp [go_sem]
theorem fa_box1 : (Instr.fieldAt 50 (.pointer (some ⟨g, 0, none⟩)) 1).run Tryz.prog w = .ok (.pointer (some ⟨g, 1, none⟩)) w := by simp [go_sem]
theorem fa_box2 : (Instr.fieldAt 50 (.pointer (some ⟨g, 0, none⟩)) 2).run Tryz.prog w = .ok (.pointer (some ⟨g, 9, none⟩)) w := by simp [go_sem]
theorem fa_box3 : (Instr.fieldAt 50 (.pointer (some ⟨g, 0, none⟩)) 3).run Tryz.prog w = .ok (.pointer (some ⟨g, 31, none⟩)) w := by simp [go_sem]
theorem fa_box4 : (Instr.fieldAt 50 (.pointer (some ⟨g, 0, none⟩)) 4).run Tryz.prog w = .ok (.pointer (some ⟨g, 32, none⟩)) w := by simp [go_sem]
theorem ld_rowA {t : TypeId} {d : TypeDesc} {cs : Array Value} (hc : ∀ (k : Nat) u, cs[k]? = some u → w.cell? (a.add k) = some u) (hu : Tryz.prog.underlying t = some d) (hd : d.isRow = true) (hi : (Tryz.prog.info? t).map (·.size) = some cs.size) : (Instr.loadAt t (.pointer (some a))).run Tryz.prog w = .ok (.agg cs) w := by
 have hl : (loadCells a cs.size).run Tryz.prog w = .ok cs w :=
  run_loadCells_list (P := Tryz.prog) w a cs.toList (fun j v hv => hc j v (by simpa using hv))
 cases hq : Tryz.prog.info? t with
 | none => simp [hq] at hi
 | some i =>
  have hs : i.size = cs.size := by simpa [hq] using hi
  have hagg : (isAgg t).run Tryz.prog w = .ok true w := by
   unfold isAgg
   rw [Sem.run_bind, run_underlying hu w]
   cases d <;> simp_all
  have h2 : (loadVar t a).run Tryz.prog w = .ok (.agg cs) w := by
   simp [loadVar, Sem.run_bind, hagg, sizeOf, typeInfo, hq, hs, hl]
  simp only [Instr.loadAt, Instr.sureAddr, Sem.run_bind, Sem.run_pure, Result.andThen_ok, h2]
theorem infoAct : (Tryz.prog.info? 50).map (·.size) = some 33 := by kernel_rfl
theorem infoMg : (Tryz.prog.info? 37).map (·.size) = some 22 := by kernel_rfl
theorem ld_msgA (h : ∀ (k : Nat) u, (mcells m vo vs)[k]? = some u → w.cell? (a.add k) = some u) : (Instr.loadAt 37 (.pointer (some a))).run Tryz.prog w = .ok (.agg (mcells m vo vs)) w :=
 ld_rowA h Tryz.underlying37 rfl infoMg
theorem ld_actA (h : ∀ (k : Nat) u, (actC x)[k]? = some u → w.cell? (a.add k) = some u) : (Instr.loadAt 50 (.pointer (some a))).run Tryz.prog w = .ok (.agg (actC x)) w :=
 ld_rowA h Tryz.underlying50 rfl infoAct
theorem box_cells {A : Array Value} {t : TypeId} (h : w.heap[g]? = some (.cells A t (0, 0))) (k : Nat) : w.cell? ((⟨g, off, none⟩ : Addr).add k) = A[off + k]? := by
 rw [show (⟨g, off, none⟩ : Addr).add k = ⟨g, off + k, none⟩ from by unfold Addr.add; by_cases hk : k = 0 <;> simp [hk]]
 exact cells_at h _
theorem ld_boxI (h : w.heap[g]? = some (.cells (actC x) 50 (0, 0))) : (Instr.loadAt 33 (.pointer (some ⟨g, 1, none⟩))).run Tryz.prog w = .ok (.agg (itC x.item)) w := ld_itA fun k u hu => by
 rw [box_cells h k, ← hu]
 rcases k with _ | _ | _ | _ | _ | _ | _ | _ | k
 all_goals first | rfl | simp at hu
set_option maxRecDepth 100000 in
theorem ld_boxM (h : w.heap[g]? = some (.cells (actC x) 50 (0, 0))) : (Instr.loadAt 37 (.pointer (some ⟨g, 9, none⟩))).run Tryz.prog w = .ok (.agg (mcells x.msg x.vo x.vs)) w := ld_msgA fun k u hu => by
 rw [box_cells h k, ← hu]
 have hk : k < 22 := by
  have := (Array.getElem?_eq_some_iff.1 hu).1
  exact this
 have key : (actC x).toList.drop 9 = (mcells x.msg x.vo x.vs).toList ++ [.int .i64 x.of_, .int .i64 x.code] := rfl
 have h2 : ((actC x).toList.drop 9)[k]? = (mcells x.msg x.vo x.vs).toList[k]? := by
  rw [key, List.getElem?_append_left (by exact hk)]
 rw [List.getElem?_drop] at h2
 simpa using h2
theorem bx_act : (Instr.box 50 (.agg (actC x))).run Tryz.prog w = .ok (.pointer (some ⟨w.heap.size, 0, none⟩)) (w.alloc (.cells (actC x) 50)) := by
 simp [go_sem]
end
end Go.Proofs.YthkeiclhllikjaaGreat
