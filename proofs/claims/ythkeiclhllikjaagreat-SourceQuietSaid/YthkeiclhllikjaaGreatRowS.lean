/-
  Parameters that are rows of structs, opened: items; small numbers.
-/
import Derived.Test.YthkeiclhllikjaaGreatSvP
import Derived.Test.YthkeiclhllikjaaGreatRowM
import Derived.Deep.Slices
set_option linter.unusedSimpArgs false
set_option linter.unusedVariables false
namespace Go.Proofs.YthkeiclhllikjaaGreat
open Go.ChangeShapes Go.WideShapes Go.ChangeAt Go.RowKit Go.Joins
/-- A row of old memory: its elements, each of K cells. -/
def RdC (W : World) (K : Nat) (v : Value) (rows : List (Array Value)) : Prop :=
  (v = .slice none 0 0 ∧ rows = []) ∨ ∃ a c, v = .slice (some a) rows.length c ∧ ∀ (i : Nat) r, rows[i]? = some r → ∀ (k : Nat) u, r[k]? = some u → W.cell? ((a.add (i * K)).add k) = some u
section
variable {W W' : World} {K : Nat} {v : Value} {rows : List (Array Value)}
theorem RdC.kept (h : RdC W K v rows) (hb : ∀ k, k < W.heap.size → W'.heap[k]? = W.heap[k]?) : RdC W' K v rows := by
  rcases h with h | ⟨a, c, hv, h⟩
  · exact .inl h
  · refine .inr ⟨a, c, hv, fun i r hr k u hu => ?_⟩
    have h1 := h i r hr k u hu
    have h2 := cell_some_lt h1
    rw [← h1]
    unfold World.cell?
    rw [hb _ h2]
theorem RdC.slc (h : RdC W K v rows) : ∃ A c, v = .slice A rows.length c := by
  rcases h with ⟨rfl, rfl⟩ | ⟨a, c, rfl, _⟩
  · exact ⟨_, _, rfl⟩
  · exact ⟨_, _, rfl⟩
theorem RdC.elem {A : Option Addr} {n c : Nat} (h : RdC W K (.slice A n c) rows) (hn : rows.length = n) {j : Nat} (hj : j < n) : ∃ a, A = some a ∧ ∀ (k : Nat) u, (rows[j]'(by omega))[k]? = some u → W.cell? ((a.add (j * K)).add k) = some u := by
  rcases h with ⟨he, rfl⟩ | ⟨a, c', he, h⟩
  · cases hn
    cases hj
  · cases he
    exact ⟨a, rfl, h j _ (List.getElem?_eq_getElem (by omega))⟩
end
section
variable {H : Type} {enc : TypeId × Value → H} {w : World} {base : Nat}
theorem open_rows {α : Type} [Inhabited α] {t e : TypeId} {K : Nat} {f : α → Array Value} {p : α → Prop} (ht : Tryz.prog.underlying t = some (.slice e)) (hc : Tryz.prog.cellsOf e = K)
    (ho : ∀ (n : Nat) (cs : List Value) (y : DataW H × List MemPlace), DataW.trod enc Tryz.prog w base (fun _ => true) true n e cs = some y → ∃ x, cs = (f x).toList ∧ p x)
    {n : Nat} {c : Value} {y : DataW H × List MemPlace} (h : DataW.trod enc Tryz.prog w base (fun _ => true) true n t [c] = some y) : ∃ l : List α, RdC w K c (l.map f) ∧ (∀ x ∈ l, p x) ∧ l.length ≤ maxLen := by
  rcases Deep.open_slice ht h with ⟨hcs, _⟩ | ⟨a, len, cap, m, n2, D, Pl, hcs, _, hl, hm, hmm, _, hx⟩
  · simp at hcs
    subst hcs
    exact ⟨[], .inl ⟨rfl, rfl⟩, by simp, by simp⟩
  · simp at hcs
    subst hcs
    simp only [if_true] at hmm
    subst hmm
    rw [hc] at hx
    obtain ⟨X, hX⟩ := Deep.choose_lt (n := len) (p := fun i (x : α) => (∀ (k : Nat) u, (f x)[k]? = some u → w.cell? ((a.add (i * K)).add k) = some u) ∧ p x) (fun i hi => by
      obtain ⟨cs', h1, h2⟩ := hx i (by omega)
      obtain ⟨x, rfl, hp⟩ := ho _ _ _ h2
      obtain ⟨_, hlen, hg⟩ := World.cells?_some h1
      refine ⟨x, fun k u hu => ?_, hp⟩
      have hk : k < K := by
        have := (Array.getElem?_eq_some_iff.1 hu).1
        simp at hlen
        omega
      rw [hg k hk]
      simpa using hu)
    refine ⟨(List.range len).map X, .inr ⟨a, m, by simp, fun i r hr => ?_⟩, fun x hx => ?_, by simp; omega⟩
    · have hi : i < len := by
        have := (List.getElem?_eq_some_iff.1 hr).1
        simpa using this
      simp [List.getElem?_range, hi] at hr
      subst hr
      exact (hX i hi).1
    · obtain ⟨i, hi, rfl⟩ := List.mem_map.1 hx
      exact (hX i (by simpa using hi)).2
set_option maxRecDepth 100000 in
theorem open_rowsV {α : Type} [Inhabited α] {t e : TypeId} {K : Nat} {f : α → Array Value} {p : α → Prop} {r : Reach} {b0 : Nat} {v : Value} {d : DataW H} {pl : List MemPlace} (ht : Tryz.prog.underlying t = some (.slice e)) (hc : Tryz.prog.cellsOf e = K)
    (ho : ∀ (n : Nat) (cs : List Value) (y : DataW H × List MemPlace), DataW.trod enc Tryz.prog w base (fun _ => true) true n e cs = some y → ∃ x, cs = (f x).toList ∧ p x)
    (hv : Value.okWide Tryz.prog w r b0 t v) (h : DataW.Trod enc Tryz.prog w base (fun _ => true) true t v d pl) : ∃ l : List α, RdC w K v (l.map f) ∧ (∀ x ∈ l, p x) ∧ l.length ≤ maxLen := by
  obtain ⟨a, len, cap, rfl⟩ := okWide_slice ht hv
  obtain ⟨n, hf⟩ := h
  have e : (Value.cells (.slice a len cap)).toList = [.slice a len cap] := rfl
  rw [e] at hf
  exact open_rows ht hc ho hf
instance : Inhabited PItem := ⟨itZ⟩
/-- An item as it comes: its key may be long. -/
structure PItem.OkN (x : PItem) : Prop where
  kind : x.kind < 256
  at0 : -9223372036854775808 ≤ x.at_
  at1 : x.at_ < 9223372036854775808
  n0 : -9223372036854775808 ≤ x.n
  n1 : x.n < 9223372036854775808
  key : x.key.size ≤ maxLen
theorem PItem.OkN.ok {x : PItem} (h : x.OkN) (hk : x.key.size ≤ 3000) : x.Ok := ⟨h.kind, by omega, h.at0, h.at1, h.n0, h.n1⟩
theorem cs24i : Tryz.prog.cellsOf 33 = 8 := by kernel_rfl
set_option maxRecDepth 100000 in
theorem array8 {α : Type} {cs : Array α} (h : cs.size = 8) : ∃ c0 c1 c2 c3 c4 c5 c6 c7, cs = #[c0, c1, c2, c3, c4, c5, c6, c7] := by
  obtain ⟨l⟩ := cs
  match l, h with
  | [c0, c1, c2, c3, c4, c5, c6, c7], _ => exact ⟨_, _, _, _, _, _, _, _, rfl⟩
set_option maxHeartbeats 4000000 in
set_option maxRecDepth 100000 in
theorem open_itemC {n : Nat} {cs : List Value} {y : DataW H × List MemPlace} (h : DataW.trod enc Tryz.prog w base (fun _ => true) true n 33 cs = some y) : ∃ x : PItem, cs = (itC x).toList ∧ x.OkN := by
  obtain ⟨is, n2, _, hx2, hcl, hlen2, hi⟩ := DataW.trod_struct Tryz.underlying33 h
  obtain ⟨c0, c1, c2, c3, c4, c5, c6, c7, hce⟩ := array8 (cs := cs.toArray) (by simpa using hcl.trans cs24i)
  obtain rfl : cs = [c0, c1, c2, c3, c4, c5, c6, c7] := congrArg Array.toList hce
  match is, hlen2 with
  | [z0, z1, z2, z3, z4, z5, z6, z7], _ =>
    have i0 := hi 0 _ rfl
    have i1 := hi 1 _ rfl
    have i2 := hi 2 _ rfl
    have i3 := hi 3 _ rfl
    have i4 := hi 4 _ rfl
    have i5 := hi 5 _ rfl
    have i6 := hi 6 _ rfl
    have i7 := hi 7 _ rfl
    simp [cs3, cs5, cs22, cs2, cs9] at i0 i1 i2 i3 i4 i5 i6 i7
    obtain ⟨x9, rfl, wx9⟩ := one_int Tryz.underlying3 i0
    obtain ⟨x10, rfl, wx10⟩ := one_int Tryz.underlying3 i1
    obtain ⟨x11, rfl, wx11⟩ := one_int Tryz.underlying3 i2
    obtain ⟨x12, rfl, wx12⟩ := one_int Tryz.underlying5 i3
    obtain ⟨x14, rfl, wx14⟩ := one_int Tryz.underlying3 i5
    obtain ⟨x15, rfl, wx15⟩ := one_int Tryz.underlying2 i6
    obtain ⟨x16, rfl, wx16⟩ := one_int Tryz.underlying2 i7
    obtain ⟨s13, rfl, w13⟩ := one_str i4
    obtain ⟨a12, b12⟩ := wf_u8 wx12
    obtain ⟨a15, b15⟩ := wf_i64 wx15
    obtain ⟨a16, b16⟩ := wf_i64 wx16
    obtain ⟨n12, rfl⟩ : ∃ n : Nat, x12 = n := ⟨x12.toNat, by omega⟩
    exact ⟨⟨x9, x10, x11, n12, s13, x14, x15, x16⟩, rfl, ⟨by show n12 < 256; omega, a15, b15, a16, b16, w13⟩⟩
/-- A small number. -/
theorem open_u8C {n : Nat} {cs : List Value} {y : DataW H × List MemPlace} (h : DataW.trod enc Tryz.prog w base (fun _ => true) true n 5 cs = some y) : ∃ x : Nat, cs = (#[.int .u8 (x : Nat)] : Array Value).toList ∧ x < 256 := by
  obtain ⟨x, e, _, wx⟩ := DataW.trod_int Tryz.underlying5 h
  obtain ⟨a, b⟩ := wf_u8 wx
  obtain ⟨n, rfl⟩ : ∃ n : Nat, x = n := ⟨x.toNat, by omega⟩
  exact ⟨n, e, by omega⟩
end
/-! What is read of such rows. -/
section
variable {w : World} {a : Addr} {x : PItem} {n c j : Nat}
theorem ix_itA (h : j < n) : (Instr.indexAt 71 (.slice (some a) n c) (.int .i64 (j : Nat))).run Tryz.prog w = .ok (.pointer (some (a.add (j * 8)))) w := by
  simp [go_sem, h]
theorem ix_u8A (h : j < n) : (Instr.indexAt 72 (.slice (some a) n c) (.int .i64 (j : Nat))).run Tryz.prog w = .ok (.pointer (some (a.add (j * 1)))) w := by
  simp [go_sem, h]
theorem ld_itA (h : ∀ (k : Nat) u, (itC x)[k]? = some u → w.cell? (a.add k) = some u) : (Instr.loadAt 33 (.pointer (some a))).run Tryz.prog w = .ok (.agg (itC x)) w := by
  have h0 := h 0 _ rfl
  have h1 := h 1 _ rfl
  have h2 := h 2 _ rfl
  have h3 := h 3 _ rfl
  have h4 := h 4 _ rfl
  have h5 := h 5 _ rfl
  have h6 := h 6 _ rfl
  have h7 := h 7 _ rfl
  simp [Addr.add] at h0 h1 h2 h3 h4 h5 h6 h7
  simp [go_sem, h0, h1, h2, h3, h4, h5, h6, h7]
theorem fi_itA {i : Nat} (hi : i < 8) : (Instr.fieldAt 33 (.pointer (some a)) i).run Tryz.prog w = .ok (.pointer (some (a.add i))) w := by
  rcases i with _ | _ | _ | _ | _ | _ | _ | _ | i
  all_goals first | (exfalso; omega) | simp [go_sem]
theorem ld_strA {s : ByteArray} (h : w.cell? a = some (.string s)) : (Instr.loadAt 9 (.pointer (some a))).run Tryz.prog w = .ok (.string s) w := by simp [go_sem, h]
theorem ld_u8A {k : Nat} (h : w.cell? a = some (.int .u8 (k : Nat))) : (Instr.loadAt 5 (.pointer (some a))).run Tryz.prog w = .ok (.int .u8 (k : Nat)) w := by simp [go_sem, h]
end
end Go.Proofs.YthkeiclhllikjaaGreat
