/-
  Parameters that are rows of items, or of whole numbers, opened.
-/
import Derived.Test.YtnjfjdfjheiocaaGreatShX
import Derived.Test.YtnjfjdfjheiocaaGreatRow
import Derived.Lib.SmallJoins
import Derived.Deep.Slices
set_option linter.unusedSimpArgs false
set_option linter.unusedVariables false
namespace Go.Proofs.YtnjfjdfjheiocaaGreat
open Go.ChangeShapes Go.WideShapes Go.ChangeAt Go.RowKit Go.Joins
section
variable {H : Type} {enc : TypeId × Value → H} {w : World} {base : Nat}
theorem cs3 : Tryz.prog.cellsOf 3 = 1 := by kernel_rfl
theorem cs5 : Tryz.prog.cellsOf 5 = 1 := by kernel_rfl
theorem cs22 : Tryz.prog.cellsOf 47 = 1 := by kernel_rfl
theorem cs2 : Tryz.prog.cellsOf 2 = 1 := by kernel_rfl
theorem cs9 : Tryz.prog.cellsOf 9 = 1 := by kernel_rfl
theorem wf_u8 {x : Int} (h : (Lit.int .u8 x).wf = true) : 0 ≤ x ∧ x < 256 := by
  simp [Lit.wf, IntKind.min, IntKind.max, IntKind.signed, IntKind.bits] at h
  omega
theorem wf_u32 {x : Int} (h : (Lit.int .u32 x).wf = true) : 0 ≤ x ∧ x < 4294967296 := by
  simp [Lit.wf, IntKind.min, IntKind.max, IntKind.signed, IntKind.bits] at h
  omega
theorem wf_u64 {x : Int} (h : (Lit.int .u64 x).wf = true) : 0 ≤ x ∧ x < 18446744073709551616 := by
  simp [Lit.wf, IntKind.min, IntKind.max, IntKind.signed, IntKind.bits] at h
  omega
theorem wf_i64 {x : Int} (h : (Lit.int .i64 x).wf = true) : -9223372036854775808 ≤ x ∧ x < 9223372036854775808 := by
  simp [Lit.wf, IntKind.min, IntKind.max, IntKind.signed, IntKind.bits] at h
  omega
theorem one_int {k : IntKind} {t : TypeId} (ht : Tryz.prog.underlying t = some (.int k)) {n : Nat} {c : Value} {y : DataW H × List MemPlace} (h : DataW.trod enc Tryz.prog w base (fun _ => true) true n t [c] = some y) : ∃ x : Int, c = .int k x ∧ (Lit.int k x).wf = true := by
  obtain ⟨x, e, _, wx⟩ := DataW.trod_int ht h
  simp at e
  exact ⟨x, e, wx⟩
theorem one_str {n : Nat} {c : Value} {y : DataW H × List MemPlace} (h : DataW.trod enc Tryz.prog w base (fun _ => true) true n 9 [c] = some y) : ∃ s : ByteArray, c = .string s ∧ s.size ≤ maxLen := by
  obtain ⟨x, e, _, wx⟩ := DataW.trod_string Tryz.underlying9 h
  simp at e
  exact ⟨x, e, wx⟩
theorem open_rows {α : Type} [Inhabited α] {t e : TypeId} {K : Nat} {f : α → Array Value} {p : α → Prop} (ht : Tryz.prog.underlying t = some (.slice e)) (hc : Tryz.prog.cellsOf e = K)
    (ho : ∀ (n : Nat) (cs : List Value) (y : DataW H × List MemPlace), DataW.trod enc Tryz.prog w base (fun _ => true) true n e cs = some y → ∃ x, cs = (f x).toList ∧ p x)
    {n : Nat} {c : Value} {y : DataW H × List MemPlace} (h : DataW.trod enc Tryz.prog w base (fun _ => true) true n t [c] = some y) : ∃ l : List α, RdC w K c (l.map f) ∧ (∀ x ∈ l, p x) ∧ l.length ≤ maxLen := by
  rcases Deep.open_slice ht h with ⟨hcs, _⟩ | ⟨a, len, cap, m, n2, D, Pl, hcs, _, hl, hm, hmm, _, hx⟩
  · simp at hcs
    subst hcs
    exact ⟨[], .inl ⟨rfl, rfl⟩, by simp, by simp⟩
  · simp at hcs
    subst hcs
    simp only [if_true] at hmm
    subst hmm
    rw [hc] at hx
    obtain ⟨X, hX⟩ := Deep.choose_lt (n := len) (p := fun i (x : α) => (∀ (k : Nat) u, (f x)[k]? = some u → w.cell? ((a.add (i * K)).add k) = some u) ∧ p x) (fun i hi => by
      obtain ⟨cs', h1, h2⟩ := hx i (by omega)
      obtain ⟨x, rfl, hp⟩ := ho _ _ _ h2
      obtain ⟨_, hlen, hg⟩ := World.cells?_some h1
      refine ⟨x, fun k u hu => ?_, hp⟩
      have hk : k < K := by
        have := (Array.getElem?_eq_some_iff.1 hu).1
        simp at hlen
        omega
      rw [hg k hk]
      simpa using hu)
    refine ⟨(List.range len).map X, .inr ⟨a, m, by simp, fun i r hr => ?_⟩, fun x hx => ?_, by simp; omega⟩
    · have hi : i < len := by
        have := (List.getElem?_eq_some_iff.1 hr).1
        simpa using this
      simp [List.getElem?_range, hi] at hr
      subst hr
      exact (hX i hi).1
    · obtain ⟨i, hi, rfl⟩ := List.mem_map.1 hx
      exact (hX i (by simpa using hi)).2
set_option maxRecDepth 100000 in
theorem open_rowsV {α : Type} [Inhabited α] {t e : TypeId} {K : Nat} {f : α → Array Value} {p : α → Prop} {r : Reach} {b0 : Nat} {v : Value} {d : DataW H} {pl : List MemPlace} (ht : Tryz.prog.underlying t = some (.slice e)) (hc : Tryz.prog.cellsOf e = K)
    (ho : ∀ (n : Nat) (cs : List Value) (y : DataW H × List MemPlace), DataW.trod enc Tryz.prog w base (fun _ => true) true n e cs = some y → ∃ x, cs = (f x).toList ∧ p x)
    (hv : Value.okWide Tryz.prog w r b0 t v) (h : DataW.Trod enc Tryz.prog w base (fun _ => true) true t v d pl) : ∃ l : List α, RdC w K v (l.map f) ∧ (∀ x ∈ l, p x) ∧ l.length ≤ maxLen := by
  obtain ⟨a, len, cap, rfl⟩ := okWide_slice ht hv
  obtain ⟨n, hf⟩ := h
  have e : (Value.cells (.slice a len cap)).toList = [.slice a len cap] := rfl
  rw [e] at hf
  exact open_rows ht hc ho hf
instance : Inhabited PItem := ⟨⟨0, 0, 0, 0, ⟨#[]⟩, 0, 0, 0⟩⟩
/-- An item as it comes: its key may be long. -/
structure PItem.OkN (x : PItem) : Prop where
  kind : x.kind < 256
  at0 : -9223372036854775808 ≤ x.at_
  at1 : x.at_ < 9223372036854775808
  n0 : -9223372036854775808 ≤ x.n
  n1 : x.n < 9223372036854775808
  key : x.key.size ≤ maxLen
theorem cs24i : Tryz.prog.cellsOf 42 = 8 := by kernel_rfl
set_option maxRecDepth 100000 in
theorem array8 {α : Type} {cs : Array α} (h : cs.size = 8) : ∃ c0 c1 c2 c3 c4 c5 c6 c7, cs = #[c0, c1, c2, c3, c4, c5, c6, c7] := by
  obtain ⟨l⟩ := cs
  match l, h with
  | [c0, c1, c2, c3, c4, c5, c6, c7], _ => exact ⟨_, _, _, _, _, _, _, _, rfl⟩
set_option maxHeartbeats 4000000 in
set_option maxRecDepth 100000 in
theorem open_itemC {n : Nat} {cs : List Value} {y : DataW H × List MemPlace} (h : DataW.trod enc Tryz.prog w base (fun _ => true) true n 42 cs = some y) : ∃ x : PItem, cs = (itC x).toList ∧ x.OkN := by
  obtain ⟨is, n2, _, hx2, hcl, hlen2, hi⟩ := DataW.trod_struct Tryz.underlying42 h
  obtain ⟨c0, c1, c2, c3, c4, c5, c6, c7, hce⟩ := array8 (cs := cs.toArray) (by simpa using hcl.trans cs24i)
  obtain rfl : cs = [c0, c1, c2, c3, c4, c5, c6, c7] := congrArg Array.toList hce
  match is, hlen2 with
  | [z0, z1, z2, z3, z4, z5, z6, z7], _ =>
    have i0 := hi 0 _ rfl
    have i1 := hi 1 _ rfl
    have i2 := hi 2 _ rfl
    have i3 := hi 3 _ rfl
    have i4 := hi 4 _ rfl
    have i5 := hi 5 _ rfl
    have i6 := hi 6 _ rfl
    have i7 := hi 7 _ rfl
    simp [cs3, cs5, cs22, cs2, cs9] at i0 i1 i2 i3 i4 i5 i6 i7
    obtain ⟨x9, rfl, wx9⟩ := one_int Tryz.underlying3 i0
    obtain ⟨x10, rfl, wx10⟩ := one_int Tryz.underlying3 i1
    obtain ⟨x11, rfl, wx11⟩ := one_int Tryz.underlying3 i2
    obtain ⟨x12, rfl, wx12⟩ := one_int Tryz.underlying5 i3
    obtain ⟨x14, rfl, wx14⟩ := one_int Tryz.underlying3 i5
    obtain ⟨x15, rfl, wx15⟩ := one_int Tryz.underlying2 i6
    obtain ⟨x16, rfl, wx16⟩ := one_int Tryz.underlying2 i7
    obtain ⟨s13, rfl, w13⟩ := one_str i4
    obtain ⟨a12, b12⟩ := wf_u8 wx12
    obtain ⟨a15, b15⟩ := wf_i64 wx15
    obtain ⟨a16, b16⟩ := wf_i64 wx16
    obtain ⟨n12, rfl⟩ : ∃ n : Nat, x12 = n := ⟨x12.toNat, by omega⟩
    exact ⟨⟨x9, x10, x11, n12, s13, x14, x15, x16⟩, rfl, ⟨by show n12 < 256; omega, a15, b15, a16, b16, w13⟩⟩
theorem open_intC {n : Nat} {cs : List Value} {y : DataW H × List MemPlace} (h : DataW.trod enc Tryz.prog w base (fun _ => true) true n 3 cs = some y) : ∃ x : Int, cs = (#[.int .i64 x] : Array Value).toList ∧ (-9223372036854775808 ≤ x ∧ x < 9223372036854775808) := by
  obtain ⟨x, e, _, wx⟩ := DataW.trod_int Tryz.underlying3 h
  exact ⟨x, e, wf_i64 wx⟩
set_option maxRecDepth 100000 in
theorem open_item {r : Reach} {b0 : Nat} {v : Value} {d : DataW H} {p : List MemPlace} (hv : Value.okWide Tryz.prog w r b0 42 v) (h : DataW.Trod enc Tryz.prog w base (fun _ => true) true 42 v d p) : ∃ x : PItem, v = .agg (itC x) ∧ x.OkN := by
  obtain ⟨cs, rfl, hsz⟩ := okWide_struct Tryz.underlying42 hv
  obtain ⟨fuel, hf⟩ := h
  obtain ⟨x, he, h2⟩ := open_itemC hf
  have hc : cs = itC x := Array.toList_inj.1 he
  exact ⟨x, by rw [hc], h2⟩
end
end Go.Proofs.YtnjfjdfjheiocaaGreat
