/-
  A parameter that is a message, opened.
-/
import Derived.Test.YthkeiclhllikjaaGreatMsgEq
import Derived.Test.YthkeiclhllikjaaGreatRow
import Derived.Lib.SmallJoins
set_option linter.unusedSimpArgs false
set_option linter.unusedVariables false
namespace Go.Proofs.YthkeiclhllikjaaGreat
open Go.ChangeShapes Go.WideShapes Go.ChangeAt Go.RowKit Go.Joins
section
variable {H : Type} {enc : TypeId × Value → H} {w : World} {base : Nat}
theorem cs3 : Tryz.prog.cellsOf 3 = 1 := by kernel_rfl
theorem cs5 : Tryz.prog.cellsOf 5 = 1 := by kernel_rfl
theorem cs22 : Tryz.prog.cellsOf 35 = 1 := by kernel_rfl
theorem cs2 : Tryz.prog.cellsOf 2 = 1 := by kernel_rfl
theorem cs9 : Tryz.prog.cellsOf 9 = 1 := by kernel_rfl
theorem cs25 : Tryz.prog.cellsOf 26 = 1 := by kernel_rfl
theorem cs24 : Tryz.prog.cellsOf 33 = 8 := by kernel_rfl
theorem cs27 : Tryz.prog.cellsOf 28 = 3 := by kernel_rfl
structure PMsg.FitsN (m : PMsg) : Prop where
 kind : m.kind < 256
 ikind : m.ikind < 256
 digest : m.digest < 18446744073709551616
 at0 : -9223372036854775808 ≤ m.at_
 at1 : m.at_ < 9223372036854775808
 iat0 : -9223372036854775808 ≤ m.iat
 iat1 : m.iat < 9223372036854775808
 iN0 : -9223372036854775808 ≤ m.iN
 iN1 : m.iN < 9223372036854775808
 key : m.ikey.size ≤ maxLen
 data : m.data.size ≤ maxLen
 owner : m.owner.length ≤ maxLen
 set : m.set.length ≤ maxLen
 iseq0 : -9223372036854775808 ≤ m.iseq
 iseq1 : m.iseq < 9223372036854775808
theorem wf_u8 {x : Int} (h : (Lit.int .u8 x).wf = true) : 0 ≤ x ∧ x < 256 := by
 simp [Lit.wf, IntKind.min, IntKind.max, IntKind.signed, IntKind.bits] at h
 omega
theorem wf_u64 {x : Int} (h : (Lit.int .u64 x).wf = true) : 0 ≤ x ∧ x < 18446744073709551616 := by
 simp [Lit.wf, IntKind.min, IntKind.max, IntKind.signed, IntKind.bits] at h
 omega
theorem wf_i64 {x : Int} (h : (Lit.int .i64 x).wf = true) : -9223372036854775808 ≤ x ∧ x < 9223372036854775808 := by
 simp [Lit.wf, IntKind.min, IntKind.max, IntKind.signed, IntKind.bits] at h
 omega
set_option maxRecDepth 100000 in
theorem array22 {α : Type} {cs : Array α} (h : cs.size = 22) : ∃ c0 c1 c2 c3 c4 c5 c6 c7 c8 c9 c10 c11 c12 c13 c14 c15 c16 c17 c18 c19 c20 c21, cs = #[c0, c1, c2, c3, c4, c5, c6, c7, c8, c9, c10, c11, c12, c13, c14, c15, c16, c17, c18, c19, c20, c21] := by
 obtain ⟨l⟩ := cs
 match l, h with
 | [c0, c1, c2, c3, c4, c5, c6, c7, c8, c9, c10, c11, c12, c13, c14, c15, c16, c17, c18, c19, c20, c21], _ => exact ⟨_, _, _, _, _, _, _, _, _, _, _, _, _, _, _, _, _, _, _, _, _, _, rfl⟩
theorem one_int {k : IntKind} {t : TypeId} (ht : Tryz.prog.underlying t = some (.int k)) {n : Nat} {c : Value} {y : DataW H × List MemPlace} (h : DataW.trod enc Tryz.prog w base (fun _ => true) true n t [c] = some y) : ∃ x : Int, c = .int k x ∧ (Lit.int k x).wf = true := by
 obtain ⟨x, e, _, wx⟩ := DataW.trod_int ht h
 simp at e
 exact ⟨x, e, wx⟩
theorem one_str {n : Nat} {c : Value} {y : DataW H × List MemPlace} (h : DataW.trod enc Tryz.prog w base (fun _ => true) true n 9 [c] = some y) : ∃ s : ByteArray, c = .string s ∧ s.size ≤ maxLen := by
 obtain ⟨x, e, _, wx⟩ := DataW.trod_string Tryz.underlying9 h
 simp at e
 exact ⟨x, e, wx⟩
theorem one_list {n : Nat} {c : Value} {y : DataW H × List MemPlace} (h : DataW.trod enc Tryz.prog w base (fun _ => true) true n 26 [c] = some y) : ∃ l : List Int, Rd w c l ∧ l.length ≤ maxLen := by
 rcases open_ints Tryz.underlying26 Tryz.underlying3 cs3 h with ⟨hcs, hx⟩ | ⟨a, len', cap', zs, hcs, _, hl, hm, hz, hx, hcell, hwz⟩
 ·simp at hcs
  subst hcs
  exact ⟨[], .inl ⟨rfl, rfl⟩, by simp⟩
 ·simp at hcs
  subst hcs
  simp only [if_true] at hz
  have hlen : (zs.take len').length = len' := by simp; omega
  refine ⟨zs.take len', .inr ⟨a, cap', by rw [hlen], by rw [hlen]; exact hl, fun j u hj => ?_⟩, by rw [hlen]; omega⟩
  have hjl : j < len' := by
   have := (List.getElem?_eq_some_iff.1 hj).1
   rw [ints_length, hlen] at this
   exact this
  rw [hcell j (by omega)]
  have hju := List.getElem?_eq_some_iff.1 hj
  obtain ⟨hlt, hu⟩ := hju
  rw [← hu]
  simp only [ints, List.getElem_map, List.getElem_take]
  rw [List.getD_eq_getElem?_getD, List.getElem?_eq_getElem (by omega)]
  rfl
set_option maxHeartbeats 4000000 in
set_option maxRecDepth 100000 in
theorem open_msgC {n : Nat} {cs : List Value} {y : DataW H × List MemPlace} (h : DataW.trod enc Tryz.prog w base (fun _ => true) true n 37 cs = some y) :
  ∃ (m : PMsg) (vo vs : Value), cs = (mcells m vo vs).toList ∧ m.FitsN ∧ Rd w vo m.owner ∧ Rd w vs m.set := by
 obtain ⟨xs, n, _, hx, hcl, hlen, hg⟩ := DataW.trod_struct Tryz.underlying37 h
 obtain ⟨c0, c1, c2, c3, c4, c5, c6, c7, c8, c9, c10, c11, c12, c13, c14, c15, c16, c17, c18, c19, c20, c21, hce⟩ := array22 (cs := cs.toArray) (by simpa using hcl.trans (by kernel_rfl))
 obtain rfl : cs = [c0, c1, c2, c3, c4, c5, c6, c7, c8, c9, c10, c11, c12, c13, c14, c15, c16, c17, c18, c19, c20, c21] := congrArg Array.toList hce
 match xs, hlen with
 | [y0, y1, y2, y3, y4, y5, y6, y7, y8, y9, y10, y11, y12], _ =>
  have g0 := hg 0 _ rfl
  have g1 := hg 1 _ rfl
  have g2 := hg 2 _ rfl
  have g3 := hg 3 _ rfl
  have g4 := hg 4 _ rfl
  have g5 := hg 5 _ rfl
  have g6 := hg 6 _ rfl
  have g7 := hg 7 _ rfl
  have g8 := hg 8 _ rfl
  have g9 := hg 9 _ rfl
  have g10 := hg 10 _ rfl
  have g11 := hg 11 _ rfl
  have g12 := hg 12 _ rfl
  simp [Value.cells, cs3, cs5, cs22, cs2, cs9, cs24, cs25, cs27] at g0 g1 g2 g3 g4 g5 g6 g7 g8 g9 g10 g11 g12
  obtain ⟨is, n2, _, hx2, _, hlen2, hi⟩ := DataW.trod_struct Tryz.underlying33 g9
  obtain ⟨ts, n3, _, hx3, _, hlen3, ht⟩ := DataW.trod_struct Tryz.underlying28 g10
  match is, hlen2 with
  | [z0, z1, z2, z3, z4, z5, z6, z7], _ =>
   have i0 := hi 0 _ rfl
   have i1 := hi 1 _ rfl
   have i2 := hi 2 _ rfl
   have i3 := hi 3 _ rfl
   have i4 := hi 4 _ rfl
   have i5 := hi 5 _ rfl
   have i6 := hi 6 _ rfl
   have i7 := hi 7 _ rfl
   simp [Value.cells, cs3, cs5, cs22, cs2, cs9, cs24, cs25, cs27] at i0 i1 i2 i3 i4 i5 i6 i7
   match ts, hlen3 with
   | [u0, u1, u2], _ =>
    have t0 := ht 0 _ rfl
    have t1 := ht 1 _ rfl
    have t2 := ht 2 _ rfl
    simp [Value.cells, cs3, cs5, cs22, cs2, cs9, cs24, cs25, cs27] at t0 t1 t2
    obtain ⟨k0, rfl, wk0⟩ := one_int Tryz.underlying5 g0
    obtain ⟨x1, rfl, wx1⟩ := one_int Tryz.underlying3 g1
    obtain ⟨x2, rfl, wx2⟩ := one_int Tryz.underlying3 g2
    obtain ⟨x3, rfl, wx3⟩ := one_int Tryz.underlying3 g3
    obtain ⟨x4, rfl, wx4⟩ := one_int Tryz.underlying3 g4
    obtain ⟨x5, rfl, wx5⟩ := one_int Tryz.underlying3 g5
    obtain ⟨x6, rfl, wx6⟩ := one_int Tryz.underlying3 g6
    obtain ⟨x7, rfl, wx7⟩ := one_int Tryz.underlying35 g7
    obtain ⟨x8, rfl, wx8⟩ := one_int Tryz.underlying2 g8
    obtain ⟨x9, rfl, wx9⟩ := one_int Tryz.underlying3 i0
    obtain ⟨x10, rfl, wx10⟩ := one_int Tryz.underlying3 i1
    obtain ⟨x11, rfl, wx11⟩ := one_int Tryz.underlying3 i2
    obtain ⟨x12, rfl, wx12⟩ := one_int Tryz.underlying5 i3
    obtain ⟨x14, rfl, wx14⟩ := one_int Tryz.underlying3 i5
    obtain ⟨x15, rfl, wx15⟩ := one_int Tryz.underlying2 i6
    obtain ⟨x16, rfl, wx16⟩ := one_int Tryz.underlying2 i7
    obtain ⟨x17, rfl, wx17⟩ := one_int Tryz.underlying3 t0
    obtain ⟨x18, rfl, wx18⟩ := one_int Tryz.underlying3 t1
    obtain ⟨s13, rfl, w13⟩ := one_str i4
    obtain ⟨s21, rfl, w21⟩ := one_str g12
    obtain ⟨lo, r19, m19⟩ := one_list t2
    obtain ⟨ls, r20, m20⟩ := one_list g11
    obtain ⟨a0, b0⟩ := wf_u8 wk0
    obtain ⟨a12, b12⟩ := wf_u8 wx12
    obtain ⟨a7, b7⟩ := wf_u64 wx7
    obtain ⟨a8, b8⟩ := wf_i64 wx8
    obtain ⟨a15, b15⟩ := wf_i64 wx15
    obtain ⟨a16, b16⟩ := wf_i64 wx16
    obtain ⟨a10, b10⟩ := wf_i64 wx10
    obtain ⟨n0, rfl⟩ : ∃ n : Nat, k0 = n := ⟨k0.toNat, by omega⟩
    obtain ⟨n12, rfl⟩ : ∃ n : Nat, x12 = n := ⟨x12.toNat, by omega⟩
    obtain ⟨n7, rfl⟩ : ∃ n : Nat, x7 = n := ⟨x7.toNat, by omega⟩
    exact ⟨⟨n0, x1, x2, x3, x4, x5, x6, n7, x8, x9, x10, x11, n12, s13, x14, x15, x16, x17, x18, lo, ls, s21⟩, c19, c20, rfl, ⟨by show n0 < 256; omega, by show n12 < 256; omega, by show n7 < _; omega, a8, b8, a15, b15, a16, b16, w13, w21, m19, m20, a10, b10⟩, r19, r20⟩
end
end Go.Proofs.YthkeiclhllikjaaGreat
