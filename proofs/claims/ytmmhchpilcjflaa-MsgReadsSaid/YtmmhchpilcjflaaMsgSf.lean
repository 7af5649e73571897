/-
  MsgSafe: what its operations come to.
-/
import Derived.Test.YtmmhchpilcjflaaMsgBk
import Derived.Test.YtmmhchpilcjflaaMsgRoA
import Derived.Test.YtmmhchpilcjflaaFrB
import Derived.Test.YtmmhchpilcjflaaFr
import Derived.Laws.IdiomStrings
set_option linter.unusedSimpArgs false
set_option linter.unusedVariables false
namespace Go.Proofs.Ytmmhchpilcjflaa
open Go.RowKit

theorem R_cvW {P : Program} {a : Act} {w w' : World} {n : Nat} {m : List (Nat × Value)} {o : Oper} {v : Value} {s t : TypeId} {x : Operand} {vx : Value} (H : Fr a n m) (ho : o.op = .convert s t x) (hx : ev1 m x = some vx) (hl : (convert s t vx).run P w = .ok v w') : (execOp a.eval o).run P w = .ok (.value v) w' := by
  simp only [execOp, ho, H.ev hx]
  exact fr_v hl
/-- A row of bytes with room behind. -/
def tabB (xs : List Nat) (k : Nat) : Array Value := (u8s xs).toArray ++ Array.replicate k (.int .u8 0)
theorem tabB_size (xs : List Nat) (k : Nat) : (tabB xs k).size = xs.length + k := by simp [tabB, u8s]
theorem tabB_get {xs : List Nat} {k j : Nat} (h : j < xs.length) : (tabB xs k)[j]? = some (.int .u8 (xs.getD j 0 : Nat)) := by
  unfold tabB
  rw [Array.getElem?_append_left (by simpa [u8s] using h)]
  simp [u8s, List.getD_eq_getElem?_getD, List.getElem?_eq_getElem h]
theorem tabB_set {xs : List Nat} {k j y : Nat} (h : j < xs.length) : (tabB xs k).setIfInBounds j (.int .u8 (y : Nat)) = tabB (xs.set j y) k := by
  unfold tabB
  rw [Array.setIfInBounds_append_left (by simpa [u8s] using h)]
  simp [u8s, List.map_set]
/-- A block that a text was turned into, among live ones. -/
def LiveB (w0 : World) (L : List Blk) (g : Nat) (xs : List Nat) (k : Nat) (W : World) : Prop :=
  Live w0 L W ∧ w0.heap.size ≤ g ∧ (∀ p, p ∈ L → p.1 ≠ g) ∧ W.heap[g]? = some (.cells (tabB xs k) 5 ((tabB xs k).size, (tabB xs k).size + 1))
section
variable {w0 w : World} {L : List Blk} {g k j y : Nat} {xs : List Nat} {s : ByteArray}
theorem cv_to (h : Live w0 L w) : ∃ c k w', (convert 9 38 (.string s)).run Try.prog w = .ok (.slice (some ⟨w.heap.size, 0, none⟩) s.size c) w' ∧ LiveB w0 L w.heap.size (bytesOf s) k w' := by
  have e : bytesRow s (grownCap w s.size 0 5) = tabB (bytesOf s) (grownCap w s.size 0 5 - s.size) := by
    unfold bytesRow tabB u8s bytesOf
    congr 1
    apply Array.ext'
    simp
  refine ⟨_, grownCap w s.size 0 5 - s.size, _, run_bytes_of_string w 9 38 5 s Try.underlying9 Try.underlying38 Try.underlying5, h.drew.other _, ?_, h.ne_new, ?_⟩
  · exact h.1.size
  · rw [e]
    show (w.heap.push _)[w.heap.size]? = _
    simp
theorem LiveB.ld (h : LiveB w0 L g xs k w) (hj : j < xs.length) : (Instr.loadAt 5 (.pointer (some ⟨g, j, none⟩))).run Try.prog w = .ok (.int .u8 (xs.getD j 0 : Nat)) w := by
  have hc : w.cell? ⟨g, j, none⟩ = some (.int .u8 (xs.getD j 0 : Nat)) := (cells_at h.2.2.2 j).trans (tabB_get hj)
  simp [go_sem, hc]
theorem LiveB.st (h : LiveB w0 L g xs k w) (hj : j < xs.length) : ∃ w', (Instr.storeAt 5 (.pointer (some ⟨g, j, none⟩)) (.int .u8 (y : Nat))).run Try.prog w = .ok () w' ∧ LiveB w0 L g (xs.set j y) k w' := by
  have hc : w.cell? ⟨g, j, none⟩ = some (.int .u8 (xs.getD j 0 : Nat)) := (cells_at h.2.2.2 j).trans (tabB_get hj)
  have hz : w.frozen? ⟨g, j, none⟩ = false := by
    have hs := tabB_size xs k
    simp [World.frozen?, h.2.2.2]
    omega
  refine ⟨w.setCell ⟨g, j, none⟩ (.int .u8 (y : Nat)), by simp [go_sem, hc, hz], h.1.far h.2.1 h.2.2.1 _ _, h.2.1, h.2.2.1, ?_⟩
  have hp := set_at h.2.2.2 (i := j) (.int .u8 (y : Nat))
  rw [tabB_set hj] at hp
  rw [hp, tabB_size, tabB_size, List.length_set]
theorem LiveB.back (h : LiveB w0 L g xs k w) (hb : ∀ x ∈ xs, x < 256) {z : Nat} (hz : xs.length = z) (c : Nat) : (convert 38 9 (.slice (some ⟨g, 0, none⟩) z c)).run Try.prog w = .ok (.string (packL xs)) w := by
  subst hz
  have hl : xs.length = (xs.map UInt8.ofNat).length := by simp
  rw [hl]
  refine run_convert_bytes_back w 38 9 5 ⟨g, 0, none⟩ c (xs.map UInt8.ofNat) Try.underlying38 Try.underlying5 Try.underlying9 fun j hj => ?_
  have hj' : j < xs.length := by simpa using hj
  have hc : w.cell? ⟨g, j, none⟩ = some (.int .u8 (xs.getD j 0 : Nat)) := (cells_at h.2.2.2 j).trans (tabB_get hj')
  have e : (⟨g, 0, none⟩ : Addr).add j = ⟨g, j, none⟩ := by
    simp [Addr.add]
    exact fun h => h.symm
  rw [e, hc, List.getElem_map, List.getD_eq_getElem?_getD, List.getElem?_eq_getElem hj']
  have := hb _ (List.getElem_mem hj')
  simp [Nat.mod_eq_of_lt this]
theorem ix8_at {n c j : Nat} (h : j < n) : (Instr.indexAt 38 (.slice (some ⟨g, 0, none⟩) n c) (.int .i64 (j : Nat))).run Try.prog w = .ok (.pointer (some ⟨g, j, none⟩)) w := by
  have e : (⟨g, 0, none⟩ : Addr).add j = ⟨g, j, none⟩ := by
    simp [Addr.add]
    exact fun h => h.symm
  simp [go_sem, h, e]
theorem Bi_addN {X Y : Operand} (x y : Nat) (h : x + y < 1000000) : ((do eqGuard .add 3 X Y (.int .i64 (x : Nat)) (.int .i64 (y : Nat)); binOp .add 3 (.int .i64 (x : Nat)) (.int .i64 (y : Nat))) : Sem Value).run Try.prog w = .ok (.int .i64 (x + y : Nat)) w := by
  rw [Int.natCast_add]
  exact B_add Try.underlying3 _ _ (by omega) (by omega)
theorem B32_rem {X Y : Operand} (x : Nat) : ((do eqGuard .rem 51 X Y (.int .u32 (x : Nat)) (.int .u32 100000); binOp .rem 51 (.int .u32 (x : Nat)) (.int .u32 100000)) : Sem Value).run Try.prog w = .ok (.int .u32 (x % 100000 : Nat)) w := by
  have e : (x : Int).tmod 100000 = ((x % 100000 : Nat) : Int) := Int.tmod_eq_emod_of_nonneg (by omega)
  simp [go_sem, e]
theorem cv32_i (x : Nat) (h : x < 100000) : (convert 51 3 (.int .u32 (x : Nat))).run Try.prog w = .ok (.int .i64 (x : Nat)) w := by
  have e : IntKind.i64.wrap (x : Int) = x := i64_id (by omega) (by omega)
  simp [go_sem, e]
theorem cvi_u (x : Nat) (h : x < 100000) : (convert 3 52 (.int .i64 (x : Nat))).run Try.prog w = .ok (.int .u64 (x : Nat)) w := by
  have e : IntKind.u64.wrap (x : Int) = x := u64_id (by omega) (by omega)
  simp [go_sem, e]
theorem B32_shr {X Y : Operand} (x i : Nat) (h : i < 32) : ((do eqGuard .shr 51 X Y (.int .u32 (x : Nat)) (.int .u64 (i : Nat)); binOp .shr 51 (.int .u32 (x : Nat)) (.int .u64 (i : Nat))) : Sem Value).run Try.prog w = .ok (.int .u32 (x / 2 ^ i : Nat)) w := by
  have e : min i 32 = i := by omega
  have e0 : ¬ ((i : Int) < 0) := by omega
  have e1 : IntKind.u32.bits = 32 := rfl
  have e2 : (x : Int).fdiv (2 ^ i) = ((x / 2 ^ i : Nat) : Int) := by
    rw [Int.fdiv_eq_ediv_of_nonneg _ (Int.pow_nonneg (by decide))]
    simp
  simp [go_sem, Op.shift, e, e0, e1, e2]
theorem B32_and1 {X Y : Operand} (x : Nat) (h : x < 4294967296) : ((do eqGuard .and 51 X Y (.int .u32 (x : Nat)) (.int .u32 1); binOp .and 51 (.int .u32 (x : Nat)) (.int .u32 1)) : Sem Value).run Try.prog w = .ok (.int .u32 (x % 2 : Nat)) w := by
  have e1 : bits .and .u32 (x : Int) 1 = ((x % 2 : Nat) : Int) := (u32_and_nat x 1 h (by decide)).trans (by rw [nat_mask1])
  simp [go_sem, e1]
theorem B32_eq1 {X Y : Operand} (x : Nat) : ((do eqGuard .eql 51 X Y (.int .u32 (x : Nat)) (.int .u32 1); binOp .eql 51 (.int .u32 (x : Nat)) (.int .u32 1)) : Sem Value).run Try.prog w = .ok (.bool (decide (x = 1))) w := by
  have e : ((x : Int) = 1) = (x = 1) := propext (by omega)
  have e3 : ((x : Int) == 1) = decide (x = 1) := by
    rw [Bool.eq_iff_iff, beq_iff_eq, decide_eq_true_iff]
    omega
  simp [go_sem, e3]
theorem Bi_quo {X Y : Operand} (x : Nat) (h : x < 1000000) : ((do eqGuard .quo 3 X Y (.int .i64 (x : Nat)) (.int .i64 8); binOp .quo 3 (.int .i64 (x : Nat)) (.int .i64 8)) : Sem Value).run Try.prog w = .ok (.int .i64 (x / 8 : Nat)) w := by
  have e : (x : Int).tdiv 8 = ((x / 8 : Nat) : Int) := Int.tdiv_eq_ediv_of_nonneg (by omega)
  have e2 : IntKind.i64.wrap ((x : Int) / 8) = (x : Int) / 8 := i64_id (by omega) (by omega)
  simp [go_sem, e, e2]
theorem Bi_rem {X Y : Operand} (x : Nat) (h : x < 1000000) : ((do eqGuard .rem 3 X Y (.int .i64 (x : Nat)) (.int .i64 8); binOp .rem 3 (.int .i64 (x : Nat)) (.int .i64 8)) : Sem Value).run Try.prog w = .ok (.int .i64 (x % 8 : Nat)) w := by
  have e : (x : Int).tmod 8 = ((x % 8 : Nat) : Int) := Int.tmod_eq_emod_of_nonneg (by omega)
  simp [go_sem, e]
theorem B8_shl {X Y : Operand} (j : Nat) (h : j < 8) : ((do eqGuard .shl 5 X Y (.int .u8 1) (.int .u64 (j : Nat)); binOp .shl 5 (.int .u8 1) (.int .u64 (j : Nat))) : Sem Value).run Try.prog w = .ok (.int .u8 (2 ^ j : Nat)) w := by
  rcases (show j = 0 ∨ j = 1 ∨ j = 2 ∨ j = 3 ∨ j = 4 ∨ j = 5 ∨ j = 6 ∨ j = 7 by omega) with rfl | rfl | rfl | rfl | rfl | rfl | rfl | rfl <;> simp [go_sem] <;> decide
theorem B8_xorN {X Y : Operand} (x y : Nat) (hx : x < 256) (hy : y < 256) : ((do eqGuard .xor 5 X Y (.int .u8 (x : Nat)) (.int .u8 (y : Nat)); binOp .xor 5 (.int .u8 (x : Nat)) (.int .u8 (y : Nat))) : Sem Value).run Try.prog w = .ok (.int .u8 (x ^^^ y : Nat)) w := by
  have e := u8_xor_nat x y hx hy
  simp [go_sem, e]
theorem Bb_eq {X Y : Operand} (x y : Bool) : ((do eqGuard .eql 4 X Y (.bool x) (.bool y); binOp .eql 4 (.bool x) (.bool y)) : Sem Value).run Try.prog w = .ok (.bool (x == y)) w := by
  simp [go_sem]
end
/-- A bit more turned. -/
theorem flip_step {xs : List Nat} {v p q i : Nat} (hx : ∀ x ∈ xs, x < 256) (hq : q < 2 ^ i) (hv : vl xs = v ^^^ 2 ^ p * q) (hk : (p + i) / 8 < xs.length) :
    (∀ x ∈ xs.set ((p + i) / 8) (xs.getD ((p + i) / 8) 0 ^^^ 2 ^ ((p + i) % 8)), x < 256) ∧ q ^^^ 2 ^ i < 2 ^ (i + 1) ∧ q ^^^ 2 ^ i ≠ 0 ∧ vl (xs.set ((p + i) / 8) (xs.getD ((p + i) / 8) 0 ^^^ 2 ^ ((p + i) % 8))) = v ^^^ 2 ^ p * (q ^^^ 2 ^ i) := by
  have hb : xs.getD ((p + i) / 8) 0 < 256 := by
    rw [List.getD_eq_getElem?_getD, List.getElem?_eq_getElem hk]
    exact hx _ (List.getElem_mem _)
  have h8 : 2 ^ ((p + i) % 8) < 2 ^ 8 := Nat.pow_lt_pow_right (by decide) (by omega)
  refine ⟨fun x hm => ?_, ?_, fun h0 => ?_, ?_⟩
  · rcases List.mem_or_eq_of_mem_set hm with hm | rfl
    · exact hx x hm
    · exact Nat.xor_lt_two_pow (n := 8) hb h8
  · exact Nat.xor_lt_two_pow (Nat.lt_of_lt_of_le hq (Nat.pow_le_pow_right (by decide) (by omega))) (Nat.pow_lt_pow_right (by decide) (by omega))
  · have e : q ^^^ 2 ^ i = q ^^^ q := by rw [h0, Nat.xor_self]
    have := xor_left_eq e
    omega
  · rw [vl_turn _ _ _ hk, hv, show 8 * ((p + i) / 8) + (p + i) % 8 = p + i by omega, pow_xor, Nat.pow_add, Nat.xor_assoc]
/-- What is read of a frame turned: it, if nothing was turned; else nothing. -/
theorem of_turned {m : PMsg} {b d : ByteArray} {xs : List Nat} {p q : Nat} (hw : wholeM d = .ok b) (ho : ofM d = .ok m) (hl : xs.length = d.size) (hx : ∀ x ∈ xs, x < 256) (hq : q < 4294967296) (hv : vl xs = vl (bytesOf d) ^^^ 2 ^ p * q) :
    (q = 0 ∧ ofM (packL xs) = .ok m) ∨ (q ≠ 0 ∧ ∃ f, f ≠ 0 ∧ ofM (packL xs) = .error f) := by
  by_cases h0 : q = 0
  · refine .inl ⟨h0, ?_⟩
    subst h0
    rw [Nat.mul_zero, Nat.xor_zero] at hv
    have e := vl_inj (by rw [hl, bytes_size]) hx bytesOf_lt hv
    have e2 : packL xs = d := bytes_inj (by rw [packL_bytes hx, e])
    rw [e2, ho]
  · refine .inr ⟨h0, ?_⟩
    obtain ⟨f, hf⟩ := burst_bad (d' := packL xs) hw (by rw [packL_size, hl]) hq (by rw [packL_bytes hx, hv]) h0
    refine ⟨f, whole_ne hf, ?_⟩
    unfold ofM
    rw [hf]
end Go.Proofs.Ytmmhchpilcjflaa
