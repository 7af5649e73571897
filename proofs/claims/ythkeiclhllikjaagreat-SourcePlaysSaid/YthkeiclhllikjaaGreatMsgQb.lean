/-
  pack.putVar: a number's bytes behind others.
-/
import Derived.Test.YthkeiclhllikjaaGreatMsgQa
import Derived.Tactics
import Derived.Tactics2
import Derived.LoopTactic
import Derived.WalkKit
import Derived.Lib.Hide
import Derived.Laws.BitsAllLaws
import Derived.Laws.BytesString
import Derived.Lib.BufferRead
set_option linter.unusedSimpArgs false
set_option linter.unusedVariables false
namespace Go.Proofs.YthkeiclhllikjaaGreat
open Go.RowKit
def vbytes (x : Nat) : List Nat := if x < 128 then [x] else (x % 128 + 128) :: vbytes (x / 128)
 termination_by x
 decreasing_by omega
theorem vbytes_small {x : Nat} (h : x < 128) : vbytes x = [x] := by rw [vbytes, if_pos h]
theorem vbytes_big {x : Nat} (h : 128 ≤ x) : vbytes x = (x % 128 + 128) :: vbytes (x / 128) := by rw [vbytes, if_neg (by omega)]
theorem vbytes_len (n : Nat) : ∀ x, x < 128 ^ (n + 1) → (vbytes x).length ≤ n + 1 := by
 induction n with
 | zero =>
  intro x hx
  rw [vbytes_small (by simpa using hx)]
  simp
 | succ n ih =>
  intro x hx
  by_cases h : x < 128
  ·rw [vbytes_small h]; simp
  ·rw [vbytes_big (by omega)]
   have := ih (x / 128) (by rw [Nat.div_lt_iff_lt_mul (by decide)]; rw [Nat.pow_succ] at hx; exact hx)
   simp only [List.length_cons]
   omega
theorem vbytes_le {x : Nat} (hx : x < 18446744073709551616) : (vbytes x).length ≤ 10 := vbytes_len 9 x (Nat.lt_of_lt_of_le hx (by decide))
theorem vbytes_pos (x : Nat) : 1 ≤ (vbytes x).length := by
 rw [vbytes]
 split <;> simp
def u8s (l : List Nat) : List Value := l.map fun b => Value.int .u8 (b : Nat)
theorem u8s_append (a b : List Nat) : u8s (a ++ b) = u8s a ++ u8s b := by simp [u8s]
theorem u8s_length (a : List Nat) : (u8s a).length = a.length := by simp [u8s]
theorem infoU8 : (Tryz.prog.info? 5).map (fun i => (i.zero, i.size, i.bytes)) = some (some (.int .u8 0), 1, 1) := by kernel_rfl
set_option maxRecDepth 100000 in
theorem or128 : ∀ a, a < 256 → a ||| 128 = a % 128 + 128 := by decide
theorem or128_int (k : Nat) : bits .or .u8 ((k : Int) % 256) 128 = ((k % 128 + 128 : Nat) : Int) := by
 have h : ((k : Int) % 256) = ((k % 256 : Nat) : Int) := by omega
 rw [h, show (128 : Int) = ((128 : Nat) : Int) from rfl, u8_or_nat (k % 256) 128 (by omega) (by decide), or128 _ (by omega)]
 congr 1
 omega
theorem RowIs.snoc {e : TypeId} {v : Value} {done : List Nat} {B : List Blk} {b : Nat} (h : RowIs e v (u8s done ++ [.int .u8 b]) B) : RowIs e v (u8s (done ++ [b])) B := by
 rw [u8s_append]; exact h
theorem Live.put_new {w0 W : World} {B L : List Blk} (h : Live w0 (B ++ L) W) (A : Array Value) (t : TypeId) : Live w0 (B ++ (W.heap.size, A, t) :: L) (W.alloc (.cells A t)) :=
 (h.alloc A t).perm (List.perm_middle).symm
section
variable {w0 W : World} {B L : List Blk} {v : Value} {xs : List Nat}
set_option maxRecDepth 100000 in
theorem putVar_ok {x : Nat} (hx : x < 18446744073709551616) (hr : RowIs 5 v (u8s xs) B) (h : Live w0 (B ++ L) W) (hn : xs.length + 20 ≤ 140737488355328) :
  Calls Tryz.prog 152 #[v, .int .u64 x] W fun e W' => ∃ v' B', e = .returned v' ∧ RowIs 5 v' (u8s (xs ++ vbytes x)) B' ∧ Live w0 (B' ++ L) W' := by
 obtain ⟨i0, hi, hz0, hz1, hz2⟩ := info_parts infoU8
 go_enter Tryz.func152, Tryz.ntmps152
 go_wp2_with fail
 go_loopw [0, 1] (fun a y wr => ∃ (k : Nat) (done : List Nat) (B' : List Blk), y = .int .u64 k ∧ k < 18446744073709551616 ∧ xs ++ vbytes x = done ++ vbytes k ∧ RowIs 5 a (u8s done) B' ∧ Live w0 (B' ++ L) wr) (fun _ y _ => (intOf y).toNat)
 case atStart => exact ⟨x, xs, B, rfl, hx, rfl, hr, h⟩
 case round =>
  obtain ⟨k, done, B', rfl, hk, heq, hrow, hlive⟩ := hrel
  have Heq := Lib.hid heq
  have Hrow := Lib.hid hrow
  have Hk := Lib.hid hk
  have hlen : done.length + 1 ≤ 140737488355328 := by
   have h1 := congrArg List.length heq
   simp only [List.length_append] at h1
   have h2 := vbytes_le hx
   have h3 := vbytes_pos k
   omega
  have Hlen := Lib.hid hlen
  have Hx := Lib.hid hx
  have Hn := Lib.hid hn
  clear heq hrow hk hlen hx hn
  by_cases hb : k < 128
  ·have e1 : decide ((128 : Int) ≤ (k : Int)) = false := decide_eq_false (by omega)
   have e2 : (k : Int) % 256 = k := by omega
   have Hb := Lib.hid hb
   clear hb
   go_wp2_with (at_builtin; refine wpList_append_row rfl (.tmp 15) (.tmp 18) 72 rfl 5 i0 (.int .u8 0) 1 Tryz.underlying72 hi hz0 hz1 hz2 rfl _ (u8s done) rfl Hrow.out (hlive.put_new _ _) ⟨wr.heap.size, 0, none⟩ 1 1 [.int .u8 k] rfl rfl (cell_one_new _ _ _) (fun u hu => by simp at hu; subst hu; rfl) (by have := Hlen.out; rw [u8s_length]; unfold maxLen; omega) (by have := Hlen.out; rw [u8s_length]; omega) ?_)
   intro v' w' B2 hr2 hl2 _
   go_wp2
   go_ret
   refine ⟨v', B2, rfl, ?_, ?_⟩
   ·rw [Heq.out, vbytes_small Hb.out]
    exact hr2.snoc
   ·exact (hl2.perm List.perm_middle).tail
  ·have e1 : decide ((128 : Int) ≤ (k : Int)) = true := decide_eq_true (by omega)
   have e2 := or128_int k
   have Hb := Lib.hid hb
   clear hb
   go_wp2_with (at_builtin; refine wpList_append_row rfl (.tmp 9) (.tmp 13) 72 rfl 5 i0 (.int .u8 0) 1 Tryz.underlying72 hi hz0 hz1 hz2 rfl _ (u8s done) rfl Hrow.out (hlive.put_new _ _) ⟨wr.heap.size, 0, none⟩ 1 1 [.int .u8 (k % 128 + 128 : Nat)] rfl rfl (cell_one_new _ _ _) (fun u hu => by simp at hu; subst hu; rfl) (by have := Hlen.out; rw [u8s_length]; unfold maxLen; omega) (by have := Hlen.out; rw [u8s_length]; omega) ?_)
   intro v' w' B2 hr2 hl2 _
   go_wp2
   refine ⟨⟨k / 128, done ++ [k % 128 + 128], B2, ?_, ?_, ?_, hr2.snoc, ?_⟩, ?_⟩
   ·simp
   ·have := Hk.out; omega
   ·rw [Heq.out, vbytes_big (by have := Hb.out; omega)]; simp
   ·exact (hl2.perm List.perm_middle).tail
   ·have := Hb.out
    simp only [intOf]
    omega
end
end Go.Proofs.YthkeiclhllikjaaGreat
/-
 pack.Out's methods: what is written stands in the row of the slice.
-/
namespace Go.Proofs.YthkeiclhllikjaaGreat
open Go.RowKit
theorem Live.mid {w0 W : World} {B L : List Blk} {p : Blk} (h : Live w0 (B ++ p :: L) W) : Live w0 (p :: (B ++ L)) W := h.perm List.perm_middle
theorem Live.unmid {w0 W : World} {B L : List Blk} {p : Blk} (h : Live w0 (p :: (B ++ L)) W) : Live w0 (B ++ p :: L) W := h.perm List.perm_middle.symm
theorem RowIs.shape {e : TypeId} {v : Value} {xs : List Value} {B : List Blk} (h : RowIs e v xs B) : ∃ a n c, v = .slice a n c := by
 rcases h with ⟨rfl, _, _⟩ | ⟨g, cap, cur, rfl, _⟩
 ·exact ⟨_, _, _, rfl⟩
 ·exact ⟨_, _, _, rfl⟩
def bytesOf (s : ByteArray) : List Nat := s.data.toList.map (·.toNat)
theorem u8s_bytesOf (s : ByteArray) : u8s (bytesOf s) = Lib.strCells s := by
 simp [u8s, bytesOf, Lib.strCells, List.map_map]
section
variable {P : Program} {w0 w : World} {B L : List Blk}
theorem wpList_append_row_string {ops : Array Oper} {rest : List Oper} {o : Oper} {a : Act} {Q : Exit → Act → World → Prop} (hgd : o.guard = none) (sl x : Operand) (t u : TypeId)
  (ho : o.op = .call { callee := .builtin .append, args := #[sl, x], argTypes := #[t, u] })
  (e : TypeId) (i : TypeInfo) (ht : P.underlying t = some (.slice e)) (hu : P.underlying u = some .string) (hi : P.info? e = some i) (hz : i.zero = some (.int .u8 0))
  (hsize : i.size = 1) (hby : i.bytes = 1)
  (v : Value) (xs : List Value) (hs : a.eval sl = v) (hrow : RowIs e v xs B) (hlive : Live w0 (B ++ L) w) (s : ByteArray) (hx : a.eval x = .string s)
  (hbytes : xs.length + s.size ≤ 140737488355328)
  (h : ∀ v' w' B', RowIs e v' (xs ++ Lib.strCells s) B' → Live w0 (B' ++ L) w' → wpList P ops Q rest (a.put o.dst v') w') : wpList P ops Q (o :: rest) a w := by
 have hown := hrow.owns hlive
 refine wpList_plain hgd fun K hK => ?_
 obtain ⟨v', w', hr, h2, h3, h4⟩ := Lib.run_append_own_string (P := P) w w0.heap.size t u o.type e i ht hu hi hz hsize hby v xs.length xs hown s (by unfold maxLen; omega) hbytes hlive.1.size
 have hat : v'.ownBlock = v.ownBlock ∨ v'.ownBlock = some w.heap.size := by
  rcases hown.2 with ⟨rfl, hn0⟩ | ⟨g, cap, cur, rfl, hbg, hg, hnc, hcm, hcs, htake⟩
  ·by_cases hm : s.size = 0
   ·rw [h4.2 ⟨rfl, hm⟩]; exact .inl rfl
   ·have hr2 := run_append_nil_string (P := P) w t u o.type e i (.int .u8 0) ht hu hi hz s (by omega) (by omega) (by rw [hby]; omega)
    rw [hr2] at hr
    cases hr
    exact .inr rfl
  ·by_cases hroom : xs.length + s.size ≤ cap
   ·have hr2 := Lib.run_append_room_string (P := P) w t u o.type e i ht hu hi hsize g xs.length cap cur hg s hroom (by simp at hcs; omega)
    rw [hr2] at hr
    cases hr
    exact .inl rfl
   ·have hr2 := Lib.run_append_grow_string (P := P) w t u o.type e i (.int .u8 0) ht hu hi hz ⟨g, 0, none⟩ xs.length cap xs (by rw [hsize]; simp) (hown.cells (g := g) rfl) s (by omega) (by omega) (by rw [hby]; exact growslice_fits (by omega) (by omega))
    rw [hr2] at hr
    cases hr
    exact .inr rfl
 obtain ⟨B', hr', hL'⟩ := hrow.grow hlive h2 h3 hat
 unfold Oper.wp execOp
 simp only [ho, resolve, invoke, builtin, Sem.run_bind, Sem.run_pure, Result.andThen_ok, List.map_toArray, List.map_cons, List.map_nil, hs, hx, hr]
 exact hK _ _ (h v' w' B' hr' hL')
end
def zig (n : Int) : Nat := if 0 ≤ n then (2 * n).toNat else (-2 * n - 1).toNat
section
variable {w0 W : World} {B L : List Blk} {v : Value} {xs : List Nat} {wb : Nat} {t : TypeId}
theorem outNum_ok {x : Nat} (hx : x < 18446744073709551616) (hr : RowIs 5 v (u8s xs) B) (h : Live w0 (B ++ (wb, #[v], t) :: L) W) (hn : xs.length + 20 ≤ 140737488355328) :
  Calls Tryz.prog 148 #[.pointer (some ⟨wb, 0, none⟩), .int .u64 x] W fun e W' =>
   ∃ v' B', e = .returned (.tuple #[]) ∧ RowIs 5 v' (u8s (xs ++ vbytes x)) B' ∧ Live w0 (B' ++ (wb, #[v'], t) :: L) W' := by
 have c0 : W.cell? ⟨wb, 0, none⟩ = some v := h.mid.cell 0
 have hp := putVar_ok hx hr h hn
 clear hx hn
 go_enter Tryz.func148, Tryz.ntmps148
 go_wp2_with fail
 refine hp.mono ?_
 rintro e W' ⟨v', B', rfl, hr', h'⟩
 have c1 : W'.cell? ⟨wb, 0, none⟩ = some v := h'.mid.cell 0
 have z1 := h'.mid.thaw 0
 obtain ⟨a1, n1, c2, rfl⟩ := hr'.shape
 go_wp2
 go_end0
 exact ⟨_, B', rfl, hr', (h'.mid.put 0 _).unmid⟩
set_option maxRecDepth 100000 in
theorem outByte_ok {x : Nat} (hr : RowIs 5 v (u8s xs) B) (h : Live w0 (B ++ (wb, #[v], t) :: L) W) (hn : xs.length + 1 ≤ 140737488355328) :
  Calls Tryz.prog 147 #[.pointer (some ⟨wb, 0, none⟩), .int .u8 x] W fun e W' =>
   ∃ v' B', e = .returned (.tuple #[]) ∧ RowIs 5 v' (u8s (xs ++ [x])) B' ∧ Live w0 (B' ++ (wb, #[v'], t) :: L) W' := by
 obtain ⟨i0, hi, hz0, hz1, hz2⟩ := info_parts infoU8
 have c0 : W.cell? ⟨wb, 0, none⟩ = some v := h.mid.cell 0
 have Hn := Lib.hid hn
 clear hn
 go_enter Tryz.func147, Tryz.ntmps147
 go_wp2_with (at_builtin; refine wpList_append_row rfl (.tmp 10) (.tmp 12) 72 rfl 5 i0 (.int .u8 0) 1 Tryz.underlying72 hi hz0 hz1 hz2 rfl _ (u8s xs) rfl hr (h.put_new _ _) ⟨W.heap.size, 0, none⟩ 1 1 [.int .u8 x] rfl rfl (cell_one_new _ _ _) (fun u hu => by simp at hu; subst hu; rfl) (by have := Hn.out; rw [u8s_length]; unfold maxLen; omega) (by have := Hn.out; rw [u8s_length]; omega) ?_)
 intro v' W' B' hr' hl _
 have h' := (hl.perm List.perm_middle).tail
 have c1 : W'.cell? ⟨wb, 0, none⟩ = some v := h'.mid.cell 0
 have z1 := h'.mid.thaw 0
 obtain ⟨a1, n1, c2, rfl⟩ := hr'.shape
 go_wp2
 go_end0
 exact ⟨_, B', rfl, hr'.snoc, (h'.mid.put 0 _).unmid⟩
set_option maxRecDepth 100000 in
theorem outText_ok {s : ByteArray} (hr : RowIs 5 v (u8s xs) B) (h : Live w0 (B ++ (wb, #[v], t) :: L) W) (hn : xs.length + s.size + 20 ≤ 140737488355328) :
  Calls Tryz.prog 151 #[.pointer (some ⟨wb, 0, none⟩), .string s] W fun e W' =>
   ∃ v' B', e = .returned (.tuple #[]) ∧ RowIs 5 v' (u8s (xs ++ vbytes s.size ++ bytesOf s)) B' ∧ Live w0 (B' ++ (wb, #[v'], t) :: L) W' := by
 obtain ⟨i0, hi, hz0, hz1, hz2⟩ := info_parts infoU8
 have hw : IntKind.u64.wrap (s.size : Int) = s.size := by simp only [IntKind.wrap, show IntKind.u64.bits = 64 from rfl, show IntKind.u64.signed = false from rfl, Bool.false_and, Bool.false_eq_true, if_false]; omega
 have hw2 : (s.size : Int) % 18446744073709551616 = s.size := by omega
 have hp := outNum_ok (x := s.size) (by omega) hr h (by omega)
 have hv := vbytes_le (x := s.size) (by omega)
 have Hn : xs.length + (vbytes s.size).length + s.size ≤ 140737488355328 := by omega
 have Hn := Lib.hid Hn
 clear hn hv
 go_enter Tryz.func151, Tryz.ntmps151
 go_wp2_with fail
 refine hp.mono ?_
 rintro e W' ⟨v', B', rfl, hr', h'⟩
 have c1 : W'.cell? ⟨wb, 0, none⟩ = some v' := h'.mid.cell 0
 go_wp2_with (at_builtin; refine wpList_append_row_string rfl (.tmp 15) (.tmp 16) 72 9 rfl 5 i0 Tryz.underlying72 Tryz.underlying9 hi hz0 hz1 hz2 _ (u8s (xs ++ vbytes s.size)) rfl hr' h' s rfl (by have := Hn.out; rw [u8s_length, List.length_append]; exact this) ?_)
 intro v2 W2 B2 hr2 h2
 have d1 : W2.cell? ⟨wb, 0, none⟩ = some v' := h2.mid.cell 0
 have z1 := h2.mid.thaw 0
 obtain ⟨a1, n1, c2, rfl⟩ := hr2.shape
 go_wp2
 go_end0
 exact ⟨_, B2, rfl, by rw [u8s_append, u8s_bytesOf]; exact hr2, (h2.mid.put 0 _).unmid⟩
end
end Go.Proofs.YthkeiclhllikjaaGreat
/-
 pack.Out's Int and String.
-/
namespace Go.Proofs.YthkeiclhllikjaaGreat
open Go.RowKit
theorem wrap_u64 (n : Int) : IntKind.u64.wrap n = n % 18446744073709551616 := by
 simp only [IntKind.wrap, show IntKind.u64.bits = 64 from rfl, show IntKind.u64.signed = false from rfl, Bool.false_and, Bool.false_eq_true, if_false]
 rfl
theorem xor_ones {a : Nat} (ha : a < 18446744073709551616) : a ^^^ 18446744073709551615 = 18446744073709551615 - a := by
 have h := BitVec.toNat_not (x := BitVec.ofNat 64 a)
 rw [← BitVec.xor_allOnes, BitVec.toNat_xor, BitVec.toNat_ofNat, BitVec.toNat_allOnes, Nat.mod_eq_of_lt (by omega)] at h
 omega
theorem zig_bits {n : Int} (h0 : -9223372036854775808 ≤ n) (h1 : n < 9223372036854775808) :
  bits .xor .u64 (IntKind.u64.wrap (IntKind.u64.wrap n * 2)) (IntKind.u64.wrap (n / 9223372036854775808)) = (zig n : Nat) := by
 rw [wrap_u64, wrap_u64, wrap_u64]
 by_cases hs : 0 ≤ n
 ·have e1 : n % 18446744073709551616 * 2 % 18446744073709551616 = ((2 * n).toNat : Int) := by omega
  have e2 : n / 9223372036854775808 % 18446744073709551616 = ((0 : Nat) : Int) := by omega
  rw [e1, e2, u64_xor_nat _ _ (by omega) (by omega), Nat.xor_zero, zig, if_pos hs]
 ·have e1 : n % 18446744073709551616 * 2 % 18446744073709551616 = ((2 * n + 18446744073709551616).toNat : Int) := by omega
  have e2 : n / 9223372036854775808 % 18446744073709551616 = ((18446744073709551615 : Nat) : Int) := by omega
  rw [e1, e2, u64_xor_nat _ _ (by omega) (by omega), xor_ones (by omega), zig, if_neg hs]
  congr 1
  omega
section
variable {w0 W : World} {B L : List Blk} {v : Value} {xs : List Nat} {wb : Nat} {t : TypeId}
set_option maxRecDepth 100000 in
theorem outInt_ok {n : Int} (h0 : -9223372036854775808 ≤ n) (h1 : n < 9223372036854775808) (hr : RowIs 5 v (u8s xs) B) (h : Live w0 (B ++ (wb, #[v], t) :: L) W) (hn : xs.length + 20 ≤ 140737488355328) :
  Calls Tryz.prog 150 #[.pointer (some ⟨wb, 0, none⟩), .int .i64 n] W fun e W' =>
   ∃ v' B', e = .returned (.tuple #[]) ∧ RowIs 5 v' (u8s (xs ++ vbytes (zig n))) B' ∧ Live w0 (B' ++ (wb, #[v'], t) :: L) W' := by
 have c0 : W.cell? ⟨wb, 0, none⟩ = some v := h.mid.cell 0
 have hz : zig n < 18446744073709551616 := by unfold zig; split <;> omega
 have hp := putVar_ok hz hr h hn
 clear hn
 have Hz := Lib.hid hz
 have H0 := Lib.hid h0
 have H1 := Lib.hid h1
 clear hz h0 h1
 go_enter Tryz.func150, Tryz.ntmps150
 go_wp2_with fail
 rw [zig_bits H0.out H1.out]
 refine hp.mono ?_
 rintro e W' ⟨v', B', rfl, hr', h'⟩
 have c1 : W'.cell? ⟨wb, 0, none⟩ = some v := h'.mid.cell 0
 have z1 := h'.mid.thaw 0
 obtain ⟨a1, n1, c2, rfl⟩ := hr'.shape
 go_wp2
 go_end0
 exact ⟨_, B', rfl, hr', (h'.mid.put 0 _).unmid⟩
theorem string_run (hr : RowIs 5 v (u8s xs) B) (h : Live w0 (B ++ L) W) (hb : ∀ x ∈ xs, x < 256) :
  (convert 72 9 v).run Tryz.prog W = .ok (.string ⟨(xs.map UInt8.ofNat).toArray⟩) W := by
 rcases hr with ⟨rfl, hx, rfl⟩ | ⟨g, cap, cur, rfl, rfl, h1, h2, h3, h4⟩
 ·have : xs = [] := by simpa [u8s] using hx
  subst this
  exact Lib.run_convert_nil_bytes W 72 9 5 0 Tryz.underlying72 Tryz.underlying5 Tryz.underlying9
 ·have hl : (u8s xs).length = (xs.map UInt8.ofNat).length := by simp [u8s]
  rw [hl]
  refine run_convert_bytes_back W 72 9 5 ⟨g, 0, none⟩ cap (xs.map UInt8.ofNat) Tryz.underlying72 Tryz.underlying5 Tryz.underlying9 ?_
  refine Lib.bytes_of_row h.at_ ?_
  rw [← hl, h4]
  simp only [u8s, Lib.byteCells, List.map_map]
  refine List.map_congr_left fun x hx => ?_
  simp only [Function.comp_apply]
  rw [UInt8.toNat_ofNat_of_lt' (hb x hx)]
theorem outString_ok (hr : RowIs 5 v (u8s xs) B) (h : Live w0 (B ++ (wb, #[v], t) :: L) W) (hb : ∀ x ∈ xs, x < 256) :
  Calls Tryz.prog 82 #[.pointer (some ⟨wb, 0, none⟩)] W fun e W' => e = .returned (.string ⟨(xs.map UInt8.ofNat).toArray⟩) ∧ W' = W := by
 have c0 : W.cell? ⟨wb, 0, none⟩ = some v := h.mid.cell 0
 have hs := string_run hr h hb
 go_enter Tryz.func82, Tryz.ntmps82
 go_wp2
 go_ret
 exact ⟨rfl, rfl⟩
end
end Go.Proofs.YthkeiclhllikjaaGreat
