/-
  pack.Out: bytes that are written, among what a law has made.
-/
import Derived.Test.YtnjfjdfjheiocaaGreatShTw
import Derived.Lib.BufferRead
import Derived.Lib.AppendStr
import Derived.Laws.BitsAllLaws
set_option linter.unusedSimpArgs false
set_option linter.unusedVariables false
namespace Go.Proofs.YtnjfjdfjheiocaaGreat
open Go.RowKit
/-- A number's bytes. -/
def vbytes (x : Nat) : List Nat := if x < 128 then [x] else (x % 128 + 128) :: vbytes (x / 128)
  termination_by x
  decreasing_by omega

theorem vbytes_small {x : Nat} (h : x < 128) : vbytes x = [x] := by rw [vbytes, if_pos h]
theorem vbytes_big {x : Nat} (h : 128 ≤ x) : vbytes x = (x % 128 + 128) :: vbytes (x / 128) := by rw [vbytes, if_neg (by omega)]

theorem vbytes_len (n : Nat) : ∀ x, x < 128 ^ (n + 1) → (vbytes x).length ≤ n + 1 := by
  induction n with
  | zero =>
    intro x hx
    rw [vbytes_small (by simpa using hx)]
    simp
  | succ n ih =>
    intro x hx
    by_cases h : x < 128
    · rw [vbytes_small h]; simp
    · rw [vbytes_big (by omega)]
      have := ih (x / 128) (by rw [Nat.div_lt_iff_lt_mul (by decide)]; rw [Nat.pow_succ] at hx; exact hx)
      simp only [List.length_cons]
      omega
theorem vbytes_le {x : Nat} (hx : x < 18446744073709551616) : (vbytes x).length ≤ 10 := vbytes_len 9 x (Nat.lt_of_lt_of_le hx (by decide))
theorem vbytes_pos (x : Nat) : 1 ≤ (vbytes x).length := by
  rw [vbytes]
  split <;> simp

def u8s (l : List Nat) : List Value := l.map fun b => Value.int .u8 (b : Nat)
theorem u8s_one (l : List Nat) : ∀ u ∈ u8s l, u.oneCell' = true := by
  intro u hu
  obtain ⟨b, _, rfl⟩ := List.mem_map.1 hu
  rfl
theorem u8s_append (a b : List Nat) : u8s (a ++ b) = u8s a ++ u8s b := by simp [u8s]
theorem u8s_length (a : List Nat) : (u8s a).length = a.length := by simp [u8s]

theorem infoU8 : (Tryz.prog.info? 5).map (fun i => (i.zero, i.size, i.bytes)) = some (some (.int .u8 0), 1, 1) := by kernel_rfl

set_option maxRecDepth 100000 in
theorem or128 : ∀ a, a < 256 → a ||| 128 = a % 128 + 128 := by decide
theorem or128_int (k : Nat) : bits .or .u8 ((k : Int) % 256) 128 = ((k % 128 + 128 : Nat) : Int) := by
  have h : ((k : Int) % 256) = ((k % 256 : Nat) : Int) := by omega
  rw [h, show (128 : Int) = ((128 : Nat) : Int) from rfl, u8_or_nat (k % 256) 128 (by omega) (by decide), or128 _ (by omega)]
  congr 1
  omega
def bytesOf (s : ByteArray) : List Nat := s.data.toList.map (·.toNat)
theorem u8s_bytesOf (s : ByteArray) : u8s (bytesOf s) = Lib.strCells s := by
  simp [u8s, bytesOf, Lib.strCells, List.map_map]

/-- An integer as a number: its sign is the lowest bit. -/
def zig (n : Int) : Nat := if 0 ≤ n then (2 * n).toNat else (-2 * n - 1).toNat

theorem wrap_u64 (n : Int) : IntKind.u64.wrap n = n % 18446744073709551616 := by
  simp only [IntKind.wrap, show IntKind.u64.bits = 64 from rfl, show IntKind.u64.signed = false from rfl, Bool.false_and, Bool.false_eq_true, if_false]
  rfl
theorem xor_ones {a : Nat} (ha : a < 18446744073709551616) : a ^^^ 18446744073709551615 = 18446744073709551615 - a := by
  have h := BitVec.toNat_not (x := BitVec.ofNat 64 a)
  rw [← BitVec.xor_allOnes, BitVec.toNat_xor, BitVec.toNat_ofNat, BitVec.toNat_allOnes, Nat.mod_eq_of_lt (by omega)] at h
  omega
theorem zig_bits {n : Int} (h0 : -9223372036854775808 ≤ n) (h1 : n < 9223372036854775808) :
    bits .xor .u64 (IntKind.u64.wrap (IntKind.u64.wrap n * 2)) (IntKind.u64.wrap (n / 9223372036854775808)) = (zig n : Nat) := by
  rw [wrap_u64, wrap_u64, wrap_u64]
  by_cases hs : 0 ≤ n
  · have e1 : n % 18446744073709551616 * 2 % 18446744073709551616 = ((2 * n).toNat : Int) := by omega
    have e2 : n / 9223372036854775808 % 18446744073709551616 = ((0 : Nat) : Int) := by omega
    rw [e1, e2, u64_xor_nat _ _ (by omega) (by omega), Nat.xor_zero, zig, if_pos hs]
  · have e1 : n % 18446744073709551616 * 2 % 18446744073709551616 = ((2 * n + 18446744073709551616).toNat : Int) := by omega
    have e2 : n / 9223372036854775808 % 18446744073709551616 = ((18446744073709551615 : Nat) : Int) := by omega
    rw [e1, e2, u64_xor_nat _ _ (by omega) (by omega), xor_ones (by omega), zig, if_neg hs]
    congr 1
    omega

section
variable {w0 W W' : World} {L X : List Thg} {e : TypeId} {size n n' : Nat} {v v' : Value} {xs xs' : List Value}
/-- A row that was grown. -/
theorem PRow.grow (hr : PRow e size v n xs X) (hL : LV w0 (X ++ L) W) (ho2 : W'.ownsRow w0.heap.size e size v' n' xs') (hg : W.grownBy W' v.ownBlock) (hloc : v'.ownBlock = v.ownBlock ∨ v'.ownBlock = some W.heap.size) : ∃ X', PRow e size v' n' xs' X' ∧ LV w0 (X' ++ L) W' := by
  rcases hr.2 with ⟨rfl, rfl, rfl⟩ | ⟨g, cap, c0, rfl, rfl, _, _, _, _⟩
  · -- nothing was owned
    have hg2 : W.grownBy W' none := ⟨hg.os, hg.tape, hg.output, hg.size, fun k hk _ => hg.block k hk (by simp [Value.ownBlock])⟩
    have ho3 : W'.ownsRow W.heap.size e size v' n' xs' := by
      refine ⟨ho2.1, ?_⟩
      rcases ho2.2 with h | ⟨g2, cap2, cur2, rfl, hbg, h2⟩
      · exact .inl h
      · refine .inr ⟨g2, cap2, cur2, rfl, ?_, h2⟩
        rcases hloc with h | h
        · simp [Value.ownBlock] at h
        · simp [Value.ownBlock] at h
          omega
    obtain ⟨X', h4, h5⟩ := owned_thing (L := L) hL hg2 ho3
    exact ⟨X', h4, h5⟩
  · rcases ho2.2 with ⟨rfl, h0⟩ | ⟨g2, cap2, cur2, rfl, hbg, hgb, h3, h4, h5, h6⟩
    · -- nothing came of it: nothing was there
      refine ⟨[], ⟨ho2.1, .inl ⟨rfl, h0, rfl⟩⟩, ?_⟩
      have h7 : LV w0 (bk g c0 e :: L) W := hL
      refine ⟨?_, h7.tail.2.1, fun q hq => ⟨(h7.tail.2.2 q hq).1, okSame (h7.tail.2.2 q hq).2 (hg.block q.1 (Thg.lt (h7.tail.2.2 q hq).2) ?_)⟩⟩
      · refine ⟨hg.os.trans h7.1.os, hg.tape.trans h7.1.tape, hg.output.trans h7.1.output, Nat.le_trans h7.1.size hg.size, fun k hk => ?_⟩
        have hge : w0.heap.size ≤ g := h7.ge
        exact (hg.block k (Nat.lt_of_lt_of_le hk h7.1.size) (by intro e2; have e3 : k = g := Option.some.inj e2; omega)).trans (h7.1.block k hk)
      · intro e2
        exact h7.ne q hq (Option.some.inj e2)
    · have h7 : LV w0 (bk g c0 e :: L) W := hL
      by_cases hgg : g2 = g
      · subst hgg
        exact ⟨[bk g2 cur2 e], ⟨ho2.1, .inr ⟨g2, cap2, cur2, rfl, rfl, h3, h4, h5, h6⟩⟩, h7.turned hg rfl hgb⟩
      · have hnew : g2 = W.heap.size := by
          rcases hloc with h | h
          · simp [Value.ownBlock] at h
            exact absurd h hgg
          · simpa [Value.ownBlock] using h
        have hold : LV w0 L W' := by
          refine ⟨?_, h7.tail.2.1, fun q hq => ⟨(h7.tail.2.2 q hq).1, okSame (h7.tail.2.2 q hq).2 (hg.block q.1 (Thg.lt (h7.tail.2.2 q hq).2) ?_)⟩⟩
          · refine ⟨hg.os.trans h7.1.os, hg.tape.trans h7.1.tape, hg.output.trans h7.1.output, Nat.le_trans h7.1.size hg.size, fun k hk => ?_⟩
            have hge : w0.heap.size ≤ g := h7.ge
            exact (hg.block k (Nat.lt_of_lt_of_le hk h7.1.size) (by intro e2; have e3 : k = g := Option.some.inj e2; omega)).trans (h7.1.block k hk)
          · intro e2
            exact h7.ne q hq (Option.some.inj e2)
        refine ⟨[bk g2 cur2 e], ⟨ho2.1, .inr ⟨g2, cap2, cur2, rfl, rfl, h3, h4, h5, h6⟩⟩, hold.cons (Nat.le_trans h7.1.size (by simp only; omega)) (fun q hq => ?_) hgb⟩
        have := Thg.lt (h7.tail.2.2 q hq).2
        simp only
        omega
end
section
variable {w0 W W' w : World} {L X : List Thg} {v : Value} {xs : List Nat} {go : Nat}
/-- A text's bytes are appended. -/
theorem app_str {u : TypeId} {s : ByteArray} (hr : PRow 5 1 v xs.length (u8s xs) X) (hL : LV w0 (X ++ L) W) (hu : Tryz.prog.underlying u = some .string) (hn : xs.length + s.size ≤ 1000000000000) (ty : TypeId) : ∃ v' W' X', (Builtin.append_ #[131, u] ty #[v, .string s]).run Tryz.prog W = .ok v' W' ∧ PRow 5 1 v' (xs ++ bytesOf s).length (u8s (xs ++ bytesOf s)) X' ∧ LV w0 (X' ++ L) W' := by
  obtain ⟨i, hi, hz, hs, hby⟩ := info_parts infoU8
  have hown := hr.owns hL
  obtain ⟨v', w', hrun, h2, h3, h4⟩ := Lib.run_append_own_string (P := Tryz.prog) W w0.heap.size 131 u ty 5 i Tryz.underlying131 hu hi hz hs hby v xs.length (u8s xs) hown s (by unfold maxLen; omega) (by omega) hL.1.size
  have hat : v'.ownBlock = v.ownBlock ∨ v'.ownBlock = some W.heap.size := by
    rcases hown.2 with ⟨rfl, hn0⟩ | ⟨g, cap, cur, rfl, hbg, hg, hnc, hcm, hcs, htake⟩
    · by_cases hm : s.size = 0
      · rw [h4.2 ⟨rfl, hm⟩]; exact .inl rfl
      · have hr2 := run_append_nil_string (P := Tryz.prog) W 131 u ty 5 i (.int .u8 0) Tryz.underlying131 hu hi hz s (by omega) (by omega) (by rw [hby]; omega)
        rw [hr2] at hrun
        cases hrun
        exact .inr rfl
    · by_cases hroom : xs.length + s.size ≤ cap
      · have hr2 := Lib.run_append_room_string (P := Tryz.prog) W 131 u ty 5 i Tryz.underlying131 hu hi hs g xs.length cap cur hg s hroom (by simp at hcs; omega)
        rw [hr2] at hrun
        cases hrun
        exact .inl rfl
      · have hr2 := Lib.run_append_grow_string (P := Tryz.prog) W 131 u ty 5 i (.int .u8 0) Tryz.underlying131 hu hi hz ⟨g, 0, none⟩ xs.length cap (u8s xs) (by rw [hs]; simp [u8s]) (hown.cells (g := g) rfl) s (by omega) (by omega) (by rw [hby]; exact growslice_fits (by omega) (by omega))
        rw [hr2] at hrun
        cases hrun
        exact .inr rfl
  obtain ⟨X', h5, h6⟩ := hr.grow hL h2 h3 hat
  refine ⟨v', w', X', hrun, ?_, h6⟩
  rw [u8s_append, u8s_bytesOf, List.length_append]
  have e : (bytesOf s).length = s.size := by unfold bytesOf; rw [List.length_map, Array.length_toList]; rfl
  rw [e]
  exact h5
/-- One byte is appended. -/
theorem app_b {b gn : Nat} (hr : PRow 5 1 v xs.length (u8s xs) X) (hL : LV w0 (X ++ L) W) (hm : bk gn #[.int .u8 (b : Nat)] 5 ∈ L) (hn : xs.length + 1 ≤ 1000000) (ty : TypeId) : ∃ v' W' X', (Builtin.append_ #[131, 131] ty #[v, .slice (some ⟨gn, 0, none⟩) 1 1]).run Tryz.prog W = .ok v' W' ∧ PRow 5 1 v' (xs ++ [b]).length (u8s (xs ++ [b])) X' ∧ LV w0 (X' ++ L) W' := by
  obtain ⟨i, hi, hz, hs, hby⟩ := info_parts infoU8
  obtain ⟨v', W', X', h1, h2, h3⟩ := app_run (m := 1) (t := 131) hr hL hm (news := [.int .u8 (b : Nat)]) rfl Tryz.underlying131 hi hz hs hby rfl (by decide) rfl (by intro u hu; simp at hu; subst hu; rfl) hn (by decide) ty (cn := 1)
  refine ⟨v', W', X', h1, ?_, h3⟩
  rw [u8s_append, List.length_append]
  exact h2
theorem prow_shape {e : TypeId} {size n : Nat} {ys : List Value} (h : PRow e size v n ys X) : ∃ q c, v = .slice q n c := by
  rcases h.2 with ⟨rfl, rfl, _⟩ | ⟨g, cap, cur, rfl, _⟩
  · exact ⟨_, _, rfl⟩
  · exact ⟨_, _, rfl⟩
theorem LV.midX {p : Thg} (h : LV w0 (X ++ p :: L) W) : LV w0 (p :: (X ++ L)) W := h.perm List.perm_middle
theorem LV.unmidX {p : Thg} (h : LV w0 (p :: (X ++ L)) W) : LV w0 (X ++ p :: L) W := h.perm List.perm_middle.symm
theorem bs_b {b : Int} : (Instr.buildSlice 131 1 #[(0, .int .u8 b)]).run Tryz.prog w = .ok (.slice (some ⟨w.heap.size, 0, none⟩) 1 1) (w.alloc (.cells #[.int .u8 b] 5)) := by
  simp [go_sem]
theorem cv_u8 {y : Nat} : (convert 47 5 (.int .u64 (y : Nat))).run Tryz.prog w = .ok (.int .u8 ((y : Int) % 256)) w := by
  simp [go_sem, IntKind.wrap, show IntKind.u8.signed = false from rfl]
theorem or_128 {y : Nat} {t : TypeId} {A B : Operand} : (EOp.bin .or t A B (.int .u8 ((y : Int) % 256)) (.int .u8 128)).run.run Tryz.prog w = .ok (.int .u8 ((y % 128 + 128 : Nat) : Int)) w := by
  have e := or128_int y
  simp [go_sem, e]
theorem cv_iu {z : Int} : (convert 2 47 (.int .i64 z)).run Tryz.prog w = .ok (.int .u64 (IntKind.u64.wrap z)) w := by
  simp [go_sem]
theorem cv_nu {n : Nat} (hn : n < 9223372036854775808) : (convert 3 47 (.int .i64 (n : Nat))).run Tryz.prog w = .ok (.int .u64 (n : Nat)) w := by
  have e : IntKind.u64.wrap (n : Int) = n := by rw [wrap_u64]; omega
  simp [go_sem, e]
theorem shl_1 {z : Int} {t : TypeId} {A B : Operand} : (EOp.bin .shl t A B (.int .u64 z) (.int .u64 1)).run.run Tryz.prog w = .ok (.int .u64 (IntKind.u64.wrap (z * 2))) w := by
  simp [go_sem]
theorem shr_63 {z : Int} {t : TypeId} {A B : Operand} : (EOp.bin .shr t A B (.int .i64 z) (.int .u64 63)).run.run Tryz.prog w = .ok (.int .i64 (z / 9223372036854775808)) w := by
  simp [go_sem]
theorem xor_z {z : Int} (h0 : -9223372036854775808 ≤ z) (h1 : z < 9223372036854775808) {t : TypeId} {A B : Operand} : (EOp.bin .xor t A B (.int .u64 (IntKind.u64.wrap (IntKind.u64.wrap z * 2))) (.int .u64 (IntKind.u64.wrap (z / 9223372036854775808)))).run.run Tryz.prog w = .ok (.int .u64 (zig z : Nat)) w := by
  have e := zig_bits h0 h1
  simp [go_sem, e]
theorem shr_7 {y : Nat} (hy : y < 18446744073709551616) {t : TypeId} {A B : Operand} : (EOp.bin .shr t A B (.int .u64 (y : Nat)) (.int .u64 7)).run.run Tryz.prog w = .ok (.int .u64 ((y / 128 : Nat) : Int)) w := by
  simp [go_sem]
end
/-- A text being written. -/
def OutT (go : Nat) (xs : List Nat) (w0 : World) (L : List Thg) (w : World) : Prop := ∃ v X, PRow 5 1 v xs.length (u8s xs) X ∧ LV w0 (bk go #[v] 134 :: (X ++ L)) w
section
variable {w0 W : World} {L X : List Thg} {v : Value} {xs : List Nat} {go : Nat}
set_option maxRecDepth 100000 in
theorem putVar_any {x : Nat} (hx : x < 18446744073709551616) (hr : PRow 5 1 v xs.length (u8s xs) X) (hL : LV w0 (X ++ L) W) (hn : xs.length + 20 ≤ 1000000) : Calls Tryz.prog 97 #[v, .int .u64 x] W fun e W' => ∃ v' X', e = .returned v' ∧ PRow 5 1 v' (xs ++ vbytes x).length (u8s (xs ++ vbytes x)) X' ∧ LV w0 (X' ++ L) W' := by
  go_enter Tryz.func97, Tryz.ntmps97
  refine wp_fr (n := 20) (m := [(0, _), (1, _)]) ⟨rfl, rfl, by intro p hp; simp only [List.mem_cons, List.not_mem_nil, or_false] at hp; rcases hp with rfl | rfl <;> rfl⟩ fun a0 H0 => ?_
  repeat (go_not_at_region 0; go_step)
  refine wp_region_lit ?_
  refine us 1 H0 rfl fun _ H1 => ?_
  refine h_end ?_
  repeat (go_not_at_region 1; go_step)
  obtain ⟨I, hI⟩ : ∃ I : Nat → Act → World → Prop, ∀ n a' w', I n a' w' ↔ ∃ (y : Nat) (zs : List Nat) (u : Value) (Y : List Thg), y = n ∧ y < 18446744073709551616 ∧ xs ++ vbytes x = zs ++ vbytes y ∧ Fr a' 20 [(0, u), (1, .int .u64 y)] ∧ PRow 5 1 u zs.length (u8s zs) Y ∧ LV w0 (Y ++ L) w' := ⟨_, fun _ _ _ => Iff.rfl⟩
  have HI := Lib.hid hI
  clear hI
  refine wp_loop_ghost I x ((HI.out _ _ _).2 ⟨x, xs, v, X, rfl, hx, rfl, H1.pick _ (P2 0 1 rfl rfl), hr, hL⟩) ?_
  clear hL H1
  intro n a1 wl hi'
  obtain ⟨y, zs, u, Y, rfl, hy, hq, H0, hr, hL⟩ := (HI.out _ _ _).1 hi'
  clear hi'
  have hzl : zs.length + 1 ≤ 1000000 := by
    have h1 := congrArg List.length hq
    simp only [List.length_append] at h1
    have h2 := vbytes_le hx
    have h3 := vbytes_pos y
    omega
  by_cases hb : y < 128
  · repeat (go_not_at_region 1; go_step)
    refine wp_region_lit ?_
    refine uv 1 H0 rfl (ge_f (by omega)) rfl fun _ H1 => ?_
    refine h_end ?_
    repeat (go_not_at_region 4; go_step)
    refine wp_cond_false (H1.ev (x := .tmp 6) rfl) ?_
    repeat (go_not_at_region 4; go_step)
    refine wp_region_lit ?_
    refine uv 2 H1 rfl cv_u8 rfl fun _ H2 => ?_
    rw [show ((y : Int) % 256) = ((y : Nat) : Int) by omega] at H2
    refine uvS 0 H2 rfl bs_b (hL.alloc _ _) rfl fun _ w3 H3 hL => ?_
    obtain ⟨u2, W2, Y2, hrun, hr2, hL2⟩ := app_b (b := y) hr hL.unmidX List.mem_cons_self hzl 131
    refine uvS 0 H3 rfl hrun (hL2) rfl fun _ w4 H4 hL => ?_
    refine us 1 H4 rfl fun _ H5 => ?_
    refine h_end ?_
    repeat (go_not_at_region 999; go_step)
    refine H5.ret1 rfl rfl ⟨_, Y2, rfl, ?_, hL.midX.tail⟩
    rw [hq, vbytes_small hb]
    exact hr2
  · repeat (go_not_at_region 1; go_step)
    refine wp_region_lit ?_
    refine uv 1 H0 rfl (ge_t (by omega)) rfl fun _ H1 => ?_
    refine h_end ?_
    repeat (go_not_at_region 3; go_step)
    refine wp_cond_true (H1.ev (x := .tmp 6) rfl) ?_
    repeat (go_not_at_region 3; go_step)
    refine wp_region_lit ?_
    refine uv 2 H1 rfl cv_u8 rfl fun _ H2 => ?_
    refine uv 0 H2 rfl or_128 rfl fun _ H3 => ?_
    refine uvS 0 H3 rfl bs_b (hL.alloc _ _) rfl fun _ w4 H4 hL => ?_
    obtain ⟨u2, W2, Y2, hrun, hr2, hL2⟩ := app_b (b := (y % 128 + 128)) hr hL.unmidX List.mem_cons_self hzl 131
    refine uvS 0 H4 rfl hrun (hL2) rfl fun _ w5 H5 hL => ?_
    refine us 1 H5 rfl fun _ H6 => ?_
    refine h_end ?_
    repeat (go_not_at_region 2; go_step)
    refine wp_region_lit ?_
    refine uv 1 H6 rfl (shr_7 hy) rfl fun _ H7 => ?_
    refine us 1 H7 rfl fun _ H8 => ?_
    refine h_end ?_
    have hlt : y / 128 < y := Nat.div_lt_self (by omega) (by decide)
    refine ⟨y / 128, hlt, (HI.out _ _ _).2 ⟨y / 128, zs ++ [y % 128 + 128], u2, Y2, rfl, by omega, ?_, H8.pick _ (P2 0 1 rfl rfl), hr2, hL.midX.tail⟩⟩
    rw [hq, vbytes_big (by omega), List.append_assoc]
    rfl
set_option maxRecDepth 100000 in
theorem onum_any {x : Nat} (hx : x < 18446744073709551616) (hn : xs.length + 20 ≤ 1000000) (h : OutT go xs w0 L W) : Calls Tryz.prog 73 #[.pointer (some ⟨go, 0, none⟩), .int .u64 (x : Nat)] W fun e W' => e = .returned (.tuple #[]) ∧ OutT go (xs ++ vbytes x) w0 L W' := by
  obtain ⟨v, X, hr, hL⟩ := h
  go_enter Tryz.func73, Tryz.ntmps73
  refine wp_fr (n := 15) (m := [(0, _), (1, _)]) ⟨rfl, rfl, by intro p hp; simp only [List.mem_cons, List.not_mem_nil, or_false] at hp; rcases hp with rfl | rfl <;> rfl⟩ fun a0 H0 => ?_
  repeat (go_not_at_region 0; go_step)
  refine wp_region_lit ?_
  refine us 2 H0 rfl fun _ H1 => ?_
  refine h_end ?_
  repeat (go_not_at_region 1; go_step)
  refine wp_cond_true (H1.ev (x := .tmp 5) rfl) ?_
  obtain ⟨q0, c0, rfl⟩ := prow_shape hr
  repeat (go_not_at_region 1; go_step)
  refine wp_region_lit ?_
  refine uv 4 H1 rfl (ld1 rfl (hL.cell 0)) rfl fun _ H2 => ?_
  refine uc 1 H2 rfl (by kernel_rfl) (putVar_any hx hr hL.unmidX hn) ?_
  rintro e w3 ⟨v', X', rfl, hr', hL2⟩
  have hL := hL2.midX
  obtain ⟨q, c, rfl⟩ := prow_shape hr'
  refine ⟨_, rfl, _, rfl, fun _ H3 => ?_⟩
  refine ustS 2 H3 rfl (st1 rfl hL.at_ (by show 0 < 1; decide) rfl rfl) (hL.put 0 _) fun _ w4 H4 hL => ?_
  refine h_end ?_
  repeat (go_not_at_region 999; go_step)
  exact H4.end0 rfl ⟨rfl, _, _, hr', hL⟩
set_option maxRecDepth 100000 in
theorem oint_any {z : Int} (h0 : -9223372036854775808 ≤ z) (h1 : z < 9223372036854775808) (hn : xs.length + 20 ≤ 1000000) (h : OutT go xs w0 L W) : Calls Tryz.prog 75 #[.pointer (some ⟨go, 0, none⟩), .int .i64 z] W fun e W' => e = .returned (.tuple #[]) ∧ OutT go (xs ++ vbytes (zig z)) w0 L W' := by
  obtain ⟨v, X, hr, hL⟩ := h
  have hx : zig z < 18446744073709551616 := by unfold zig; split <;> omega
  go_enter Tryz.func75, Tryz.ntmps75
  refine wp_fr (n := 21) (m := [(0, _), (1, _)]) ⟨rfl, rfl, by intro p hp; simp only [List.mem_cons, List.not_mem_nil, or_false] at hp; rcases hp with rfl | rfl <;> rfl⟩ fun a0 H0 => ?_
  repeat (go_not_at_region 0; go_step)
  refine wp_region_lit ?_
  refine us 2 H0 rfl fun _ H1 => ?_
  refine h_end ?_
  repeat (go_not_at_region 1; go_step)
  refine wp_cond_true (H1.ev (x := .tmp 5) rfl) ?_
  obtain ⟨q0, c0, rfl⟩ := prow_shape hr
  repeat (go_not_at_region 1; go_step)
  refine wp_region_lit ?_
  refine uv 4 H1 rfl (ld1 rfl (hL.cell 0)) rfl fun _ H2 => ?_
  refine uv 1 H2 rfl cv_iu rfl fun _ H3 => ?_
  refine uv 0 H3 rfl shl_1 rfl fun _ H4 => ?_
  refine uv 1 H4 rfl shr_63 rfl fun _ H5 => ?_
  refine uv 0 H5 rfl cv_iu rfl fun _ H6 => ?_
  refine uv 0 H6 rfl (xor_z h0 h1) rfl fun _ H7 => ?_
  refine uc 0 H7 rfl (by kernel_rfl) (putVar_any hx hr hL.unmidX hn) ?_
  rintro e w8 ⟨v', X', rfl, hr', hL2⟩
  have hL := hL2.midX
  obtain ⟨q, c, rfl⟩ := prow_shape hr'
  refine ⟨_, rfl, _, rfl, fun _ H8 => ?_⟩
  refine ustS 2 H8 rfl (st1 rfl hL.at_ (by show 0 < 1; decide) rfl rfl) (hL.put 0 _) fun _ w9 H9 hL => ?_
  refine h_end ?_
  repeat (go_not_at_region 999; go_step)
  exact H9.end0 rfl ⟨rfl, _, _, hr', hL⟩
set_option maxRecDepth 100000 in
theorem obyte_any {x : Nat} (hn : xs.length + 20 ≤ 1000000) (h : OutT go xs w0 L W) : Calls Tryz.prog 72 #[.pointer (some ⟨go, 0, none⟩), .int .u8 (x : Nat)] W fun e W' => e = .returned (.tuple #[]) ∧ OutT go (xs ++ [x]) w0 L W' := by
  obtain ⟨v, X, hr, hL⟩ := h
  go_enter Tryz.func72, Tryz.ntmps72
  refine wp_fr (n := 16) (m := [(0, _), (1, _)]) ⟨rfl, rfl, by intro p hp; simp only [List.mem_cons, List.not_mem_nil, or_false] at hp; rcases hp with rfl | rfl <;> rfl⟩ fun a0 H0 => ?_
  repeat (go_not_at_region 0; go_step)
  refine wp_region_lit ?_
  refine us 2 H0 rfl fun _ H1 => ?_
  refine h_end ?_
  repeat (go_not_at_region 1; go_step)
  refine wp_cond_true (H1.ev (x := .tmp 5) rfl) ?_
  obtain ⟨q0, c0, rfl⟩ := prow_shape hr
  repeat (go_not_at_region 1; go_step)
  refine wp_region_lit ?_
  refine uv 4 H1 rfl (ld1 rfl (hL.cell 0)) rfl fun _ H2 => ?_
  refine uvS 1 H2 rfl bs_b (hL.alloc _ _) rfl fun _ w3 H3 hL => ?_
  have hL1 := hL.perm (List.perm_append_comm_assoc [_, _] X L)
  obtain ⟨v', W2, X', hrun, hr', hL2⟩ := app_b (b := x) hr hL1 List.mem_cons_self (by omega) 131
  refine uvS 0 H3 rfl hrun (hL2) rfl fun _ w4 H4 hL => ?_
  refine us 2 H4 rfl fun _ H5 => ?_
  replace hL := (hL.midX).tail.midX
  obtain ⟨q, c, rfl⟩ := prow_shape hr'
  refine ustS 0 H5 rfl (st1 rfl hL.at_ (by show 0 < 1; decide) rfl rfl) (hL.put 0 _) fun _ w6 H6 hL => ?_
  refine h_end ?_
  repeat (go_not_at_region 999; go_step)
  exact H6.end0 rfl ⟨rfl, _, _, hr', hL⟩
set_option maxRecDepth 100000 in
theorem otext_any {s : ByteArray} (hs : s.size < 100000000) (hn : xs.length + s.size + 20 ≤ 1000000) (h : OutT go xs w0 L W) : Calls Tryz.prog 74 #[.pointer (some ⟨go, 0, none⟩), .string s] W fun e W' => e = .returned (.tuple #[]) ∧ OutT go (xs ++ (vbytes s.size ++ bytesOf s)) w0 L W' := by
  obtain ⟨v, X, hr, hL⟩ := h
  go_enter Tryz.func74, Tryz.ntmps74
  refine wp_fr (n := 20) (m := [(0, _), (1, _)]) ⟨rfl, rfl, by intro p hp; simp only [List.mem_cons, List.not_mem_nil, or_false] at hp; rcases hp with rfl | rfl <;> rfl⟩ fun a0 H0 => ?_
  repeat (go_not_at_region 0; go_step)
  refine wp_region_lit ?_
  refine uv 3 H0 rfl (cv_nu (by omega)) rfl fun _ H1 => ?_
  refine uc 0 H1 rfl (by kernel_rfl) (onum_any (x := s.size) (by omega) (by omega) ⟨v, X, hr, hL⟩) ?_
  rintro e w2 ⟨rfl, v2, X2, hr2, hL2⟩
  have hL := hL2
  have hvl := vbytes_le (x := s.size) (by omega)
  refine ⟨_, rfl, _, rfl, fun _ H2 => ?_⟩
  refine h_end ?_
  repeat (go_not_at_region 1; go_step)
  refine wp_region_lit ?_
  refine us 2 H2 rfl fun _ H3 => ?_
  refine h_end ?_
  repeat (go_not_at_region 2; go_step)
  refine wp_cond_true (H3.ev (x := .tmp 10) rfl) ?_
  obtain ⟨q0, c0, rfl⟩ := prow_shape hr2
  repeat (go_not_at_region 2; go_step)
  refine wp_region_lit ?_
  refine uv 4 H3 rfl (ld1 rfl (hL.cell 0)) rfl fun _ H4 => ?_
  refine us 1 H4 rfl fun _ H5 => ?_
  obtain ⟨v', W2, X', hrun, hr', hL3⟩ := app_str (s := s) hr2 hL.unmidX Tryz.underlying9 (by rw [List.length_append]; omega) 131
  refine uvS 0 H5 rfl hrun (hL3) rfl fun _ w6 H6 hL => ?_
  refine us 2 H6 rfl fun _ H7 => ?_
  replace hL := hL.midX
  obtain ⟨q, c, rfl⟩ := prow_shape hr'
  refine ustS 0 H7 rfl (st1 rfl hL.at_ (by show 0 < 1; decide) rfl rfl) (hL.put 0 _) fun _ w8 H8 hL => ?_
  refine h_end ?_
  repeat (go_not_at_region 999; go_step)
  refine H8.end0 rfl ⟨rfl, _, X', ?_, hL⟩
  rw [← List.append_assoc]
  exact hr'
/-- A text out of bytes. -/
def txt (xs : List Nat) : ByteArray := ⟨(xs.map UInt8.ofNat).toArray⟩
theorem str_run (hr : PRow 5 1 v xs.length (u8s xs) X) (hL : LV w0 (X ++ L) W) (hb : ∀ x ∈ xs, x < 256) : (convert 131 9 v).run Tryz.prog W = .ok (.string (txt xs)) W := by
  rcases hr.2 with ⟨rfl, hx, rfl⟩ | ⟨g, cap, cur, rfl, rfl, h1, h2, h3, h4⟩
  · have : xs = [] := List.length_eq_zero_iff.1 hx
    subst this
    exact Lib.run_convert_nil_bytes W 131 9 5 0 Tryz.underlying131 Tryz.underlying5 Tryz.underlying9
  · have hl : xs.length = (xs.map UInt8.ofNat).length := by simp
    rw [hl]
    refine run_convert_bytes_back W 131 9 5 ⟨g, 0, none⟩ cap (xs.map UInt8.ofNat) Tryz.underlying131 Tryz.underlying5 Tryz.underlying9 ?_
    refine Lib.bytes_of_row hL.at_ ?_
    rw [← hl]
    have h5 : cur.toList.take xs.length = u8s xs := by simpa using h4
    rw [h5]
    simp only [u8s, Lib.byteCells, List.map_map]
    refine List.map_congr_left fun x hx => ?_
    simp only [Function.comp_apply]
    rw [UInt8.toNat_ofNat_of_lt' (hb x hx)]
set_option maxRecDepth 100000 in
theorem ostring_any (hb : ∀ x ∈ xs, x < 256) (h : OutT go xs w0 L W) : Calls Tryz.prog 76 #[.pointer (some ⟨go, 0, none⟩)] W fun e W' => e = .returned (.string (txt xs)) ∧ W' = W := by
  obtain ⟨v, X, hr, hL⟩ := h
  obtain ⟨q0, c0, rfl⟩ := prow_shape hr
  go_enter Tryz.func76, Tryz.ntmps76
  refine wp_fr (n := 10) (m := [(0, _)]) ⟨rfl, rfl, by intro p hp; simp only [List.mem_cons, List.not_mem_nil, or_false] at hp; rcases hp with rfl <;> rfl⟩ fun a0 H0 => ?_
  repeat (go_not_at_region 0; go_step)
  refine wp_region_lit ?_
  refine us 1 H0 rfl fun _ H1 => ?_
  refine h_end ?_
  repeat (go_not_at_region 1; go_step)
  refine wp_region_lit ?_
  refine us 2 H1 rfl fun _ H2 => ?_
  refine h_end ?_
  repeat (go_not_at_region 3; go_step)
  refine wp_cond_false (H2.ev (x := .tmp 4) rfl) ?_
  repeat (go_not_at_region 3; go_step)
  refine wp_region_lit ?_
  refine uv 3 H2 rfl (ld1 rfl (hL.cell 0)) rfl fun _ H3 => ?_
  refine uv 0 H3 rfl (str_run hr hL.unmidX hb) rfl fun _ H4 => ?_
  refine us 1 H4 rfl fun _ H5 => ?_
  refine h_end ?_
  repeat (go_not_at_region 999; go_step)
  exact H5.ret1 rfl rfl ⟨rfl, rfl⟩
end
end Go.Proofs.YtnjfjdfjheiocaaGreat
