/-
  pack.getVar: a number's reading, as plain data.
-/
import Derived.Test.YthkeiclhllikjaaGreatMsgQb
import Derived.Test.YthkeiclhllikjaaGreatMsgIn
import Derived.Test.YthkeiclhllikjaaGreatFr
import Derived.Laws.BitsAllLaws
import Derived.BigQuiet
import Derived.Deep.Cut
import Derived.Lib.Hide
set_option linter.unusedSimpArgs false
set_option linter.unusedVariables false
namespace Go.Proofs.YthkeiclhllikjaaGreat
open Go.RowKit
section
variable {P : Program} {o : Oper} {a : Act} {w : World} {n : Nat} {m : List (Nat × Value)}
theorem R_min {x : Operand} {t : TypeId} {i c : Int} (H : Fr a n m) (ho : o.op = .call { callee := .builtin .min, args := #[x, .const (.int .i64 c)], argTypes := #[t, t] }) (hx : ev1 m x = some (.int .i64 i)) (ht : P.underlying t = some (.int .i64)) : (execOp a.eval o).run P w = .ok (.value (.int .i64 (if c < i then c else i))) w := by
 have e1 := H.ev hx
 have e2 : a.eval (.const (.int .i64 c)) = .int .i64 c := rfl
 unfold execOp
 rw [ho]
 generalize a.eval = ρ at *
 simp [resolve, invoke, go_sem, e1, e2, run_underlying ht]
end
theorem ix_str {w : World} {s : ByteArray} {j : Nat} (h : j < s.size) : (Instr.index 9 (.string s) (.int .i64 (j : Nat))).run Tryz.prog w = .ok (.int .u8 ((s[j]'h).toNat : Int)) w := by
 simp [go_sem, h]
theorem B8_and {X Y : Operand} {w : World} (x y : Int) : ((do eqGuard .and 5 X Y (.int .u8 x) (.int .u8 y); binOp .and 5 (.int .u8 x) (.int .u8 y)) : Sem Value).run Tryz.prog w = .ok (.int .u8 (bits .and .u8 x y)) w := by simp [go_sem]
theorem B8_less {X Y : Operand} {w : World} (x y : Int) : ((do eqGuard .lss 5 X Y (.int .u8 x) (.int .u8 y); binOp .lss 5 (.int .u8 x) (.int .u8 y)) : Sem Value).run Tryz.prog w = .ok (.bool (decide (x < y))) w := by simp [go_sem]
theorem B8_more {X Y : Operand} {w : World} (x y : Int) : ((do eqGuard .gtr 5 X Y (.int .u8 x) (.int .u8 y); binOp .gtr 5 (.int .u8 x) (.int .u8 y)) : Sem Value).run Tryz.prog w = .ok (.bool (decide (x > y))) w := by simp [go_sem]
theorem Bi_less {X Y : Operand} {w : World} (x y : Int) : ((do eqGuard .lss 3 X Y (.int .i64 x) (.int .i64 y); binOp .lss 3 (.int .i64 x) (.int .i64 y)) : Sem Value).run Tryz.prog w = .ok (.bool (decide (x < y))) w := by simp [go_sem]
theorem Bi_eq {X Y : Operand} {w : World} (x y : Int) : ((do eqGuard .eql 3 X Y (.int .i64 x) (.int .i64 y); binOp .eql 3 (.int .i64 x) (.int .i64 y)) : Sem Value).run Tryz.prog w = .ok (.bool (x == y)) w := by simp [go_sem]
theorem Bi_add {X Y : Operand} {w : World} (x y : Int) (h0 : -9223372036854775808 ≤ x + y) (h1 : x + y < 9223372036854775808) : ((do eqGuard .add 3 X Y (.int .i64 x) (.int .i64 y); binOp .add 3 (.int .i64 x) (.int .i64 y)) : Sem Value).run Tryz.prog w = .ok (.int .i64 (x + y)) w := by
 have e : IntKind.i64.wrap (x + y) = x + y := i64_id h0 h1
 simp [go_sem, e]
theorem B_is {s : Sem Value} {w w' : World} {x y : Bool} (h : s.run Tryz.prog w = .ok (.bool x) w') (e : x = y) : s.run Tryz.prog w = .ok (.bool y) w' := e ▸ h
theorem cv_u8_u64 {w : World} (x : Int) : (convert 5 35 (.int .u8 x)).run Tryz.prog w = .ok (.int .u64 (IntKind.u64.wrap x)) w := by
 simp [go_sem]
theorem B_mul7 {X Y : Operand} {w : World} (i : Nat) (h : i ≤ 10) : ((do eqGuard .mul 3 X Y (.int .i64 7) (.int .i64 (i : Nat)); binOp .mul 3 (.int .i64 7) (.int .i64 (i : Nat))) : Sem Value).run Tryz.prog w = .ok (.int .i64 ((7 * i : Nat) : Int)) w := by
 have e : IntKind.i64.wrap (7 * (i : Int)) = ((7 * i : Nat) : Int) := (i64_id (by omega) (by omega)).trans (by omega)
 simp [go_sem, e]
theorem B_or64 {X Y : Operand} {w : World} (x y : Int) : ((do eqGuard .or 35 X Y (.int .u64 x) (.int .u64 y); binOp .or 35 (.int .u64 x) (.int .u64 y)) : Sem Value).run Tryz.prog w = .ok (.int .u64 (bits .or .u64 x y)) w := by simp [go_sem]
theorem B_shl64 {X Y : Operand} {w : World} (x : Int) (k : Nat) (h : k < 64) : ((do eqGuard .shl 35 X Y (.int .u64 x) (.int .i64 (k : Nat)); binOp .shl 35 (.int .u64 x) (.int .i64 (k : Nat))) : Sem Value).run Tryz.prog w = .ok (.int .u64 (IntKind.u64.wrap (x * 2 ^ k))) w := by
 simp [go_sem]
def gv (i acc : Nat) : List Nat → Int × Int
 | [] => (0, 0)
 | b :: t => if 10 ≤ i then (0, 0) else if b < 128 then (if i = 9 ∧ 1 < b then (0, -1) else (((acc + b * 2 ^ (7 * i) : Nat) : Int), ((i + 1 : Nat) : Int))) else gv (i + 1) (acc + b % 128 * 2 ^ (7 * i)) t
theorem bytes_len (s : ByteArray) : (bytesOf s).length = s.size := by simp [bytesOf]
theorem bytes_at {s : ByteArray} {i : Nat} (h : i < s.size) : (s[i]'h).toNat < 256 ∧ (bytesOf s).drop i = (s[i]'h).toNat :: (bytesOf s).drop (i + 1) := by
 refine ⟨UInt8.toNat_lt _, ?_⟩
 rw [List.drop_eq_getElem_cons (by rw [bytes_len]; exact h)]
 congr 1
 simp [bytesOf]
 rfl
def bt (s : ByteArray) (i : Int) : Int := if h : i.toNat < s.size then ((s[i.toNat]'h).toNat : Int) else 0
theorem bt_at (s : ByteArray) (i : Int) : ∀ h : i.toNat < s.size, ((s[i.toNat]'h).toNat : Int) = bt s i := fun h => by simp [bt, h]
theorem bytes_drop {s : ByteArray} {i : Nat} (h : i < s.size) : ∃ b : Nat, b < 256 ∧ bt s i = b ∧ (bytesOf s).drop i = b :: (bytesOf s).drop (i + 1) :=
 ⟨_, (bytes_at h).1, by rw [← bt_at s (i : Int) (by simpa using h)]; rfl, (bytes_at h).2⟩
theorem or_add {acc c m : Nat} (h : acc < 2 ^ m) : acc ||| c * 2 ^ m = acc + c * 2 ^ m := by
 have := Nat.two_pow_add_eq_or_of_lt h c
 rw [Nat.or_comm, Nat.mul_comm c, ← this, Nat.add_comm]
theorem and127 (b : Nat) (hb : b < 256) : bits .and .u8 (b : Int) 127 = ((b % 128 : Nat) : Int) := by
 rw [show (127 : Int) = ((127 : Nat) : Int) from rfl, u8_and_nat b 127 hb (by decide)]
 rw [show (127 : Nat) = 2 ^ 7 - 1 from rfl, Nat.and_two_pow_sub_one_eq_mod]
theorem wrap_nat64 {n : Nat} (h : n < 18446744073709551616) : IntKind.u64.wrap (n : Int) = n := by
 rw [show IntKind.u64.wrap (n : Int) = (n : Int) % 18446744073709551616 from by simp [IntKind.wrap, IntKind.bits, IntKind.signed]]
 omega
theorem step_bits {acc b i : Nat} (hb : b < 256) (hi : i ≤ 9) (ha : acc < 2 ^ (7 * i)) (hfit : i = 9 → b % 128 ≤ 1) :
  bits .or .u64 (acc : Int) (IntKind.u64.wrap (IntKind.u64.wrap (bits .and .u8 (b : Int) 127) * 2 ^ (7 * i))) = ((acc + b % 128 * 2 ^ (7 * i) : Nat) : Int) := by
 have hlt : b % 128 * 2 ^ (7 * i) < 18446744073709551616 := by
  rcases Nat.lt_or_ge i 9 with h9 | h9
  ·have : 2 ^ (7 * i) ≤ 2 ^ 56 := Nat.pow_le_pow_right (by decide) (by omega)
   have hb2 : b % 128 < 128 := Nat.mod_lt _ (by decide)
   calc b % 128 * 2 ^ (7 * i) ≤ 127 * 2 ^ 56 := Nat.mul_le_mul (by omega) this
    _ < 18446744073709551616 := by decide
  ·have : i = 9 := by omega
   subst this
   have := hfit rfl
   calc b % 128 * 2 ^ (7 * 9) ≤ 1 * 2 ^ 63 := Nat.mul_le_mul this (by decide)
    _ < 18446744073709551616 := by decide
 rw [and127 b hb, wrap_nat64 (by omega)]
 rw [show ((b % 128 : Nat) : Int) * 2 ^ (7 * i) = ((b % 128 * 2 ^ (7 * i) : Nat) : Int) from by push_cast; rfl]
 rw [wrap_nat64 hlt]
 have ha2 : acc < 18446744073709551616 := Nat.lt_of_lt_of_le ha (Nat.le_trans (Nat.pow_le_pow_right (by decide) (show 7 * i ≤ 63 by omega)) (by decide))
 rw [bits_or_u64_nat _ _ ha2 hlt, or_add ha]
theorem more_lt {acc b i : Nat} (ha : acc < 2 ^ (7 * i)) : acc + b % 128 * 2 ^ (7 * i) < 2 ^ (7 * (i + 1)) := by
 have hm : b % 128 ≤ 127 := by omega
 calc acc + b % 128 * 2 ^ (7 * i) < 2 ^ (7 * i) + 127 * 2 ^ (7 * i) := Nat.add_lt_add_of_lt_of_le ha (Nat.mul_le_mul_right _ hm)
  _ = 2 ^ (7 * (i + 1)) := by rw [show 7 * (i + 1) = 7 * i + 7 by omega, Nat.pow_add]; omega
set_option maxRecDepth 100000 in
theorem getVar_any (s : ByteArray) (W : World) : Calls Tryz.prog 172 #[.string s] W fun e w' => e = .returned (.tuple #[.int .u64 (gv 0 0 (bytesOf s)).1, .int .i64 (gv 0 0 (bytesOf s)).2]) ∧ w' = W := by
 obtain ⟨G, hG⟩ : ∃ G, G = gv 0 0 (bytesOf s) := ⟨_, rfl⟩
 rw [← hG]
 have HG := Lib.hid hG
 clear hG
 go_enter Tryz.func172, Tryz.ntmps172
 refine wp_fr (n := 37) (m := [(0, _)]) ⟨rfl, rfl, by intro p hp; simp only [List.mem_cons, List.not_mem_nil, or_false] at hp; rcases hp with rfl <;> rfl⟩ fun a0 H0 => ?_
 repeat (go_not_at_region 0; go_step)
 refine wp_region_lit ?_
 refine h_o H0 rfl (R_as H0 rfl rfl) (P2 2 0 rfl rfl) fun _ H1 => ?_
 refine h_o H1 rfl (R_as H1 rfl rfl) (P2 2 0 rfl rfl) fun _ H2 => ?_
 refine h_end ?_
 repeat (go_not_at_region 1; go_step)
 refine wp_region_lit ?_
 refine h_o H2 rfl (R_mv H2 rfl rfl) (P3 5 2 0 rfl rfl rfl) fun _ H3 => ?_
 refine h_o H3 rfl (R_len H3 rfl rfl Tryz.underlying9) (P3 6 2 0 rfl rfl rfl) fun _ H4 => ?_
 refine h_o H4 rfl (R_min H4 rfl rfl Tryz.underlying3) (P3 7 2 0 rfl rfl rfl) fun _ H5 => ?_
 refine h_o H5 rfl (R_mv H5 rfl rfl) (P4 8 7 2 0 rfl rfl rfl rfl) fun _ H6 => ?_
 refine h_end ?_
 repeat (go_not_at_region 2; go_step)
 obtain ⟨mnv, hmn⟩ : ∃ mnv : Int, mnv = (if (10 : Int) < ((s.size : Nat) : Int) then (10 : Int) else ((s.size : Nat) : Int)) := ⟨_, rfl⟩
 have hm1 : mnv ≤ 10 := by rw [hmn]; split <;> omega
 have hm2 : mnv ≤ s.size := by rw [hmn]; split <;> omega
 have hm3 : mnv = 10 ∨ mnv = s.size := by rw [hmn]; split <;> simp
 replace H6 := H6.pick [(0, .string s), (2, .int .u64 0), (7, .int .i64 (if (10 : Int) < ((s.size : Nat) : Int) then (10 : Int) else ((s.size : Nat) : Int))), (8, .int .i64 0)] (.cons rfl (.cons rfl (.cons rfl (.cons rfl .nil))))
 rw [← hmn] at H6
 clear hmn
 obtain ⟨I, hI⟩ : ∃ I : Nat → Act → World → Prop, ∀ n a' w', I n a' w' ↔ ∃ (i acc : Nat) (x : Int), n = 10 - i ∧ i ≤ 10 ∧ (i : Int) ≤ mnv ∧ gv i acc ((bytesOf s).drop i) = G ∧ (i < 10 → x = acc ∧ acc < 2 ^ (7 * i)) ∧ Fr a' 37 [(0, .string s), (2, .int .u64 x), (7, .int .i64 mnv), (8, .int .i64 (i : Nat))] ∧ w' = W := ⟨_, fun _ _ _ => Iff.rfl⟩
 have HI := Lib.hid hI
 clear hI
 refine wp_loop_ghost I 10 ((HI.out _ _ _).2 ⟨0, 0, 0, rfl, by decide, by omega, HG.out.symm, fun _ => ⟨rfl, by decide⟩, H6, rfl⟩) ?_
 intro n1 a1 w1 hi
 obtain ⟨i, acc, x, rfl, hi10, him, hgv, hx, H0, rfl⟩ := (HI.out _ _ _).1 hi
 clear hi
 by_cases hlt : (i : Int) < mnv
 rotate_left
 ·repeat (go_not_at_region 2; go_step)
  refine wp_region_lit ?_
  refine h_o H0 rfl (R_bin H0 rfl rfl rfl (B_is (y := false) (Bi_less _ _) (decide_eq_false hlt))) (P5 9 0 2 7 8 rfl rfl rfl rfl rfl) fun _ H1 => ?_
  refine h_end ?_
  repeat (go_not_at_region 3; go_step)
  refine wp_cond_false (H1.ev (x := .tmp 9) rfl) ?_
  repeat (go_not_at_region 10; go_step)
  refine wp_region_lit ?_
  refine h_o H1 rfl (R_as H1 rfl rfl) (P1 2 rfl) fun _ H2 => ?_
  refine h_o H2 rfl (R_as H2 rfl rfl) (P2 3 2 rfl rfl) fun _ H3 => ?_
  refine h_end ?_
  repeat (go_not_at_region 999; go_step)
  refine H3.ret2 rfl rfl rfl ⟨?_, rfl⟩
  have hz : G = (0, 0) := by
   rw [← hgv]
   rcases hm3 with h | h
   ·have : i = 10 := by omega
    subst this
    cases (bytesOf s).drop 10 <;> simp [gv]
   ·rw [List.drop_eq_nil_of_le (by rw [bytes_len]; omega)]
    rfl
  rw [hz]
 repeat (go_not_at_region 2; go_step)
 refine wp_region_lit ?_
 refine h_o H0 rfl (R_bin H0 rfl rfl rfl (B_is (y := true) (Bi_less _ _) (decide_eq_true hlt))) (P5 9 0 2 7 8 rfl rfl rfl rfl rfl) fun _ H1 => ?_
 refine h_end ?_
 repeat (go_not_at_region 3; go_step)
 refine wp_cond_true (H1.ev (x := .tmp 9) rfl) ?_
 have hsz : i < s.size := by omega
 obtain ⟨rfl, ha⟩ := hx (by omega)
 obtain ⟨hb, hd⟩ := bytes_at hsz
 obtain ⟨b, hbe⟩ : ∃ b, b = (s[i]'hsz).toNat := ⟨_, rfl⟩
 have hix : ∀ w : World, (Instr.index 9 (.string s) (.int .i64 (i : Nat))).run Tryz.prog w = .ok (.int .u8 (b : Int)) w := fun w => by rw [hbe]; exact ix_str hsz
 rw [← hbe] at hb hd
 rw [hd, gv, if_neg (by omega)] at hgv
 clear hbe hd
 repeat (go_not_at_region 3; go_step)
 refine wp_region_lit ?_
 refine h_o H1 rfl (R_mv H1 rfl rfl) (P5 10 0 2 7 8 rfl rfl rfl rfl rfl) fun _ H2 => ?_
 refine h_o H2 rfl (R_as H2 rfl rfl) (P5 4 0 2 7 8 rfl rfl rfl rfl rfl) fun _ H3 => ?_
 refine h_end ?_
 repeat (go_not_at_region 4; go_step)
 refine wp_region_lit ?_
 refine h_o H3 rfl (R_mv H3 rfl rfl) (P6 11 4 0 2 7 8 rfl rfl rfl rfl rfl rfl) fun _ H4 => ?_
 refine h_o H4 rfl (R_mv H4 rfl rfl) (P7 12 11 4 0 2 7 8 rfl rfl rfl rfl rfl rfl rfl) fun _ H5 => ?_
 refine h_o H5 rfl (R_mv H5 rfl rfl) (P8 13 12 11 4 0 2 7 8 rfl rfl rfl rfl rfl rfl rfl rfl) fun _ H6 => ?_
 refine h_o H6 rfl (R_ix H6 rfl rfl rfl (hix _)) (P7 14 11 4 0 2 7 8 rfl rfl rfl rfl rfl rfl rfl) fun _ H7 => ?_
 refine h_o H7 rfl (R_bin H7 rfl rfl rfl (B8_and _ _)) (P7 15 11 4 0 2 7 8 rfl rfl rfl rfl rfl rfl rfl) fun _ H8 => ?_
 refine h_o H8 rfl (R_cv H8 rfl rfl (cv_u8_u64 _)) (P7 16 11 4 0 2 7 8 rfl rfl rfl rfl rfl rfl rfl) fun _ H9 => ?_
 refine h_o H9 rfl (R_mv H9 rfl rfl) (P8 17 16 11 4 0 2 7 8 rfl rfl rfl rfl rfl rfl rfl rfl) fun _ H10 => ?_
 refine h_o H10 rfl (R_bin H10 rfl rfl rfl (B_mul7 i (by omega))) (P8 18 16 11 4 0 2 7 8 rfl rfl rfl rfl rfl rfl rfl rfl) fun _ H11 => ?_
 refine h_o H11 rfl (R_bin H11 rfl rfl rfl (B_shl64 _ _ (by omega))) (P7 19 11 4 0 2 7 8 rfl rfl rfl rfl rfl rfl rfl) fun _ H12 => ?_
 refine h_o H12 rfl (R_bin H12 rfl rfl rfl (B_or64 _ _)) (P6 20 4 0 2 7 8 rfl rfl rfl rfl rfl rfl) fun _ H13 => ?_
 refine h_o H13 rfl (R_as H13 rfl rfl) (P5 2 4 0 7 8 rfl rfl rfl rfl rfl) fun _ H14 => ?_
 refine h_end ?_
 obtain ⟨y, hy⟩ : ∃ y : Int, y = bits .or .u64 (acc : Int) (IntKind.u64.wrap (IntKind.u64.wrap (bits .and .u8 (b : Int) 127) * 2 ^ (7 * i))) := ⟨_, rfl⟩
 replace H14 := H14.pick [(0, .string s), (2, .int .u64 (bits .or .u64 (acc : Int) (IntKind.u64.wrap (IntKind.u64.wrap (bits .and .u8 (b : Int) 127) * 2 ^ (7 * i))))), (4, .int .i64 (i : Nat)), (7, .int .i64 mnv), (8, .int .i64 (i : Nat))] (.cons rfl (.cons rfl (.cons rfl (.cons rfl (.cons rfl .nil)))))
 rw [← hy] at H14
 by_cases hb1 : b < 128
 ·repeat (go_not_at_region 5; go_step)
  refine wp_region_lit ?_
  refine h_o H14 rfl (R_mv H14 rfl rfl) (P6 21 0 2 4 7 8 rfl rfl rfl rfl rfl rfl) fun _ H15 => ?_
  refine h_o H15 rfl (R_mv H15 rfl rfl) (P7 22 21 0 2 4 7 8 rfl rfl rfl rfl rfl rfl rfl) fun _ H16 => ?_
  refine h_o H16 rfl (R_ix H16 rfl rfl rfl (hix _)) (P6 23 0 2 4 7 8 rfl rfl rfl rfl rfl rfl) fun _ H17 => ?_
  refine h_o H17 rfl (R_bin H17 rfl rfl rfl (B_is (y := true) (B8_less _ _) (decide_eq_true (by omega)))) (P6 24 0 2 4 7 8 rfl rfl rfl rfl rfl rfl) fun _ H18 => ?_
  refine h_end ?_
  repeat (go_not_at_region 6; go_step)
  refine wp_cond_true (H18.ev (x := .tmp 24) rfl) ?_
  have hmod : b % 128 = b := Nat.mod_eq_of_lt hb1
  rw [if_pos hb1] at hgv
  by_cases h9 : i = 9
  ·by_cases hb2 : 1 < b
   ·repeat (go_not_at_region 6; go_step)
    refine wp_region_lit ?_
    refine h_o H18 rfl (R_mv H18 rfl rfl) (P4 25 0 2 4 rfl rfl rfl rfl) fun _ H19 => ?_
    refine h_o H19 rfl (R_bin H19 rfl rfl rfl (B_is (y := true) (Bi_eq _ _) (beq_iff_eq.2 (by omega)))) (P4 26 0 2 4 rfl rfl rfl rfl) fun _ H20 => ?_
    refine h_o H20 rfl (R_mv H20 rfl rfl) (P4 27 0 2 4 rfl rfl rfl rfl) fun _ H21 => ?_
    refine h_op H21 rfl (H21.wt rfl rfl rfl) (R_mv H21 rfl rfl) rfl (P4 28 27 2 4 rfl rfl rfl rfl) fun _ H22 => ?_
    refine h_op H22 rfl (H22.wt rfl rfl rfl) (R_mv H22 rfl rfl) rfl (P5 29 28 27 2 4 rfl rfl rfl rfl rfl) fun _ H23 => ?_
    refine h_op H23 rfl (H23.wt rfl rfl rfl) (R_ix H23 rfl rfl rfl (hix _)) rfl (P4 30 27 2 4 rfl rfl rfl rfl) fun _ H24 => ?_
    refine h_op H24 rfl (H24.wt rfl rfl rfl) (R_bin H24 rfl rfl rfl (B_is (y := true) (B8_more _ _) (decide_eq_true (by omega)))) rfl (P4 31 27 2 4 rfl rfl rfl rfl) fun _ H25 => ?_
    refine h_o H25 rfl (R_pick H25 rfl rfl rfl) (P3 32 2 4 rfl rfl rfl) fun _ H26 => ?_
    refine h_end ?_
    repeat (go_not_at_region 7; go_step)
    refine wp_cond_true (H26.ev (x := .tmp 32) rfl) ?_
    repeat (go_not_at_region 7; go_step)
    refine wp_region_lit ?_
    refine h_o H26 rfl (R_as H26 rfl rfl) (P1 2 rfl) fun _ H27 => ?_
    refine h_o H27 rfl (R_as H27 rfl rfl) (P2 3 2 rfl rfl) fun _ H28 => ?_
    refine h_end ?_
    repeat (go_not_at_region 999; go_step)
    refine H28.ret2 rfl rfl rfl ⟨?_, rfl⟩
    rw [if_pos ⟨h9, hb2⟩] at hgv
    rw [← hgv]
   ·repeat (go_not_at_region 6; go_step)
    refine wp_region_lit ?_
    refine h_o H18 rfl (R_mv H18 rfl rfl) (P4 25 0 2 4 rfl rfl rfl rfl) fun _ H19 => ?_
    refine h_o H19 rfl (R_bin H19 rfl rfl rfl (B_is (y := true) (Bi_eq _ _) (beq_iff_eq.2 (by omega)))) (P4 26 0 2 4 rfl rfl rfl rfl) fun _ H20 => ?_
    refine h_o H20 rfl (R_mv H20 rfl rfl) (P4 27 0 2 4 rfl rfl rfl rfl) fun _ H21 => ?_
    refine h_op H21 rfl (H21.wt rfl rfl rfl) (R_mv H21 rfl rfl) rfl (P4 28 27 2 4 rfl rfl rfl rfl) fun _ H22 => ?_
    refine h_op H22 rfl (H22.wt rfl rfl rfl) (R_mv H22 rfl rfl) rfl (P5 29 28 27 2 4 rfl rfl rfl rfl rfl) fun _ H23 => ?_
    refine h_op H23 rfl (H23.wt rfl rfl rfl) (R_ix H23 rfl rfl rfl (hix _)) rfl (P4 30 27 2 4 rfl rfl rfl rfl) fun _ H24 => ?_
    refine h_op H24 rfl (H24.wt rfl rfl rfl) (R_bin H24 rfl rfl rfl (B_is (y := false) (B8_more _ _) (decide_eq_false (by omega)))) rfl (P4 31 27 2 4 rfl rfl rfl rfl) fun _ H25 => ?_
    refine h_o H25 rfl (R_pick H25 rfl rfl rfl) (P3 32 2 4 rfl rfl rfl) fun _ H26 => ?_
    refine h_end ?_
    repeat (go_not_at_region 8; go_step)
    refine wp_cond_false (H26.ev (x := .tmp 32) rfl) ?_
    repeat (go_not_at_region 8; go_step)
    refine wp_region_lit ?_
    refine h_o H26 rfl (R_mv H26 rfl rfl) (P3 33 2 4 rfl rfl rfl) fun _ H27 => ?_
    refine h_o H27 rfl (R_mv H27 rfl rfl) (P3 34 33 2 rfl rfl rfl) fun _ H28 => ?_
    refine h_o H28 rfl (R_bin H28 rfl rfl rfl (Bi_add _ _ (by omega) (by omega))) (P3 35 33 2 rfl rfl rfl) fun _ H29 => ?_
    refine h_o H29 rfl (R_as H29 rfl rfl) (P2 2 35 rfl rfl) fun _ H30 => ?_
    refine h_o H30 rfl (R_as H30 rfl rfl) (P2 3 2 rfl rfl) fun _ H31 => ?_
    refine h_end ?_
    repeat (go_not_at_region 999; go_step)
    refine H31.ret2 rfl rfl rfl ⟨?_, rfl⟩
    rw [if_neg (fun h => hb2 h.2)] at hgv
    rw [hy, step_bits hb (by omega) ha (by omega), hmod, ← hgv]
    rfl
  ·repeat (go_not_at_region 6; go_step)
   refine wp_region_lit ?_
   refine h_o H18 rfl (R_mv H18 rfl rfl) (P4 25 0 2 4 rfl rfl rfl rfl) fun _ H19 => ?_
   refine h_o H19 rfl (R_bin H19 rfl rfl rfl (B_is (y := false) (Bi_eq _ _) (beq_eq_false_iff_ne.2 (by omega)))) (P4 26 0 2 4 rfl rfl rfl rfl) fun _ H20 => ?_
   refine h_o H20 rfl (R_mv H20 rfl rfl) (P4 27 0 2 4 rfl rfl rfl rfl) fun _ H21 => ?_
   refine h_skip H21 rfl (H21.wf rfl rfl rfl) rfl (P3 27 2 4 rfl rfl rfl) fun _ H22 => ?_
   refine h_skip H22 rfl (H22.wf rfl rfl rfl) rfl (P3 27 2 4 rfl rfl rfl) fun _ H23 => ?_
   refine h_skip H23 rfl (H23.wf rfl rfl rfl) rfl (P3 27 2 4 rfl rfl rfl) fun _ H24 => ?_
   refine h_skip H24 rfl (H24.wf rfl rfl rfl) rfl (P3 27 2 4 rfl rfl rfl) fun _ H25 => ?_
   refine h_o H25 rfl (R_pick H25 rfl rfl rfl) (P3 32 2 4 rfl rfl rfl) fun _ H26 => ?_
   refine h_end ?_
   repeat (go_not_at_region 8; go_step)
   refine wp_cond_false (H26.ev (x := .tmp 32) rfl) ?_
   repeat (go_not_at_region 8; go_step)
   refine wp_region_lit ?_
   refine h_o H26 rfl (R_mv H26 rfl rfl) (P3 33 2 4 rfl rfl rfl) fun _ H27 => ?_
   refine h_o H27 rfl (R_mv H27 rfl rfl) (P3 34 33 2 rfl rfl rfl) fun _ H28 => ?_
   refine h_o H28 rfl (R_bin H28 rfl rfl rfl (Bi_add _ _ (by omega) (by omega))) (P3 35 33 2 rfl rfl rfl) fun _ H29 => ?_
   refine h_o H29 rfl (R_as H29 rfl rfl) (P2 2 35 rfl rfl) fun _ H30 => ?_
   refine h_o H30 rfl (R_as H30 rfl rfl) (P2 3 2 rfl rfl) fun _ H31 => ?_
   refine h_end ?_
   repeat (go_not_at_region 999; go_step)
   refine H31.ret2 rfl rfl rfl ⟨?_, rfl⟩
   rw [if_neg (fun h => h9 h.1)] at hgv
   rw [hy, step_bits hb (by omega) ha (by omega), hmod, ← hgv]
   rfl
 ·repeat (go_not_at_region 5; go_step)
  refine wp_region_lit ?_
  refine h_o H14 rfl (R_mv H14 rfl rfl) (P6 21 0 2 4 7 8 rfl rfl rfl rfl rfl rfl) fun _ H15 => ?_
  refine h_o H15 rfl (R_mv H15 rfl rfl) (P7 22 21 0 2 4 7 8 rfl rfl rfl rfl rfl rfl rfl) fun _ H16 => ?_
  refine h_o H16 rfl (R_ix H16 rfl rfl rfl (hix _)) (P6 23 0 2 4 7 8 rfl rfl rfl rfl rfl rfl) fun _ H17 => ?_
  refine h_o H17 rfl (R_bin H17 rfl rfl rfl (B_is (y := false) (B8_less _ _) (decide_eq_false (by omega)))) (P6 24 0 2 4 7 8 rfl rfl rfl rfl rfl rfl) fun _ H18 => ?_
  refine h_end ?_
  repeat (go_not_at_region 9; go_step)
  refine wp_cond_false (H18.ev (x := .tmp 24) rfl) ?_
  rw [if_neg hb1] at hgv
  repeat (go_not_at_region 9; go_step)
  refine wp_region_lit ?_
  refine h_o H18 rfl (R_bin H18 rfl rfl rfl (Bi_add _ _ (by omega) (by omega))) (P5 36 0 2 7 8 rfl rfl rfl rfl rfl) fun _ H19 => ?_
  refine h_o H19 rfl (R_mv H19 rfl rfl) (P4 8 0 2 7 rfl rfl rfl rfl) fun _ H20 => ?_
  refine h_end ?_
  repeat (go_not_at_region 999; go_step)
  refine ⟨10 - (i + 1), by omega, (HI.out _ _ _).2 ⟨i + 1, acc + b % 128 * 2 ^ (7 * i), y, rfl, by omega, by omega, hgv, fun h10 => ⟨?_, more_lt ha⟩, H20.pick _ (.cons rfl (.cons rfl (.cons rfl (.cons rfl .nil)))), rfl⟩⟩
  rw [hy, step_bits hb (by omega) ha (by omega)]
namespace PgetVar
def pack_getVar.f (k : Nat) (s : ByteArray) : Option (Int × Int) := some (gv 0 0 (bytesOf s))
theorem getVar_same (k : Nat) (a0 : ByteArray) (r1 : Int) (r2 : Int) (w : World) (h : pack_getVar.f k a0 = some (r1, r2)) :
  Calls Tryz.prog 172 #[.string a0] w fun e w' => e = .returned (.tuple #[.int .u64 r1, .int .i64 r2]) ∧ w' = w := by
 have h2 := getVar_any a0 w
 rw [Option.some.inj h] at h2
 exact h2
end PgetVar
end Go.Proofs.YthkeiclhllikjaaGreat
