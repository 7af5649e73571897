/-
  The plain sum: a step of a bit, of half a byte, of a byte.
-/
import Derived.Test.YthkeiclhllikjaaGreatRows
import Derived.WalkKit
import Derived.Laws.BitsAllLaws
import Derived.Test.YthkeiclhllikjaaGreatMsgQa
import Derived.Tactics
import Derived.Tactics2
import Derived.LoopTactic
import Derived.Lib.Hide
import Derived.KernelRfl
import Derived.Laws.Tables
import Derived.Laws.ResultCell
import Derived.Laws.CopyOwn
import Derived.Test.YthkeiclhllikjaaGreatMsgQb
set_option linter.unusedSimpArgs false
set_option linter.unusedVariables false
namespace Go.Proofs.YthkeiclhllikjaaGreat
def sb (c : Nat) : Nat := if c % 2 = 1 then c / 2 ^^^ 2197175160 else c / 2
def sbN : Nat → Nat → Nat
 | 0, c => c
 | n + 1, c => sbN n (sb c)
def sbyte (c b : Nat) : Nat := sbN 8 (c ^^^ b)
def crcR (c : Nat) (l : List Nat) : Nat := l.foldl sbyte c
def crcM (l : List Nat) : Nat := 4294967295 - crcR 4294967295 l
theorem xor_mod2 (a b : Nat) : (a ^^^ b) % 2 = (a % 2 + b % 2) % 2 := by
 rw [show (2 : Nat) = 2 ^ 1 from rfl, Nat.xor_mod_two_pow, show (2 : Nat) ^ 1 = 2 from rfl]
 rcases Nat.mod_two_eq_zero_or_one a with ha | ha <;> rcases Nat.mod_two_eq_zero_or_one b with hb | hb <;> rw [ha, hb] <;> rfl
theorem sb_xor (a b : Nat) : sb (a ^^^ b) = sb a ^^^ sb b := by
 unfold sb
 rw [xor_mod2, Nat.xor_div_two]
 rcases Nat.mod_two_eq_zero_or_one a with ha | ha <;> rcases Nat.mod_two_eq_zero_or_one b with hb | hb <;> simp only [ha, hb, Nat.add_zero, Nat.zero_add, Nat.zero_mod, Nat.reduceMod, Nat.reduceAdd, if_true, if_false, Nat.zero_ne_one, Nat.one_ne_zero]
 ·rw [Nat.xor_assoc]
 ·rw [Nat.xor_assoc, Nat.xor_assoc, Nat.xor_comm (b / 2)]
 ·rw [Nat.xor_assoc, ← Nat.xor_assoc 2197175160, Nat.xor_comm 2197175160 (b / 2), Nat.xor_assoc (b / 2), Nat.xor_self, Nat.xor_zero]
theorem sbN_xor (n : Nat) : ∀ a b, sbN n (a ^^^ b) = sbN n a ^^^ sbN n b := by
 induction n with
 | zero => intro a b; rfl
 | succ n ih => intro a b; rw [sbN, sb_xor, ih]; rfl
theorem sbN_add (m n c : Nat) : sbN (m + n) c = sbN n (sbN m c) := by
 induction m generalizing c with
 | zero => rw [Nat.zero_add]; rfl
 | succ m ih => rw [Nat.add_right_comm, sbN, ih]; rfl
theorem sbN_last (n c : Nat) : sbN (n + 1) c = sb (sbN n c) := sbN_add n 1 c
theorem sb_even (a : Nat) : sb (2 * a) = a := by
 unfold sb
 rw [if_neg (by omega)]
 omega
theorem sbN_shift (n : Nat) : ∀ a, sbN n (2 ^ n * a) = a := by
 induction n with
 | zero => intro a; simp [sbN]
 | succ n ih => intro a; rw [sbN, Nat.pow_succ, Nat.mul_comm (2 ^ n) 2, Nat.mul_assoc, sb_even, ih]
theorem split_xor (n c : Nat) : c = (2 ^ n * (c / 2 ^ n)) ^^^ (c % 2 ^ n) := by
 apply Nat.eq_of_testBit_eq
 intro i
 rw [Nat.testBit_xor, Nat.testBit_mod_two_pow, Nat.testBit_two_pow_mul, Nat.testBit_div_two_pow]
 by_cases h : i < n
 ·simp [h, Nat.not_le.2 h]
 ·simp [h, Nat.not_lt.1 h]
theorem sbN_split (n c : Nat) : sbN n c = c / 2 ^ n ^^^ sbN n (c % 2 ^ n) := by
 conv => lhs; rw [split_xor n c]
 rw [sbN_xor, sbN_shift]
theorem sb_lt {c : Nat} (h : c < 4294967296) : sb c < 4294967296 := by
 unfold sb
 split
 ·exact Nat.xor_lt_two_pow (n := 32) (by omega) (by decide)
 ·omega
theorem sbN_lt (n : Nat) : ∀ c, c < 4294967296 → sbN n c < 4294967296 := by
 induction n with
 | zero => intro c h; exact h
 | succ n ih => intro c h; exact ih _ (sb_lt h)
theorem sbyte_lt {c b : Nat} (h : c < 4294967296) (hb : b < 256) : sbyte c b < 4294967296 := sbN_lt 8 _ (Nat.xor_lt_two_pow (n := 32) h (by omega))
theorem crcR_lt : ∀ (l : List Nat) (c : Nat), c < 4294967296 → (∀ b ∈ l, b < 256) → crcR c l < 4294967296
 | [], c, h, _ => h
 | b :: l, c, h, hl => crcR_lt l _ (sbyte_lt h (hl b (by simp))) (fun x hx => hl x (by simp [hx]))
theorem crcM_lt {l : List Nat} : crcM l < 4294967296 := by unfold crcM; omega
theorem sbyte_two (c b : Nat) : sbyte c b = (((c ^^^ b) / 16 ^^^ sbN 4 ((c ^^^ b) % 16)) / 16) ^^^ sbN 4 (((c ^^^ b) / 16 ^^^ sbN 4 ((c ^^^ b) % 16)) % 16) := by
 unfold sbyte
 rw [show (8 : Nat) = 4 + 4 from rfl, sbN_add, sbN_split 4 (c ^^^ b), show (2 : Nat) ^ 4 = 16 from rfl]
 rw [sbN_split 4]
theorem not_xor {c : Nat} (h : c < 4294967296) : c ^^^ 4294967295 = 4294967295 - c := by
 have h1 := BitVec.toNat_not (x := BitVec.ofNat 32 c)
 have h2 : (~~~ (BitVec.ofNat 32 c)) = BitVec.ofNat 32 c ^^^ BitVec.allOnes 32 := BitVec.xor_allOnes.symm
 rw [h2, BitVec.toNat_xor, BitVec.toNat_ofNat, BitVec.toNat_allOnes, Nat.mod_eq_of_lt (show c < 2 ^ 32 from h)] at h1
 simpa using h1
end Go.Proofs.YthkeiclhllikjaaGreat
/-
 sum.made: the table of what becomes of half a byte.
-/
namespace Go.Proofs.YthkeiclhllikjaaGreat
open Go.RowKit
def tabN (n : Nat) : Array Value := ((List.range 16).map fun j => Value.int .u32 (if j < n then ((sbN 4 j : Nat) : Int) else 0)).toArray
theorem tab_get {n j : Nat} (h : j < 16) : (tabN n)[j]? = some (.int .u32 (if j < n then ((sbN 4 j : Nat) : Int) else 0)) := by
 unfold tabN
 rw [List.getElem?_toArray, List.getElem?_map, List.getElem?_range h]
 rfl
theorem tab_put {j : Nat} (h : j < 16) : (tabN j).setIfInBounds j (.int .u32 (sbN 4 j : Nat)) = tabN (j + 1) := by
 apply Array.ext_getElem?
 intro i
 rw [Array.getElem?_setIfInBounds]
 by_cases hi : i < 16
 ·by_cases hij : j = i
  ·subst hij
   rw [if_pos rfl, if_pos (by simp [tabN]; exact h), tab_get h, if_pos (by omega)]
  ·rw [if_neg hij, tab_get hi, tab_get hi]
   by_cases hlt : i < j
   ·rw [if_pos hlt, if_pos (by omega)]
   ·rw [if_neg hlt, if_neg (by omega)]
 ·have e : ∀ n, (tabN n)[i]? = none := fun n => Array.getElem?_eq_none (by simp [tabN]; omega)
  rw [if_neg (by omega), e, e]
theorem tab_one : (tabN 16).all (·.oneCell') = true := by
 unfold tabN
 rw [List.all_toArray, List.all_map, List.all_eq_true]
 intro x _
 rfl
theorem info130 : (Tryz.prog.info? 186).map (·.size) = some 16 := by kernel_rfl
theorem tab_info : (Tryz.prog.info? 186).map (·.size) = some (tabN 16).size := by
 rw [info130]
 simp [tabN]
theorem Live.rowT {w0 W : World} {L : List Blk} {g : Nat} {A : Array Value} {t : TypeId} (h : Live w0 ((g, A, t) :: L) W) (cs : Array Value) : Live w0 ((g, cs, t) :: L) (W.setRow g cs) := by
 have hn : ∀ p, p ∈ L → p.1 ≠ g := fun p hp he => (List.nodup_cons.1 h.2.1).1 (List.mem_map.2 ⟨p, hp, he⟩)
 refine ⟨below_setRow h.1 h.ge cs, h.2.1, fun p hp => ?_⟩
 rcases List.mem_cons.1 hp with rfl | hp
 ·exact ⟨h.ge, setRow_heap W g A cs t (0, 0) h.at_⟩
 ·exact ⟨(h.2.2 p (List.mem_cons_of_mem _ hp)).1, (setRow_other W g p.1 cs (hn p hp)).trans (h.2.2 p (List.mem_cons_of_mem _ hp)).2⟩
section
variable {w0 W : World} {L : List Blk}
theorem made_any (hL : Live w0 L W) : Calls Tryz.prog 123 #[] W fun x W' => x = .returned (.agg (tabN 16)) ∧ Live w0 L W' := by
 go_enter Tryz.func123, Tryz.ntmps123
 go_wp2_with fail
 go_loopw [3] (fun y wr => ∃ (j : Nat), y = .int .i64 j ∧ j ≤ 16 ∧ Live w0 ((W.heap.size, tabN j, 186) :: L) wr) (fun y _ => 16 - (intOf y).toNat)
 case atStart => exact ⟨0, rfl, by decide, hL.alloc _ _⟩
 case round =>
  obtain ⟨j, rfl, hj, hR⟩ := hrel
  by_cases hjl : j < 16
  ·have r1 : decide ((j : Int) < 16) = true := decide_eq_true (by omega)
   have r2 : IntKind.u32.wrap (j : Int) = j := by rw [IntKind.wrap_u32]; omega
   have Hj := Lib.hid hj
   have Hjl := Lib.hid hjl
   clear hj hjl
   go_wp2_with fail
   go_loopw [2, 8] (fun c k w2 => ∃ (m x : Nat), c = .int .u32 x ∧ k = .int .i64 m ∧ m ≤ 4 ∧ x < 4294967296 ∧ sbN m j = x ∧ w2 = wr) (fun _ k _ => 4 - (intOf k).toNat)
   case atStart => exact ⟨0, j, rfl, rfl, by decide, by have := Hjl.out; omega, rfl, rfl⟩
   case round =>
    obtain ⟨m, x, rfl, rfl, hm, hx, hs, rfl⟩ := hrel
    have Hm := Lib.hid hm
    have Hs := Lib.hid hs
    have Hx := Lib.hid hx
    have e1 : bits .and .u32 (x : Int) 1 = ((x % 2 : Nat) : Int) := (u32_and_nat x 1 hx (by decide)).trans (by rw [nat_mask1])
    obtain ⟨y, hy⟩ : ∃ y, y = x / 2 ^^^ 2197175160 := ⟨_, rfl⟩
    have e5 : bits .xor .u32 ((x : Int) / 2) 2197175160 = (y : Int) := by
     rw [hy]
     exact u32_xor_nat (x / 2) 2197175160 (by omega) (by decide)
    have hb : m ≤ 100 := by omega
    by_cases hml : m < 4
    ·have r3 : decide ((m : Int) < 4) = true := decide_eq_true (by omega)
     have Hml := Lib.hid hml
     by_cases hp : x % 2 = 1
     ·have e2 : (((x % 2 : Nat) : Int) == 1) = true := by rw [hp]; rfl
      have hn : sbN (m + 1) j = y := by rw [sbN_last, hs]; unfold sb; rw [if_pos hp, hy]
      have hl : y < 4294967296 := by rw [hy]; exact Nat.xor_lt_two_pow (n := 32) (by omega) (by decide)
      have Hn := Lib.hid hn
      have Hl := Lib.hid hl
      clear hm hs hml hp hx hn hl hy
      go_wp2_with fail
      refine ⟨⟨m + 1, y, rfl, by go_num, Hml.out, Hl.out, Hn.out, trivial⟩, ?_⟩
      have := Hml.out
      simp [intOf]
      omega
     ·have e2 : (((x % 2 : Nat) : Int) == 1) = false := by
       have : x % 2 = 0 := by omega
       rw [this]; rfl
      have hn : sbN (m + 1) j = x / 2 := by rw [sbN_last, hs]; unfold sb; rw [if_neg hp]
      have hl : x / 2 < 4294967296 := by omega
      have Hn := Lib.hid hn
      have Hl := Lib.hid hl
      clear hm hs hml hp hx hn hl hy e5
      go_wp2_with fail
      refine ⟨⟨m + 1, x / 2, rfl, by go_num, Hml.out, Hl.out, Hn.out, trivial⟩, ?_⟩
      have := Hml.out
      simp [intOf]
      omega
    ·have r3 : decide ((m : Int) < 4) = false := decide_eq_false (by omega)
     have hm4 : m = 4 := by omega
     subst hm4
     clear hm hml hx hs e1 e5 hy hb
     have z1 := hR.thaw j
     have c1 : wr.cell? ⟨W.heap.size, j, none⟩ = some (.int .u32 0) := (hR.cell j).trans ((tab_get Hjl.out).trans (by rw [if_neg (Nat.lt_irrefl j)]))
     have p1 : ((j : Int) < 16) = True := eq_true (by have := Hjl.out; omega)
     have hb : j ≤ 100 := by have := Hjl.out; omega
     go_wp2_with fail
     refine ⟨⟨j + 1, by go_num, Hjl.out, ?_⟩, ?_⟩
     ·rw [← tab_put Hjl.out, Hs.out]
      exact hR.put j _
     ·have := Hjl.out
      simp [intOf]
      omega
  ·have hj16 : j = 16 := by omega
   subst hj16
   have r1 : decide (((16 : Nat) : Int) < 16) = false := rfl
   clear hj hjl
   have hld := hR.at_
   have hst := hR.at_
   have hone := tab_one
   go_wp2_with (first | (refine wpList_load_row rfl 186 (.tmp 0) rfl W.heap.size rfl 186 (tabN 16) (0, 0) _ hld Tryz.underlying186 rfl tab_info ?_) | (refine wpList_store_row rfl 186 (.tmp 0) (.tmp 23) rfl W.heap.size (tabN 16) rfl rfl 186 (tabN 16) hst tab_info rfl hone ?_))
   have h6 := hR.rowT (tabN 16)
   exact bodyPost_ret (v := .agg (tabN 16)) (results_cell_row rfl _ _ W.heap.size 186 (tabN 16) (0, 0) _ rfl h6.at_ Tryz.underlying186 rfl tab_info) rfl ⟨rfl, h6.tail⟩
end
end Go.Proofs.YthkeiclhllikjaaGreat
/-
 sum.More and sum.Crc: the plain sum.
-/
namespace Go.Proofs.YthkeiclhllikjaaGreat
open Go.RowKit
abbrev zer16 : Array Value := #[.int .u32 0, .int .u32 0, .int .u32 0, .int .u32 0, .int .u32 0, .int .u32 0, .int .u32 0, .int .u32 0, .int .u32 0, .int .u32 0, .int .u32 0, .int .u32 0, .int .u32 0, .int .u32 0, .int .u32 0, .int .u32 0]
theorem not_u32 {c : Nat} (h : c < 4294967296) : bits .xor .u32 IntKind.u32.max (c : Int) = ((4294967295 - c : Nat) : Int) := by
 have : IntKind.u32.max = ((4294967295 : Nat) : Int) := by decide
 rw [this, u32_xor_nat _ _ (by decide) h, Nat.xor_comm, not_xor h]
theorem fbytes_drop {s : ByteArray} {j : Nat} (h : j < s.size) : (bytesOf s).drop j = (s[j]'h).toNat :: (bytesOf s).drop (j + 1) := by
 have hl : j < (bytesOf s).length := by simpa [bytesOf] using h
 rw [List.drop_eq_getElem_cons hl]
 congr 1
 simp [bytesOf]
 rfl
section
variable {w0 W : World} {L : List Blk} {c : Nat} {s : ByteArray}
set_option maxHeartbeats 2000000 in
theorem more_any (hc : c < 4294967296) (hz : s.size < 140737488351233) (hL : Live w0 L W) : Calls Tryz.prog 113 #[.int .u32 c, .string s] W fun x W' => x = .returned (.int .u32 (4294967295 - crcR (4294967295 - c) (bytesOf s) : Nat)) ∧ Live w0 L W' := by
 obtain ⟨r, hr⟩ : ∃ r, r = 4294967295 - crcR (4294967295 - c) (bytesOf s) := ⟨_, rfl⟩
 rw [← hr]
 have Hr := Lib.hid hr
 clear hr
 have Hc := Lib.hid hc
 clear hc
 go_enter Tryz.func113, Tryz.ntmps113
 go_wp2_with fail
 refine (made_any hL).mono ?_
 rintro x W1 ⟨rfl, h1⟩
 have h2 := h1.alloc zer16 186
 have hst := h2.at_
 have h3 := h2.rowT (tabN 16)
 have n1 := not_u32 Hc.out
 go_wp2_with (refine wpList_store_row rfl 186 (.tmp 5) (.tmp 8) rfl W1.heap.size (tabN 16) rfl rfl 186 zer16 hst tab_info rfl tab_one ?_)
 obtain ⟨r', hr'⟩ : ∃ r', r' = crcR (4294967295 - c) (bytesOf s) := ⟨_, rfl⟩
 have Hr2 := Lib.hid hr'
 go_loopw [6, 13] (fun y6 y13 wr => ∃ (j x : Nat), y6 = .int .u32 x ∧ y13 = .int .i64 j ∧ j ≤ s.size ∧ x < 4294967296 ∧ crcR x ((bytesOf s).drop j) = r' ∧ Live w0 ((W1.heap.size, tabN 16, 186) :: L) wr) (fun _ y _ => s.size - (intOf y).toNat)
 case atStart => exact ⟨0, 4294967295 - c, rfl, rfl, Nat.zero_le _, by omega, Hr2.out.symm, h3⟩
 case round =>
  obtain ⟨j, x, rfl, rfl, hj, hx, hcr, hw⟩ := hrel
  by_cases hjl : j < s.size
  ·have r1 : decide ((j : Int) < s.size) = true := decide_eq_true (by omega)
   have p1 : (j < s.size) = True := eq_true hjl
   have p2 : ((j : Int) < s.size) = True := eq_true (by omega)
   obtain ⟨b, hb⟩ : ∃ b, s[j].toNat = b := ⟨_, rfl⟩
   have hb1 : b < 256 := by rw [← hb]; exact UInt8.toNat_lt _
   have f1 : (b : Int) % 4294967296 = b := by omega
   have hcr2 : crcR (sbyte x b) ((bytesOf s).drop (j + 1)) = r' := by
    rw [← hcr, fbytes_drop hjl, hb]
    rfl
   have hsl : sbyte x b < 4294967296 := sbyte_lt hx hb1
   have htwo := sbyte_two x b
   obtain ⟨y, hy⟩ : ∃ y, y = x ^^^ b := ⟨_, rfl⟩
   have hyl : y < 4294967296 := by rw [hy]; exact Nat.xor_lt_two_pow (n := 32) hx (by omega)
   have f2 : bits .xor .u32 (x : Int) (b : Int) = (y : Int) := by rw [hy]; exact u32_xor_nat x b hx (by omega)
   obtain ⟨k1, hk1⟩ : ∃ k1, k1 = y % 16 := ⟨_, rfl⟩
   have f3 : bits .and .u32 (y : Int) 15 = (k1 : Int) := (u32_and_nat y 15 hyl (by decide)).trans (by rw [nat_mask4, hk1])
   have hk1l : k1 < 16 := by omega
   have p3 : ((k1 : Int) < 16) = True := eq_true (by omega)
   obtain ⟨t1, ht1⟩ : ∃ t1, t1 = sbN 4 k1 := ⟨_, rfl⟩
   have ht1l : t1 < 4294967296 := by rw [ht1]; exact sbN_lt 4 k1 (by omega)
   have c1 : wr.cell? ⟨W1.heap.size, k1, none⟩ = some (.int .u32 t1) := (hw.cell k1).trans ((tab_get hk1l).trans (by rw [if_pos hk1l, ht1]))
   obtain ⟨z, hz1⟩ : ∃ z, z = y / 16 ^^^ t1 := ⟨_, rfl⟩
   have hzl : z < 4294967296 := by rw [hz1]; exact Nat.xor_lt_two_pow (n := 32) (by omega) ht1l
   have f4 : bits .xor .u32 ((y : Int) / 16) (t1 : Int) = (z : Int) := by rw [hz1]; exact u32_xor_nat (y / 16) t1 (by omega) ht1l
   obtain ⟨k2, hk2⟩ : ∃ k2, k2 = z % 16 := ⟨_, rfl⟩
   have f5 : bits .and .u32 (z : Int) 15 = (k2 : Int) := (u32_and_nat z 15 hzl (by decide)).trans (by rw [nat_mask4, hk2])
   have hk2l : k2 < 16 := by omega
   have p4 : ((k2 : Int) < 16) = True := eq_true (by omega)
   obtain ⟨t2, ht2⟩ : ∃ t2, t2 = sbN 4 k2 := ⟨_, rfl⟩
   have ht2l : t2 < 4294967296 := by rw [ht2]; exact sbN_lt 4 k2 (by omega)
   have c2 : wr.cell? ⟨W1.heap.size, k2, none⟩ = some (.int .u32 t2) := (hw.cell k2).trans ((tab_get hk2l).trans (by rw [if_pos hk2l, ht2]))
   obtain ⟨v, hv⟩ : ∃ v, v = z / 16 ^^^ t2 := ⟨_, rfl⟩
   have f6 : bits .xor .u32 ((z : Int) / 16) (t2 : Int) = (v : Int) := by rw [hv]; exact u32_xor_nat (z / 16) t2 (by omega) ht2l
   rw [← hy, ← hk1, ← ht1, ← hz1, ← hk2, ← ht2, ← hv] at htwo
   rw [htwo] at hcr2 hsl
   have Hcr := Lib.hid hcr2
   have Hsl := Lib.hid hsl
   have Hjl := Lib.hid hjl
   have Hw := Lib.hid hw
   clear hcr2 hsl hcr htwo hy hyl hk1 hk1l ht1 ht1l hz1 hzl hk2 hk2l ht2 ht2l hv hb1 hw hj hx h1 h2 h3 hst n1 Hr2 hr'
   have hb9 : j < 140737488351233 := Nat.lt_trans hjl hz
   go_wp2_with fail
   refine ⟨⟨j + 1, v, rfl, by go_num, Hjl.out, Hsl.out, Hcr.out, Hw.out⟩, ?_⟩
   have := Hjl.out
   simp [intOf]
   omega
  ·have r1 : decide ((j : Int) < s.size) = false := decide_eq_false (by omega)
   have hjz : j = s.size := by omega
   have hxr : x = r' := by
    rw [← hcr, List.drop_eq_nil_of_le (by simp [bytesOf]; omega)]
    rfl
   have n2 := not_u32 hx
   have Hx := Lib.hid hxr
   have Hw := Lib.hid hw
   clear hjz hxr hw h1 h2 h3 hst n1 hj hx hcr
   go_wp2_with fail
   go_ret
   refine ⟨?_, Hw.out.tail⟩
   rw [Hr.out, Hx.out, Hr2.out]
   rfl
theorem crc_any (hz : s.size < 140737488351233) (hL : Live w0 L W) : Calls Tryz.prog 85 #[.string s] W fun x W' => x = .returned (.int .u32 (crcM (bytesOf s) : Nat)) ∧ Live w0 L W' := by
 go_enter Tryz.func85, Tryz.ntmps85
 go_wp2_with fail
 refine (more_any (c := 0) (by decide) hz hL).mono ?_
 rintro x W1 ⟨rfl, h1⟩
 go_wp2
 go_ret
 exact ⟨rfl, h1⟩
end
end Go.Proofs.YthkeiclhllikjaaGreat
/-
 frame.putLittle and frame.put: four bytes behind others.
-/
namespace Go.Proofs.YthkeiclhllikjaaGreat
open Go.RowKit
def le4 (n : Nat) : List Nat := [n % 256, n / 256 % 256, n / 65536 % 256, n / 16777216 % 256]
theorem le4_len (n : Nat) : (le4 n).length = 4 := rfl
theorem le4_all (n : Nat) : ∀ b ∈ le4 n, b < 256 := by
 intro b hb
 simp only [le4, List.mem_cons, List.not_mem_nil, or_false] at hb
 rcases hb with rfl | rfl | rfl | rfl <;> omega
section
variable {w0 W : World} {B L : List Blk} {v : Value} {xs : List Nat} {n : Nat}
set_option maxRecDepth 100000 in
theorem putLittle_any (hn : n < 4294967296) (hr : RowIs 5 v (u8s xs) B) (h : Live w0 (B ++ L) W) (hx : xs.length + 20 ≤ 140737488355328) :
  Calls Tryz.prog 112 #[v, .int .u64 n, .int .i64 4] W fun e W' => ∃ v' B', e = .returned v' ∧ RowIs 5 v' (u8s (xs ++ le4 n)) B' ∧ Live w0 (B' ++ L) W' := by
 obtain ⟨i0, hi, hz0, hz1, hz2⟩ := info_parts infoU8
 go_enter Tryz.func112, Tryz.ntmps112
 go_wp2_with fail
 go_loopw [0, 9] (fun a y wr => ∃ (j : Nat) (B' : List Blk), y = .int .i64 j ∧ j ≤ 4 ∧ RowIs 5 a (u8s (xs ++ (le4 n).take j)) B' ∧ Live w0 (B' ++ L) wr) (fun _ y _ => 4 - (intOf y).toNat)
 case atStart => exact ⟨0, B, rfl, by decide, by simpa using hr, h⟩
 case round =>
  obtain ⟨j, B', rfl, hj, hrow, hlive⟩ := hrel
  have Hrow := Lib.hid hrow
  have hlen : (xs ++ (le4 n).take j).length + 1 ≤ 140737488355328 := by
   rw [List.length_append, List.length_take, le4_len]
   omega
  have Hlen := Lib.hid hlen
  have Hx := Lib.hid hx
  have Hn := Lib.hid hn
  clear hrow hlen hx hn
  by_cases hb : j < 4
  ·have : j = 0 ∨ j = 1 ∨ j = 2 ∨ j = 3 := by omega
   clear hb hj
   rcases this with rfl | rfl | rfl | rfl
   ·obtain ⟨b, hb⟩ : ∃ b : Nat, b = n % 256 := ⟨_, rfl⟩
    have e2 : (n : Int) % 256 = (b : Int) := by omega
    obtain ⟨ys, hys⟩ : ∃ ys, ys = xs ++ (le4 n).take 0 := ⟨_, rfl⟩
    have ht : xs ++ (le4 n).take 1 = ys ++ [b] := by rw [hys, hb, List.append_assoc]; rfl
    rw [← hys] at Hrow Hlen
    have Ht := Lib.hid ht
    clear ht hb hys
    go_wp2_with (at_builtin; refine wpList_append_row rfl (.tmp 12) (.tmp 18) 72 rfl 5 i0 (.int .u8 0) 1 Tryz.underlying72 hi hz0 hz1 hz2 rfl _ (u8s ys) rfl Hrow.out (hlive.put_new _ _) ⟨wr.heap.size, 0, none⟩ 1 1 [.int .u8 b] rfl rfl (cell_one_new _ _ _) (fun u hu => by simp at hu; subst hu; rfl) (by have := Hlen.out; rw [u8s_length]; unfold maxLen; omega) (by have := Hlen.out; rw [u8s_length]; omega) ?_)
    intro v' w' B2 hr2 hl2 _
    have hr3 := hr2.snoc
    rw [← Ht.out] at hr3
    have Hr := Lib.hid hr3
    clear hr2 hr3
    go_wp2
    exact ⟨⟨1, B2, rfl, by decide, Hr.out, (hl2.perm List.perm_middle).tail⟩, by simp [intOf]⟩
   ·obtain ⟨b, hb⟩ : ∃ b : Nat, b = n / 256 % 256 := ⟨_, rfl⟩
    have e2 : (n : Int) / 256 % 256 = (b : Int) := by omega
    obtain ⟨ys, hys⟩ : ∃ ys, ys = xs ++ (le4 n).take 1 := ⟨_, rfl⟩
    have ht : xs ++ (le4 n).take 2 = ys ++ [b] := by rw [hys, hb, List.append_assoc]; rfl
    rw [← hys] at Hrow Hlen
    have Ht := Lib.hid ht
    clear ht hb hys
    go_wp2_with (at_builtin; refine wpList_append_row rfl (.tmp 12) (.tmp 18) 72 rfl 5 i0 (.int .u8 0) 1 Tryz.underlying72 hi hz0 hz1 hz2 rfl _ (u8s ys) rfl Hrow.out (hlive.put_new _ _) ⟨wr.heap.size, 0, none⟩ 1 1 [.int .u8 b] rfl rfl (cell_one_new _ _ _) (fun u hu => by simp at hu; subst hu; rfl) (by have := Hlen.out; rw [u8s_length]; unfold maxLen; omega) (by have := Hlen.out; rw [u8s_length]; omega) ?_)
    intro v' w' B2 hr2 hl2 _
    have hr3 := hr2.snoc
    rw [← Ht.out] at hr3
    have Hr := Lib.hid hr3
    clear hr2 hr3
    go_wp2
    exact ⟨⟨2, B2, rfl, by decide, Hr.out, (hl2.perm List.perm_middle).tail⟩, by simp [intOf]⟩
   ·obtain ⟨b, hb⟩ : ∃ b : Nat, b = n / 65536 % 256 := ⟨_, rfl⟩
    have e2 : (n : Int) / 65536 % 256 = (b : Int) := by omega
    obtain ⟨ys, hys⟩ : ∃ ys, ys = xs ++ (le4 n).take 2 := ⟨_, rfl⟩
    have ht : xs ++ (le4 n).take 3 = ys ++ [b] := by rw [hys, hb, List.append_assoc]; rfl
    rw [← hys] at Hrow Hlen
    have Ht := Lib.hid ht
    clear ht hb hys
    go_wp2_with (at_builtin; refine wpList_append_row rfl (.tmp 12) (.tmp 18) 72 rfl 5 i0 (.int .u8 0) 1 Tryz.underlying72 hi hz0 hz1 hz2 rfl _ (u8s ys) rfl Hrow.out (hlive.put_new _ _) ⟨wr.heap.size, 0, none⟩ 1 1 [.int .u8 b] rfl rfl (cell_one_new _ _ _) (fun u hu => by simp at hu; subst hu; rfl) (by have := Hlen.out; rw [u8s_length]; unfold maxLen; omega) (by have := Hlen.out; rw [u8s_length]; omega) ?_)
    intro v' w' B2 hr2 hl2 _
    have hr3 := hr2.snoc
    rw [← Ht.out] at hr3
    have Hr := Lib.hid hr3
    clear hr2 hr3
    go_wp2
    exact ⟨⟨3, B2, rfl, by decide, Hr.out, (hl2.perm List.perm_middle).tail⟩, by simp [intOf]⟩
   ·obtain ⟨b, hb⟩ : ∃ b : Nat, b = n / 16777216 % 256 := ⟨_, rfl⟩
    have e2 : (n : Int) / 16777216 % 256 = (b : Int) := by omega
    obtain ⟨ys, hys⟩ : ∃ ys, ys = xs ++ (le4 n).take 3 := ⟨_, rfl⟩
    have ht : xs ++ (le4 n).take 4 = ys ++ [b] := by rw [hys, hb, List.append_assoc]; rfl
    rw [← hys] at Hrow Hlen
    have Ht := Lib.hid ht
    clear ht hb hys
    go_wp2_with (at_builtin; refine wpList_append_row rfl (.tmp 12) (.tmp 18) 72 rfl 5 i0 (.int .u8 0) 1 Tryz.underlying72 hi hz0 hz1 hz2 rfl _ (u8s ys) rfl Hrow.out (hlive.put_new _ _) ⟨wr.heap.size, 0, none⟩ 1 1 [.int .u8 b] rfl rfl (cell_one_new _ _ _) (fun u hu => by simp at hu; subst hu; rfl) (by have := Hlen.out; rw [u8s_length]; unfold maxLen; omega) (by have := Hlen.out; rw [u8s_length]; omega) ?_)
    intro v' w' B2 hr2 hl2 _
    have hr3 := hr2.snoc
    rw [← Ht.out] at hr3
    have Hr := Lib.hid hr3
    clear hr2 hr3
    go_wp2
    exact ⟨⟨4, B2, rfl, by decide, Hr.out, (hl2.perm List.perm_middle).tail⟩, by simp [intOf]⟩
  ·have hj4 : j = 4 := by omega
   subst hj4
   clear hb hj
   go_wp2_with fail
   go_ret
   exact ⟨_, B', rfl, Hrow.out, hlive⟩
theorem put_any (hn : n < 4294967296) (hr : RowIs 5 v (u8s xs) B) (h : Live w0 (B ++ L) W) (hx : xs.length + 20 ≤ 140737488355328) :
  Calls Tryz.prog 84 #[v, .int .u32 n] W fun e W' => ∃ v' B', e = .returned v' ∧ RowIs 5 v' (u8s (xs ++ le4 n)) B' ∧ Live w0 (B' ++ L) W' := by
 have e1 : (n : Int) % 18446744073709551616 = n := by omega
 have Hr := Lib.hid hr
 have Hx := Lib.hid hx
 have Hn := Lib.hid hn
 clear hr hx hn
 go_enter Tryz.func84, Tryz.ntmps84
 go_wp2_with fail
 refine (putLittle_any Hn.out Hr.out h Hx.out).mono ?_
 rintro x W1 ⟨v', B', rfl, hr, h1⟩
 go_wp2
 go_ret
 exact ⟨v', B', rfl, hr, h1⟩
end
end Go.Proofs.YthkeiclhllikjaaGreat
/-
 frame.getLittle and frame.get: a number of four bytes.
-/
namespace Go.Proofs.YthkeiclhllikjaaGreat
open Go.RowKit
def get4 (l : List Nat) (n : Nat) : Nat := l.getD n 0 + 256 * l.getD (n + 1) 0 + 65536 * l.getD (n + 2) 0 + 16777216 * l.getD (n + 3) 0
theorem byte_lt {s : ByteArray} {n : Nat} : (bytesOf s).getD n 0 < 256 := by
 rw [List.getD_eq_getElem?_getD]
 cases h : (bytesOf s)[n]? with
 | none => decide
 | some x =>
  have hx := List.mem_of_getElem? h
  obtain ⟨u, _, rfl⟩ := List.mem_map.1 hx
  exact UInt8.toNat_lt u
theorem get4_lt {s : ByteArray} {n : Nat} : get4 (bytesOf s) n < 4294967296 := by
 have h0 := byte_lt (s := s) (n := n)
 have h1 := byte_lt (s := s) (n := n + 1)
 have h2 := byte_lt (s := s) (n := n + 2)
 have h3 := byte_lt (s := s) (n := n + 3)
 unfold get4
 omega
theorem byte_at {s : ByteArray} {n : Nat} (h : n < s.size) : (s[n]'h).toNat = (bytesOf s).getD n 0 := by
 have := fbytes_drop h
 have h2 : (bytesOf s)[n]? = some (s[n]'h).toNat := by
  have e := congrArg List.head? this
  rw [List.head?_drop] at e
  exact e
 rw [List.getD_eq_getElem?_getD, h2]
 rfl
section
variable {W : World} {s : ByteArray} {n : Nat}
set_option maxRecDepth 100000 in
theorem getLittle_any (hz : 4 ≤ s.size) : Calls Tryz.prog 124 #[.string s, .int .i64 4] W fun e W' => e = .returned (.int .u64 (get4 (bytesOf s) 0 : Nat)) ∧ W = W' := by
 have hz0 : 0 < s.size := by omega
 obtain ⟨b0, hb0⟩ : ∃ b, (s[0]'hz0).toNat = b := ⟨_, rfl⟩
 have hl0 : b0 < 256 := by rw [← hb0]; exact UInt8.toNat_lt _
 have g0 : (bytesOf s).getD 0 0 = b0 := (byte_at hz0).symm.trans hb0
 have q0 : (0 < s.size) = True := eq_true hz0
 have hz1 : 1 < s.size := by omega
 obtain ⟨b1, hb1⟩ : ∃ b, (s[1]'hz1).toNat = b := ⟨_, rfl⟩
 have hl1 : b1 < 256 := by rw [← hb1]; exact UInt8.toNat_lt _
 have g1 : (bytesOf s).getD 1 0 = b1 := (byte_at hz1).symm.trans hb1
 have q1 : (1 < s.size) = True := eq_true hz1
 have hz2 : 2 < s.size := by omega
 obtain ⟨b2, hb2⟩ : ∃ b, (s[2]'hz2).toNat = b := ⟨_, rfl⟩
 have hl2 : b2 < 256 := by rw [← hb2]; exact UInt8.toNat_lt _
 have g2 : (bytesOf s).getD 2 0 = b2 := (byte_at hz2).symm.trans hb2
 have q2 : (2 < s.size) = True := eq_true hz2
 have hz3 : 3 < s.size := by omega
 obtain ⟨b3, hb3⟩ : ∃ b, (s[3]'hz3).toNat = b := ⟨_, rfl⟩
 have hl3 : b3 < 256 := by rw [← hb3]; exact UInt8.toNat_lt _
 have g3 : (bytesOf s).getD 3 0 = b3 := (byte_at hz3).symm.trans hb3
 have q3 : (3 < s.size) = True := eq_true hz3
 have hr : get4 (bytesOf s) 0 = b0 + 256 * b1 + 65536 * b2 + 16777216 * b3 := by
  unfold get4
  rw [g0, g1, g2, g3]
 rw [hr]
 have Hz0 := Lib.hid hz0
 clear g0 g1 g2 g3 hr
 go_enter Tryz.func124, Tryz.ntmps124
 go_wp2_with fail
 go_loopw [4, 7] (fun a y wr => wr = W ∧ ((a = .int .u64 0 ∧ y = .int .i64 0) ∨ (a = .int .u64 b0 ∧ y = .int .i64 1) ∨ (a = .int .u64 (b0 + 256 * b1 : Nat) ∧ y = .int .i64 2) ∨ (a = .int .u64 (b0 + 256 * b1 + 65536 * b2 : Nat) ∧ y = .int .i64 3) ∨ (a = .int .u64 (b0 + 256 * b1 + 65536 * b2 + 16777216 * b3 : Nat) ∧ y = .int .i64 4))) (fun _ y _ => 4 - (intOf y).toNat)
 case atStart => exact ⟨rfl, .inl ⟨rfl, rfl⟩⟩
 case round =>
  obtain ⟨rfl, ⟨rfl, rfl⟩ | ⟨rfl, rfl⟩ | ⟨rfl, rfl⟩ | ⟨rfl, rfl⟩ | ⟨rfl, rfl⟩⟩ := hrel
  ·obtain ⟨x, hx⟩ : ∃ x : Nat, x = 0 := ⟨_, rfl⟩
   obtain ⟨y, hy⟩ : ∃ y : Nat, y = b0 := ⟨_, rfl⟩
   have hxl : x < 1 := by omega
   have f1 : bits .or .u64 (x : Int) ((b0 : Int)) = (y : Int) := by
    have e : bits .or .u64 ((x : Nat) : Int) ((b0 * 1 : Nat) : Int) = ((x ||| b0 * 1 : Nat) : Int) := u64_or_nat x (b0 * 1) (by omega) (by omega)
    have e2 : b0 * 1 ||| x = b0 * 1 + x := nat_join 0 _ _ (by omega) (by omega)
    rw [Nat.or_comm, e2] at e
    have e3 : b0 * 1 + x = y := by omega
    rw [e3] at e
    simpa using e
   clear hxl
   have Hx := Lib.hid hx
   have Hy := Lib.hid hy
   have hxz : (0 : Nat) = x := hx.symm
   rw [show (Value.int .u64 0) = .int .u64 (x : Nat) from by rw [hx]; rfl]
   clear hx hy hxz
   go_wp2_with fail
   exact ⟨⟨trivial, .inr (.inl ⟨by rw [Hy.out], rfl⟩)⟩, by simp [intOf]⟩
  ·obtain ⟨x, hx⟩ : ∃ x : Nat, x = b0 := ⟨_, rfl⟩
   obtain ⟨y, hy⟩ : ∃ y : Nat, y = b0 + 256 * b1 := ⟨_, rfl⟩
   have hxl : x < 256 := by omega
   have f1 : bits .or .u64 (x : Int) ((b1 : Int) * 256) = (y : Int) := by
    have e : bits .or .u64 ((x : Nat) : Int) ((b1 * 256 : Nat) : Int) = ((x ||| b1 * 256 : Nat) : Int) := u64_or_nat x (b1 * 256) (by omega) (by omega)
    have e2 : b1 * 256 ||| x = b1 * 256 + x := nat_join 8 _ _ (by omega) (by omega)
    rw [Nat.or_comm, e2] at e
    have e3 : b1 * 256 + x = y := by omega
    rw [e3] at e
    simpa using e
   clear hxl
   have Hx := Lib.hid hx
   have Hy := Lib.hid hy
   have hxz : (b0 : Nat) = x := hx.symm
   rw [hxz]
   clear hx hy hxz
   go_wp2_with fail
   exact ⟨⟨trivial, .inr (.inr (.inl ⟨by rw [Hy.out, Hx.out], rfl⟩))⟩, by simp [intOf]⟩
  ·obtain ⟨x, hx⟩ : ∃ x : Nat, x = b0 + 256 * b1 := ⟨_, rfl⟩
   obtain ⟨y, hy⟩ : ∃ y : Nat, y = b0 + 256 * b1 + 65536 * b2 := ⟨_, rfl⟩
   have hxl : x < 65536 := by omega
   have f1 : bits .or .u64 (x : Int) ((b2 : Int) * 65536) = (y : Int) := by
    have e : bits .or .u64 ((x : Nat) : Int) ((b2 * 65536 : Nat) : Int) = ((x ||| b2 * 65536 : Nat) : Int) := u64_or_nat x (b2 * 65536) (by omega) (by omega)
    have e2 : b2 * 65536 ||| x = b2 * 65536 + x := nat_join 16 _ _ (by omega) (by omega)
    rw [Nat.or_comm, e2] at e
    have e3 : b2 * 65536 + x = y := by omega
    rw [e3] at e
    simpa using e
   clear hxl
   have Hx := Lib.hid hx
   have Hy := Lib.hid hy
   have hxz : (b0 + 256 * b1 : Nat) = x := hx.symm
   rw [hxz]
   clear hx hy hxz
   go_wp2_with fail
   exact ⟨⟨trivial, .inr (.inr (.inr (.inl ⟨by rw [Hy.out, Hx.out], rfl⟩)))⟩, by simp [intOf]⟩
  ·obtain ⟨x, hx⟩ : ∃ x : Nat, x = b0 + 256 * b1 + 65536 * b2 := ⟨_, rfl⟩
   obtain ⟨y, hy⟩ : ∃ y : Nat, y = b0 + 256 * b1 + 65536 * b2 + 16777216 * b3 := ⟨_, rfl⟩
   have hxl : x < 16777216 := by omega
   have f1 : bits .or .u64 (x : Int) ((b3 : Int) * 16777216) = (y : Int) := by
    have e : bits .or .u64 ((x : Nat) : Int) ((b3 * 16777216 : Nat) : Int) = ((x ||| b3 * 16777216 : Nat) : Int) := u64_or_nat x (b3 * 16777216) (by omega) (by omega)
    have e2 : b3 * 16777216 ||| x = b3 * 16777216 + x := nat_join 24 _ _ (by omega) (by omega)
    rw [Nat.or_comm, e2] at e
    have e3 : b3 * 16777216 + x = y := by omega
    rw [e3] at e
    simpa using e
   clear hxl
   have Hx := Lib.hid hx
   have Hy := Lib.hid hy
   have hxz : (b0 + 256 * b1 + 65536 * b2 : Nat) = x := hx.symm
   rw [hxz]
   clear hx hy hxz
   go_wp2_with fail
   exact ⟨⟨trivial, .inr (.inr (.inr (.inr (⟨by rw [Hy.out, Hx.out], rfl⟩))))⟩, by simp [intOf]⟩
  ·go_wp2_with fail
   go_ret
   exact ⟨rfl, rfl⟩
theorem get4_ext (hz : n + 4 ≤ s.size) : get4 (bytesOf (s.extract n (n + 4))) 0 = get4 (bytesOf s) n := by
 have e : bytesOf (s.extract n (n + 4)) = ((bytesOf s).drop n).take 4 := by
  simp [bytesOf, ByteArray.data_extract]
 unfold get4
 rw [e]
 simp [List.getD_eq_getElem?_getD, List.getElem?_take, List.getElem?_drop]
theorem slice_str {n m : Nat} {i j : Int} (hi : i = n) (hj : j = m) (h1 : n ≤ m) (h2 : m ≤ s.size) (w : World) : (Instr.slice 9 (.string s) (some (.int .i64 i)) (some (.int .i64 j)) none).run Tryz.prog w = .ok (.string (s.extract n m)) w := by
 subst hi
 subst hj
 exact (run_slice_string w 9 s .i64 .i64 n m Tryz.underlying9 (by omega) (by omega) (by omega)).trans (by simp)
set_option maxRecDepth 100000 in
theorem get_any (hz : n + 4 ≤ s.size) (hs : s.size < 140737488351233) : Calls Tryz.prog 114 #[.string s, .int .i64 n] W fun e W' => e = .returned (.int .u32 (get4 (bytesOf s) n : Nat)) ∧ W = W' := by
 have hg := get4_ext hz
 obtain ⟨y, hy⟩ : ∃ y, y = get4 (bytesOf s) n := ⟨_, rfl⟩
 have hyl : y < 4294967296 := by rw [hy]; exact get4_lt
 rw [← hy] at hg ⊢
 have hc : Calls Tryz.prog 124 #[.string (s.extract n (n + 4)), .int .i64 4] W fun e W' => e = .returned (.int .u64 (y : Nat)) ∧ W = W' := by
  have h := getLittle_any (W := W) (s := s.extract n (n + 4)) (by rw [ByteArray.size_extract]; omega)
  rw [hg] at h
  exact h
 have f1 : ((y : Nat) : Int) % 4294967296 = y := by omega
 have hsl := slice_str (s := s) (n := n) (m := n + 4) (i := n) (j := (n : Int) + 4) rfl (by omega) (by omega) hz
 have Hy := Lib.hid hyl
 clear hy hyl hg
 go_enter Tryz.func114, Tryz.ntmps114
 go_wp2_with fail
 refine hc.mono ?_
 rintro e w' ⟨rfl, rfl⟩
 go_wp2
 go_ret
 exact ⟨rfl, rfl⟩
end
end Go.Proofs.YthkeiclhllikjaaGreat
