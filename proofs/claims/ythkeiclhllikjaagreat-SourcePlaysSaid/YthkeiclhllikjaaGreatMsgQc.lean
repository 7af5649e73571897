/-
  pack.In.number: its contract.
-/
import Derived.Test.YthkeiclhllikjaaGreatMsgIn
import Derived.Test.YthkeiclhllikjaaGreatMsgVar
import Derived.Deep.QuietTactic
set_option linter.unusedSimpArgs false
set_option linter.unusedVariables false
namespace Go.Proofs.YthkeiclhllikjaaGreat
open Go.RowKit Go.Proofs.YthkeiclhllikjaaGreat.PgetVar
theorem quiet_left' {P : Program} {f : FuncId} {args : Array Value} {w : World} {n : Nat} {v : Value} (h : Calls P f args (w.drewN n) fun e w' => e = .returned v ∧ w' = w.drewN n) : Calls P f args (w.drewN n) fun e w'' => e = .returned v ∧ ∃ m, w'' = w.drewN m :=
 h.mono fun _ _ ⟨he, hm⟩ => ⟨he, n, hm⟩
section
variable {w0 W : World} {L : List Blk} {g : Nat} {s : ByteArray} {n b : Int}
theorem number_one (k : Nat) (v : Int)
  (h : Live w0 ((g, #[.string s, .int .i64 n, .int .i64 b], 177) :: L) W) (hn : 0 ≤ n) (hs : n + 1 ≤ s.size) (hz : s.size < 140737488351233)
  (hv : pack_getVar.f k (s.extract n.toNat s.size) = some (v, 1)) :
  Calls Tryz.prog 171 #[.pointer (some ⟨g, 0, none⟩)] W fun e W' => e = .returned (.tuple #[.int .u64 v, .int .i64 0]) ∧ Live w0 ((g, #[.string s, .int .i64 (n + 1), .int .i64 b], 177) :: L) W' := by
 have c0 : W.cell? ⟨g, 0, none⟩ = some (.string s) := h.cell 0
 have c1 : W.cell? ⟨g, 1, none⟩ = some (.int .i64 n) := h.cell 1
 have z1 := h.thaw 1
 have hw : IntKind.i64.wrap (n + 1) = n + 1 := i64_id (by omega) (by omega)
 go_enter Tryz.func171, Tryz.ntmps171
 go_wp2
 go_quiet ((go_at_call 172; exact quiet_left' (getVar_same k _ v _ _ hv)))
 go_wp2
 go_quiet (fail)
 go_wp2
 go_quiet (fail)
 go_wp2
 exact bodyPost_ret (v := .tuple #[.int .u64 v, .int .i64 0]) (by simp [results, Tryz.results171, go_sem]) rfl ⟨rfl, (h.drewN _).put 1 _⟩
theorem number_neg (k : Nat) (v z : Int)
  (h : Live w0 ((g, #[.string s, .int .i64 n, .int .i64 b], 177) :: L) W) (hn : 0 ≤ n) (hs : n ≤ s.size) (hz : s.size < 140737488351233)
  (hv : pack_getVar.f k (s.extract n.toNat s.size) = some (v, z)) (hneg : z < 0) :
  Calls Tryz.prog 171 #[.pointer (some ⟨g, 0, none⟩)] W fun e W' => e = .returned (.tuple #[.int .u64 0, .int .i64 8]) ∧ Live w0 ((g, #[.string s, .int .i64 n, .int .i64 b], 177) :: L) W' := by
 have c0 : W.cell? ⟨g, 0, none⟩ = some (.string s) := h.cell 0
 have c1 : W.cell? ⟨g, 1, none⟩ = some (.int .i64 n) := h.cell 1
 have e1 : (z == 0) = false := beq_eq_false_iff_ne.2 (by omega)
 have e2 : decide (z < 0) = true := decide_eq_true hneg
 clear hneg
 go_enter Tryz.func171, Tryz.ntmps171
 go_wp2
 go_quiet ((go_at_call 172; exact quiet_left' (getVar_same k _ v _ _ hv)))
 go_wp2
 go_quiet (fail)
 go_wp2
 go_quiet (fail)
 go_wp2
 exact bodyPost_ret (v := .tuple #[.int .u64 0, .int .i64 8]) (by simp [results, Tryz.results171, go_sem]) rfl ⟨rfl, by first | exact h.drewN _ | exact (h.drewN _).drewN _⟩
theorem number_short (k : Nat) (v z : Int)
  (h : Live w0 ((g, #[.string s, .int .i64 n, .int .i64 b], 177) :: L) W) (hn : 0 ≤ n) (hs : n ≤ s.size) (hz : s.size < 140737488351233)
  (hv : pack_getVar.f k (s.extract n.toNat s.size) = some (v, z)) (hzz : z = 0) (hshort : s.size - n < 10) :
  Calls Tryz.prog 171 #[.pointer (some ⟨g, 0, none⟩)] W fun e W' => e = .returned (.tuple #[.int .u64 0, .int .i64 7]) ∧ Live w0 ((g, #[.string s, .int .i64 n, .int .i64 b], 177) :: L) W' := by
 have c0 : W.cell? ⟨g, 0, none⟩ = some (.string s) := h.cell 0
 have c1 : W.cell? ⟨g, 1, none⟩ = some (.int .i64 n) := h.cell 1
 subst hzz
 have hw : IntKind.i64.wrap ((s.size : Int) - n) = s.size - n := i64_id (by omega) (by omega)
 have e1 : decide (10 ≤ (s.size : Int) - n) = false := decide_eq_false (by omega)
 clear hshort
 go_enter Tryz.func171, Tryz.ntmps171
 go_wp2
 go_quiet ((go_at_call 172; exact quiet_left' (getVar_same k _ v _ _ hv)))
 go_wp2
 go_quiet (fail)
 go_wp2
 exact bodyPost_ret (v := .tuple #[.int .u64 0, .int .i64 7]) (by simp [results, Tryz.results171, go_sem]) rfl ⟨rfl, by first | exact h.drewN _ | exact (h.drewN _).drewN _⟩
theorem number_long (k : Nat) (v z : Int)
  (h : Live w0 ((g, #[.string s, .int .i64 n, .int .i64 b], 177) :: L) W) (hn : 0 ≤ n) (hs : n ≤ s.size) (hz : s.size < 140737488351233)
  (hv : pack_getVar.f k (s.extract n.toNat s.size) = some (v, z)) (hzz : z = 0) (hlong : 10 ≤ s.size - n) :
  Calls Tryz.prog 171 #[.pointer (some ⟨g, 0, none⟩)] W fun e W' => e = .returned (.tuple #[.int .u64 0, .int .i64 8]) ∧ Live w0 ((g, #[.string s, .int .i64 n, .int .i64 b], 177) :: L) W' := by
 have c0 : W.cell? ⟨g, 0, none⟩ = some (.string s) := h.cell 0
 have c1 : W.cell? ⟨g, 1, none⟩ = some (.int .i64 n) := h.cell 1
 subst hzz
 have hw : IntKind.i64.wrap ((s.size : Int) - n) = s.size - n := i64_id (by omega) (by omega)
 have e1 : decide (10 ≤ (s.size : Int) - n) = true := decide_eq_true (by omega)
 clear hlong
 go_enter Tryz.func171, Tryz.ntmps171
 go_wp2
 go_quiet ((go_at_call 172; exact quiet_left' (getVar_same k _ v _ _ hv)))
 go_wp2
 go_quiet (fail)
 go_wp2
 exact bodyPost_ret (v := .tuple #[.int .u64 0, .int .i64 8]) (by simp [results, Tryz.results171, go_sem]) rfl ⟨rfl, by first | exact h.drewN _ | exact (h.drewN _).drewN _⟩
end
end Go.Proofs.YthkeiclhllikjaaGreat
/-
 pack.In.number: its contract.
-/
namespace Go.Proofs.YthkeiclhllikjaaGreat
open Go.RowKit Go.Proofs.YthkeiclhllikjaaGreat.PgetVar
section
variable {w0 W : World} {L : List Blk} {g : Nat} {s : ByteArray} {n b : Int}
theorem number_more (k : Nat) (v z : Int)
  (h : Live w0 ((g, #[.string s, .int .i64 n, .int .i64 b], 177) :: L) W) (hn : 0 ≤ n) (hs : n + z ≤ s.size) (hz : s.size < 140737488351233) (hzb : 1 < z)
  (hv : pack_getVar.f k (s.extract n.toNat s.size) = some (v, z)) (hlast : bt s (n + z - 1) ≠ 0) :
  Calls Tryz.prog 171 #[.pointer (some ⟨g, 0, none⟩)] W fun e W' => e = .returned (.tuple #[.int .u64 v, .int .i64 0]) ∧ Live w0 ((g, #[.string s, .int .i64 (n + z), .int .i64 b], 177) :: L) W' := by
 have c0 : W.cell? ⟨g, 0, none⟩ = some (.string s) := h.cell 0
 have c1 : W.cell? ⟨g, 1, none⟩ = some (.int .i64 n) := h.cell 1
 have z1 := h.thaw 1
 have hw : IntKind.i64.wrap (n + z) = n + z := i64_id (by omega) (by omega)
 obtain ⟨j, hj⟩ : ∃ j, j = n + z - 1 := ⟨_, rfl⟩
 rw [← hj] at hlast
 have hw1 : IntKind.i64.wrap (n + z - 1) = j := by rw [hj]; exact i64_id (by omega) (by omega)
 have e1 : (z == 0) = false := beq_eq_false_iff_ne.2 (by omega)
 have e2 : decide (z < 0) = false := decide_eq_false (by omega)
 have e3 : decide (1 < z) = true := decide_eq_true (by omega)
 have e4 : (0 ≤ j) = True := eq_true (by omega)
 have e5 : (j < s.size) = True := eq_true (by omega)
 have e7 := bt_at s j
 have e8 : (bt s j == 0) = false := beq_eq_false_iff_ne.2 hlast
 clear hlast
 have e6 : n ≤ s.size := by omega
 clear hzb hj
 go_enter Tryz.func171, Tryz.ntmps171
 go_wp2
 go_quiet ((go_at_call 172; exact quiet_left' (getVar_same k _ v _ _ hv)))
 go_wp2
 go_quiet (fail)
 go_wp2
 go_quiet (fail)
 go_wp2
 exact bodyPost_ret (v := .tuple #[.int .u64 v, .int .i64 0]) (by simp [results, Tryz.results171, go_sem]) rfl ⟨rfl, by first | exact ((h.drewN _).drewN _).put 1 _ | exact (h.drewN _).put 1 _⟩
theorem number_pad (k : Nat) (v z : Int)
  (h : Live w0 ((g, #[.string s, .int .i64 n, .int .i64 b], 177) :: L) W) (hn : 0 ≤ n) (hs : n + z ≤ s.size) (hz : s.size < 140737488351233) (hzb : 1 < z)
  (hv : pack_getVar.f k (s.extract n.toNat s.size) = some (v, z)) (hlast : bt s (n + z - 1) = 0) :
  Calls Tryz.prog 171 #[.pointer (some ⟨g, 0, none⟩)] W fun e W' => e = .returned (.tuple #[.int .u64 0, .int .i64 8]) ∧ Live w0 ((g, #[.string s, .int .i64 n, .int .i64 b], 177) :: L) W' := by
 have c0 : W.cell? ⟨g, 0, none⟩ = some (.string s) := h.cell 0
 have c1 : W.cell? ⟨g, 1, none⟩ = some (.int .i64 n) := h.cell 1
 have z1 := h.thaw 1
 have hw : IntKind.i64.wrap (n + z) = n + z := i64_id (by omega) (by omega)
 obtain ⟨j, hj⟩ : ∃ j, j = n + z - 1 := ⟨_, rfl⟩
 rw [← hj] at hlast
 have hw1 : IntKind.i64.wrap (n + z - 1) = j := by rw [hj]; exact i64_id (by omega) (by omega)
 have e1 : (z == 0) = false := beq_eq_false_iff_ne.2 (by omega)
 have e2 : decide (z < 0) = false := decide_eq_false (by omega)
 have e3 : decide (1 < z) = true := decide_eq_true (by omega)
 have e4 : (0 ≤ j) = True := eq_true (by omega)
 have e5 : (j < s.size) = True := eq_true (by omega)
 have e7 := bt_at s j
 have e8 : (bt s j == 0) = true := beq_iff_eq.2 hlast
 clear hlast
 have e6 : n ≤ s.size := by omega
 clear hzb hj
 go_enter Tryz.func171, Tryz.ntmps171
 go_wp2
 go_quiet ((go_at_call 172; exact quiet_left' (getVar_same k _ v _ _ hv)))
 go_wp2
 go_quiet (fail)
 go_wp2
 go_quiet (fail)
 go_wp2
 exact bodyPost_ret (v := .tuple #[.int .u64 0, .int .i64 8]) (by simp [results, Tryz.results171, go_sem]) rfl ⟨rfl, by first | exact h.drewN _ | exact (h.drewN _).drewN _⟩
end
end Go.Proofs.YthkeiclhllikjaaGreat
/-
 pack.In.most: its contract out of number's.
-/
namespace Go.Proofs.YthkeiclhllikjaaGreat
open Go.RowKit Go.Proofs.YthkeiclhllikjaaGreat.PgetVar
theorem u64_id {n : Int} (h0 : 0 ≤ n) (h1 : n < 18446744073709551616) : IntKind.u64.wrap n = n := by
 simp only [IntKind.wrap, show IntKind.u64.bits = 64 from rfl, show IntKind.u64.signed = false from rfl, Bool.false_and, Bool.false_eq_true, if_false]
 omega
def NumSays (s : ByteArray) (n v e n' : Int) : Prop := ∀ (w0 W : World) (L : List Blk) (g : Nat) (b : Int),
 Live w0 ((g, #[.string s, .int .i64 n, .int .i64 b], 177) :: L) W →
  Calls Tryz.prog 171 #[.pointer (some ⟨g, 0, none⟩)] W fun x W' => x = .returned (.tuple #[.int .u64 v, .int .i64 e]) ∧ Live w0 ((g, #[.string s, .int .i64 n', .int .i64 b], 177) :: L) W'
section
variable {w0 W : World} {L : List Blk} {g : Nat} {s : ByteArray} {n n' b v e m : Int}
theorem most_ok (hN : NumSays s n v 0 n') (h : Live w0 ((g, #[.string s, .int .i64 n, .int .i64 b], 177) :: L) W) (h0 : 0 ≤ v) (h1 : v ≤ m) (h2 : m < 9223372036854775808) :
  Calls Tryz.prog 168 #[.pointer (some ⟨g, 0, none⟩), .int .i64 m] W fun x W' => x = .returned (.tuple #[.int .i64 v, .int .i64 0]) ∧ Live w0 ((g, #[.string s, .int .i64 n', .int .i64 b], 177) :: L) W' := by
 have e1 : decide (m < 0) = false := decide_eq_false (by omega)
 have e2 : decide (m < v) = false := decide_eq_false (by omega)
 have w1 : IntKind.u64.wrap m = m := u64_id (by omega) (by omega)
 have w2 : IntKind.i64.wrap v = v := i64_id (by omega) (by omega)
 clear h0 h1 h2
 go_enter Tryz.func168, Tryz.ntmps168
 go_wp2_with fail
 refine (hN _ _ _ _ _ h).mono ?_
 rintro x W' ⟨rfl, h'⟩
 go_wp2
 exact bodyPost_ret (v := .tuple #[.int .i64 v, .int .i64 0]) (by simp [results, Tryz.results168, go_sem, w2]) rfl ⟨rfl, h'⟩
theorem most_bad (he : e ≠ 0) (hN : NumSays s n 0 e n') (h : Live w0 ((g, #[.string s, .int .i64 n, .int .i64 b], 177) :: L) W) :
  Calls Tryz.prog 168 #[.pointer (some ⟨g, 0, none⟩), .int .i64 m] W fun x W' => x = .returned (.tuple #[.int .i64 0, .int .i64 e]) ∧ Live w0 ((g, #[.string s, .int .i64 n', .int .i64 b], 177) :: L) W' := by
 have e1 : (e == 0) = false := beq_eq_false_iff_ne.2 he
 clear he
 go_enter Tryz.func168, Tryz.ntmps168
 go_wp2_with fail
 refine (hN _ _ _ _ _ h).mono ?_
 rintro x W' ⟨rfl, h'⟩
 go_wp2
 exact bodyPost_ret (v := .tuple #[.int .i64 0, .int .i64 e]) (by simp [results, Tryz.results168, go_sem]) rfl ⟨rfl, h'⟩
end
end Go.Proofs.YthkeiclhllikjaaGreat
/-
 pack.In.Most: its closure.
-/
namespace Go.Proofs.YthkeiclhllikjaaGreat
open Go.RowKit
end Go.Proofs.YthkeiclhllikjaaGreat
/-
 pack.In.try over each closure.
-/
namespace Go.Proofs.YthkeiclhllikjaaGreat
open Go.RowKit
section
variable {w0 W : World} {L : List Blk} {g : Nat} {s : ByteArray} {n : Int}
theorem tryMost_ok (cap : Array Value) (Q : World → Prop) (h : Live w0 ((g, #[.string s, .int .i64 n, .int .i64 0], 177) :: L) W)
  (hc : Calls Tryz.prog 167 cap W fun x W' => x = .returned (.int .i64 0) ∧ Q W') :
  Calls Tryz.prog 165 #[.pointer (some ⟨g, 0, none⟩), .func (.func 167) #[] cap] W fun x W' => x = .returned (.tuple #[]) ∧ Q W' := by
 have c1 : W.cell? ⟨g, 1, none⟩ = some (.int .i64 n) := h.cell 1
 have c2 : W.cell? ⟨g, 2, none⟩ = some (.int .i64 0) := h.cell 2
 go_enter Tryz.func165, Tryz.ntmps165
 go_wp2_with fail
 refine hc.mono ?_
 rintro x W' ⟨rfl, hq⟩
 go_wp2
 go_end0
 exact ⟨rfl, hq⟩
theorem tryNum_ok (cap : Array Value) (Q : World → Prop) (h : Live w0 ((g, #[.string s, .int .i64 n, .int .i64 0], 177) :: L) W)
  (hc : Calls Tryz.prog 170 cap W fun x W' => x = .returned (.int .i64 0) ∧ Q W') :
  Calls Tryz.prog 165 #[.pointer (some ⟨g, 0, none⟩), .func (.func 170) #[] cap] W fun x W' => x = .returned (.tuple #[]) ∧ Q W' := by
 have c1 : W.cell? ⟨g, 1, none⟩ = some (.int .i64 n) := h.cell 1
 have c2 : W.cell? ⟨g, 2, none⟩ = some (.int .i64 0) := h.cell 2
 go_enter Tryz.func165, Tryz.ntmps165
 go_wp2_with fail
 refine hc.mono ?_
 rintro x W' ⟨rfl, hq⟩
 go_wp2
 go_end0
 exact ⟨rfl, hq⟩
theorem tryByte_ok (cap : Array Value) (Q : World → Prop) (h : Live w0 ((g, #[.string s, .int .i64 n, .int .i64 0], 177) :: L) W)
  (hc : Calls Tryz.prog 166 cap W fun x W' => x = .returned (.int .i64 0) ∧ Q W') :
  Calls Tryz.prog 165 #[.pointer (some ⟨g, 0, none⟩), .func (.func 166) #[] cap] W fun x W' => x = .returned (.tuple #[]) ∧ Q W' := by
 have c1 : W.cell? ⟨g, 1, none⟩ = some (.int .i64 n) := h.cell 1
 have c2 : W.cell? ⟨g, 2, none⟩ = some (.int .i64 0) := h.cell 2
 go_enter Tryz.func165, Tryz.ntmps165
 go_wp2_with fail
 refine hc.mono ?_
 rintro x W' ⟨rfl, hq⟩
 go_wp2
 go_end0
 exact ⟨rfl, hq⟩
theorem tryText_ok (cap : Array Value) (Q : World → Prop) (h : Live w0 ((g, #[.string s, .int .i64 n, .int .i64 0], 177) :: L) W)
  (hc : Calls Tryz.prog 169 cap W fun x W' => x = .returned (.int .i64 0) ∧ Q W') :
  Calls Tryz.prog 165 #[.pointer (some ⟨g, 0, none⟩), .func (.func 169) #[] cap] W fun x W' => x = .returned (.tuple #[]) ∧ Q W' := by
 have c1 : W.cell? ⟨g, 1, none⟩ = some (.int .i64 n) := h.cell 1
 have c2 : W.cell? ⟨g, 2, none⟩ = some (.int .i64 0) := h.cell 2
 go_enter Tryz.func165, Tryz.ntmps165
 go_wp2_with fail
 refine hc.mono ?_
 rintro x W' ⟨rfl, hq⟩
 go_wp2
 go_end0
 exact ⟨rfl, hq⟩
end
end Go.Proofs.YthkeiclhllikjaaGreat
/-
 pack.In.try over each closure, where that finds a fault.
-/
namespace Go.Proofs.YthkeiclhllikjaaGreat
open Go.RowKit
section
variable {w0 W : World} {L L' : List Blk} {g : Nat} {s : ByteArray} {n n1 f : Int}
theorem tryMost_bad (cap : Array Value) (hf : f ≠ 0) (h : Live w0 ((g, #[.string s, .int .i64 n, .int .i64 0], 177) :: L) W)
  (hc : Calls Tryz.prog 167 cap W fun x W' => x = .returned (.int .i64 f) ∧ Live w0 ((g, #[.string s, .int .i64 n1, .int .i64 0], 177) :: L') W') :
  Calls Tryz.prog 165 #[.pointer (some ⟨g, 0, none⟩), .func (.func 167) #[] cap] W fun x W' => x = .returned (.tuple #[]) ∧ Live w0 ((g, #[.string s, .int .i64 n, .int .i64 f], 177) :: L') W' := by
 have c1 : W.cell? ⟨g, 1, none⟩ = some (.int .i64 n) := h.cell 1
 have c2 : W.cell? ⟨g, 2, none⟩ = some (.int .i64 0) := h.cell 2
 have e1 : (f == 0) = false := beq_eq_false_iff_ne.2 hf
 have e2 : (f != 0) = true := bne_iff_ne.2 hf
 clear hf
 go_enter Tryz.func165, Tryz.ntmps165
 go_wp2_with fail
 refine hc.mono ?_
 rintro x W' ⟨rfl, h1⟩
 have d1 : W'.cell? ⟨g, 1, none⟩ = some (.int .i64 n1) := h1.cell 1
 have t1 := h1.thaw 1
 have h2 := h1.put 1 (.int .i64 n)
 have d2 : (W'.setCell ⟨g, 1, none⟩ (.int .i64 n)).cell? ⟨g, 2, none⟩ = some (.int .i64 0) := h2.cell 2
 have t2 := h2.thaw 2
 go_wp2
 go_end0
 exact ⟨rfl, h2.put 2 _⟩
theorem tryNum_bad (cap : Array Value) (hf : f ≠ 0) (h : Live w0 ((g, #[.string s, .int .i64 n, .int .i64 0], 177) :: L) W)
  (hc : Calls Tryz.prog 170 cap W fun x W' => x = .returned (.int .i64 f) ∧ Live w0 ((g, #[.string s, .int .i64 n1, .int .i64 0], 177) :: L') W') :
  Calls Tryz.prog 165 #[.pointer (some ⟨g, 0, none⟩), .func (.func 170) #[] cap] W fun x W' => x = .returned (.tuple #[]) ∧ Live w0 ((g, #[.string s, .int .i64 n, .int .i64 f], 177) :: L') W' := by
 have c1 : W.cell? ⟨g, 1, none⟩ = some (.int .i64 n) := h.cell 1
 have c2 : W.cell? ⟨g, 2, none⟩ = some (.int .i64 0) := h.cell 2
 have e1 : (f == 0) = false := beq_eq_false_iff_ne.2 hf
 have e2 : (f != 0) = true := bne_iff_ne.2 hf
 clear hf
 go_enter Tryz.func165, Tryz.ntmps165
 go_wp2_with fail
 refine hc.mono ?_
 rintro x W' ⟨rfl, h1⟩
 have d1 : W'.cell? ⟨g, 1, none⟩ = some (.int .i64 n1) := h1.cell 1
 have t1 := h1.thaw 1
 have h2 := h1.put 1 (.int .i64 n)
 have d2 : (W'.setCell ⟨g, 1, none⟩ (.int .i64 n)).cell? ⟨g, 2, none⟩ = some (.int .i64 0) := h2.cell 2
 have t2 := h2.thaw 2
 go_wp2
 go_end0
 exact ⟨rfl, h2.put 2 _⟩
theorem tryByte_bad (cap : Array Value) (hf : f ≠ 0) (h : Live w0 ((g, #[.string s, .int .i64 n, .int .i64 0], 177) :: L) W)
  (hc : Calls Tryz.prog 166 cap W fun x W' => x = .returned (.int .i64 f) ∧ Live w0 ((g, #[.string s, .int .i64 n1, .int .i64 0], 177) :: L') W') :
  Calls Tryz.prog 165 #[.pointer (some ⟨g, 0, none⟩), .func (.func 166) #[] cap] W fun x W' => x = .returned (.tuple #[]) ∧ Live w0 ((g, #[.string s, .int .i64 n, .int .i64 f], 177) :: L') W' := by
 have c1 : W.cell? ⟨g, 1, none⟩ = some (.int .i64 n) := h.cell 1
 have c2 : W.cell? ⟨g, 2, none⟩ = some (.int .i64 0) := h.cell 2
 have e1 : (f == 0) = false := beq_eq_false_iff_ne.2 hf
 have e2 : (f != 0) = true := bne_iff_ne.2 hf
 clear hf
 go_enter Tryz.func165, Tryz.ntmps165
 go_wp2_with fail
 refine hc.mono ?_
 rintro x W' ⟨rfl, h1⟩
 have d1 : W'.cell? ⟨g, 1, none⟩ = some (.int .i64 n1) := h1.cell 1
 have t1 := h1.thaw 1
 have h2 := h1.put 1 (.int .i64 n)
 have d2 : (W'.setCell ⟨g, 1, none⟩ (.int .i64 n)).cell? ⟨g, 2, none⟩ = some (.int .i64 0) := h2.cell 2
 have t2 := h2.thaw 2
 go_wp2
 go_end0
 exact ⟨rfl, h2.put 2 _⟩
theorem tryText_bad (cap : Array Value) (hf : f ≠ 0) (h : Live w0 ((g, #[.string s, .int .i64 n, .int .i64 0], 177) :: L) W)
  (hc : Calls Tryz.prog 169 cap W fun x W' => x = .returned (.int .i64 f) ∧ Live w0 ((g, #[.string s, .int .i64 n1, .int .i64 0], 177) :: L') W') :
  Calls Tryz.prog 165 #[.pointer (some ⟨g, 0, none⟩), .func (.func 169) #[] cap] W fun x W' => x = .returned (.tuple #[]) ∧ Live w0 ((g, #[.string s, .int .i64 n, .int .i64 f], 177) :: L') W' := by
 have c1 : W.cell? ⟨g, 1, none⟩ = some (.int .i64 n) := h.cell 1
 have c2 : W.cell? ⟨g, 2, none⟩ = some (.int .i64 0) := h.cell 2
 have e1 : (f == 0) = false := beq_eq_false_iff_ne.2 hf
 have e2 : (f != 0) = true := bne_iff_ne.2 hf
 clear hf
 go_enter Tryz.func165, Tryz.ntmps165
 go_wp2_with fail
 refine hc.mono ?_
 rintro x W' ⟨rfl, h1⟩
 have d1 : W'.cell? ⟨g, 1, none⟩ = some (.int .i64 n1) := h1.cell 1
 have t1 := h1.thaw 1
 have h2 := h1.put 1 (.int .i64 n)
 have d2 : (W'.setCell ⟨g, 1, none⟩ (.int .i64 n)).cell? ⟨g, 2, none⟩ = some (.int .i64 0) := h2.cell 2
 have t2 := h2.thaw 2
 go_wp2
 go_end0
 exact ⟨rfl, h2.put 2 _⟩
end
end Go.Proofs.YthkeiclhllikjaaGreat
/-
 pack.In.Most: its contract.
-/
namespace Go.Proofs.YthkeiclhllikjaaGreat
open Go.RowKit
theorem Live.rot4 {w0 W : World} {L : List Blk} {a b c d : Blk} (h : Live w0 (a :: b :: c :: d :: L) W) : Live w0 (d :: a :: c :: b :: L) W :=
 h.perm (((List.Perm.swap c b (d :: L)).cons a).trans (List.perm_middle (l₁ := [a, c, b]) (a := d) (l₂ := L)))
theorem Live.drop3 {w0 W : World} {L : List Blk} {a b c d : Blk} (h : Live w0 (a :: b :: c :: d :: L) W) : Live w0 (a :: L) W :=
 (h.perm ((List.perm_middle (l₁ := [a, b, c]) (a := d) (l₂ := L)).trans ((List.perm_middle (l₁ := [a, b]) (a := c) (l₂ := L)).trans (List.Perm.swap b a L |>.symm |>.symm |>.cons c) |>.cons d))).tail.tail.tail
end Go.Proofs.YthkeiclhllikjaaGreat
/-
 msg.reader's ask and num where nothing is at fault.
-/
namespace Go.Proofs.YthkeiclhllikjaaGreat
open Go.RowKit
section
variable {w0 W : World} {L : List Blk} {g r p : Nat} {s : ByteArray} {n n' v m : Int}
theorem ask_ok (h : Live w0 ((g, #[.string s, .int .i64 n, .int .i64 0], 177) :: (r, #[.pointer (some ⟨g, 0, none⟩)], 138) :: L) W) :
  Calls Tryz.prog 153 #[.pointer (some ⟨r, 0, none⟩)] W fun x W' => x = .returned (.tuple #[]) ∧ Live w0 ((g, #[.string s, .int .i64 n, .int .i64 0], 177) :: (r, #[.pointer (some ⟨g, 0, none⟩)], 138) :: L) W' := by
 have hr : W.cell? ⟨r, 0, none⟩ = some (.pointer (some ⟨g, 0, none⟩)) := h.tail.cell 0
 go_enter Tryz.func153, Tryz.ntmps153
 go_wp2_with fail
 refine (fault_ok (s := s) (n := n) h.at_).mono ?_
 rintro x W' ⟨rfl, hb⟩
 have h' := h.call hb
 go_wp2
 go_end0
 exact ⟨rfl, h'⟩
end
end Go.Proofs.YthkeiclhllikjaaGreat
/-
 pack.In.Byte: its closure.
-/
namespace Go.Proofs.YthkeiclhllikjaaGreat
open Go.RowKit
section
variable {w0 W : World} {L : List Blk} {g bx bn : Nat} {s : ByteArray} {n b old : Int}
theorem bytec_ok (hn : 0 ≤ n) (hs : n < s.size) (hz : s.size < 140737488351233)
  (h : Live w0 ((g, #[.string s, .int .i64 n, .int .i64 b], 177) :: (bn, #[.int .u8 old], 5) :: (bx, #[.pointer (some ⟨g, 0, none⟩)], 135) :: L) W) :
  Calls Tryz.prog 166 #[.pointer (some ⟨bx, 0, none⟩), .pointer (some ⟨bn, 0, none⟩)] W fun x W' => x = .returned (.int .i64 0) ∧
   Live w0 ((g, #[.string s, .int .i64 (n + 1), .int .i64 b], 177) :: (bn, #[.int .u8 (bt s n)], 5) :: (bx, #[.pointer (some ⟨g, 0, none⟩)], 135) :: L) W' := by
 have c0 : W.cell? ⟨g, 0, none⟩ = some (.string s) := h.cell 0
 have c1 : W.cell? ⟨g, 1, none⟩ = some (.int .i64 n) := h.cell 1
 have hx : W.cell? ⟨bx, 0, none⟩ = some (.pointer (some ⟨g, 0, none⟩)) := h.tail.tail.cell 0
 have e1 : (n == (s.size : Int)) = false := beq_eq_false_iff_ne.2 (by omega)
 have e4 : (0 ≤ n) = True := eq_true (by omega)
 have e5 : (n < s.size) = True := eq_true (by omega)
 have e7 := bt_at s n
 have hw : IntKind.i64.wrap (n + 1) = n + 1 := i64_id (by omega) (by omega)
 go_enter Tryz.func166, Tryz.ntmps166
 go_wp2
 go_quiet (fail)
 have z1 := h.tail.thaw 0
 have c3 : W.cell? ⟨bn, 0, none⟩ = some (.int .u8 old) := h.tail.cell 0
 go_wp2
 go_region
 have hL := ((h.drewN (nq + 1)).swap.put 0 (.int .u8 (bt s n))).swap
 have d1 := hL.cell 1
 have d2 : ((W.drewN (nq + 1)).setCell ⟨bn, 0, none⟩ (.int .u8 (bt s n))).cell? ⟨bx, 0, none⟩ = some (.pointer (some ⟨g, 0, none⟩)) := hL.tail.tail.cell 0
 replace d1 : ((W.drewN (nq + 1)).setCell ⟨bn, 0, none⟩ (.int .u8 (bt s n))).cell? ⟨g, 1, none⟩ = some (.int .i64 n) := d1
 have d3 := hL.thaw 1
 go_wp2
 exact bodyPost_ret (v := .int .i64 0) (by simp [results, Tryz.results166, go_sem]) rfl ⟨rfl, hL.put 1 _⟩
end
end Go.Proofs.YthkeiclhllikjaaGreat
/-
 pack.In.Byte: its contract.
-/
namespace Go.Proofs.YthkeiclhllikjaaGreat
open Go.RowKit
section
variable {w0 W : World} {L : List Blk} {g : Nat} {s : ByteArray} {n : Int}
theorem Byte_ok (hn : 0 ≤ n) (hs : n < s.size) (hz : s.size < 140737488351233)
  (h : Live w0 ((g, #[.string s, .int .i64 n, .int .i64 0], 177) :: L) W) :
  Calls Tryz.prog 160 #[.pointer (some ⟨g, 0, none⟩)] W fun x W' => x = .returned (.int .u8 (bt s n)) ∧ Live w0 ((g, #[.string s, .int .i64 (n + 1), .int .i64 0], 177) :: L) W' := by
 have hmf : ∀ (fn : Fn) (first cap : Array Value) (w : World), (Instr.makeFunc fn first cap).run Tryz.prog w = .ok (.func fn first cap) w := fun _ _ _ _ => rfl
 go_enter Tryz.func160, Tryz.ntmps160
 go_wp2_with fail
 have hL := ((h.alloc #[.pointer (some ⟨g, 0, none⟩)] 135).alloc #[.int .u8 0] 5).third
 have hs1 : ∀ (w : World) (o : Obj), (w.alloc o).heap.size = w.heap.size + 1 := fun w o => by simp
 simp only [hs1] at hL
 refine (tryByte_ok _ _ hL (bytec_ok hn hs hz hL)).mono ?_
 rintro x W' ⟨rfl, h'⟩
 have hn : W'.cell? ⟨W.heap.size + 1, 0, none⟩ = some (.int .u8 (bt s n)) := h'.tail.cell 0
 have hz := h'.tail.thaw 0
 go_wp2
 have hf := (h'.swap.put 0 (.int .u8 (bt s n))).swap
 have hc : (W'.setCell ⟨W.heap.size + 1, 0, none⟩ (.int .u8 (bt s n))).cell? ⟨W.heap.size + 1, 0, none⟩ = some (.int .u8 (bt s n)) := hf.tail.cell 0
 exact bodyPost_ret (v := .int .u8 (bt s n)) (by simp [results, Tryz.results160, go_sem, hc]) rfl ⟨rfl, hf.swap.tail.swap.tail⟩
end
end Go.Proofs.YthkeiclhllikjaaGreat
/-
 msg.reader's byte where nothing is at fault.
-/
namespace Go.Proofs.YthkeiclhllikjaaGreat
open Go.RowKit
end Go.Proofs.YthkeiclhllikjaaGreat
