/-
  msg.reader's methods, each out of what its reading says.
-/
import Derived.Test.YthkeiclhllikjaaGreatMsgQd
import Derived.Test.YthkeiclhllikjaaGreatMsgQc
import Derived.Test.YthkeiclhllikjaaGreatMsgW
set_option linter.unusedSimpArgs false
set_option linter.unusedVariables false
namespace Go.Proofs.YthkeiclhllikjaaGreat
open Go.RowKit
section
variable {w0 W : World} {L : List Blk} {g r p i : Nat} {s : ByteArray} {n f : Int} {A : Array Value} {t : TypeId} {n' : Nat}
theorem ask_bad (hf : f ≠ 0) (h : Live w0 ((g, #[.string s, .int .i64 n, .int .i64 f], 177) :: (r, #[.pointer (some ⟨g, 0, none⟩)], 138) :: L) W) :
  Calls Tryz.prog 153 #[.pointer (some ⟨r, 0, none⟩)] W fun x W' => x = gave f ∧ Live w0 L W' := by
 have hr : W.cell? ⟨r, 0, none⟩ = some (.pointer (some ⟨g, 0, none⟩)) := h.tail.cell 0
 have e1 : (f == 0) = false := beq_eq_false_iff_ne.2 hf
 have e2 : (f != 0) = true := bne_iff_ne.2 hf
 have hF := fault_bad hf (s := s) (n := n) h.at_
 clear hf
 go_enter Tryz.func153, Tryz.ntmps153
 go_wp2_with fail
 refine hF.mono ?_
 rintro x W' ⟨rfl, hb⟩
 have h' := h.call hb
 go_wp2
 exact ⟨rfl, rfl, h'.tail.tail⟩
theorem rnum_run_ok {old v : Int} (hA : A[i]? = some (.int .i64 old)) (h : Live w0 ((g, #[.string s, .int .i64 n, .int .i64 0], 177) :: (r, #[.pointer (some ⟨g, 0, none⟩)], 138) :: (p, A, t) :: L) W)
  (hM : Calls Tryz.prog 161 #[.pointer (some ⟨g, 0, none⟩), .int .i64 2147483647] W fun x W' => x = .returned (.int .i64 v) ∧ Live w0 ((g, #[.string s, .int .i64 n', .int .i64 0], 177) :: (r, #[.pointer (some ⟨g, 0, none⟩)], 138) :: (p, A, t) :: L) W') :
  Calls Tryz.prog 157 #[.pointer (some ⟨r, 0, none⟩), .pointer (some ⟨p, i, none⟩)] W fun x W' => x = .returned (.tuple #[]) ∧ Live w0 ((g, #[.string s, .int .i64 n', .int .i64 0], 177) :: (r, #[.pointer (some ⟨g, 0, none⟩)], 138) :: (p, A.setIfInBounds i (.int .i64 v), t) :: L) W' := by
 have hr : W.cell? ⟨r, 0, none⟩ = some (.pointer (some ⟨g, 0, none⟩)) := h.tail.cell 0
 go_enter Tryz.func157, Tryz.ntmps157
 go_wp2_with fail
 refine hM.mono ?_
 rintro x W' ⟨rfl, h'⟩
 have hp : W'.cell? ⟨p, i, none⟩ = some (.int .i64 old) := (h'.tail.tail.cell i).trans hA
 have hz := h'.tail.tail.thaw i
 go_wp2_with fail
 have h2 := (h'.third.put i (.int .i64 v)).swap
 have h3 := h2.perm ((List.Perm.swap _ _ _).cons _)
 refine (ask_ok h3.swap.swap).mono ?_
 rintro x W'' ⟨rfl, h4⟩
 go_wp2
 go_end0
 exact ⟨rfl, h4⟩
theorem rnum_run_bad {old v : Int} (hf : f ≠ 0) (hA : A[i]? = some (.int .i64 old)) (h : Live w0 ((g, #[.string s, .int .i64 n, .int .i64 0], 177) :: (r, #[.pointer (some ⟨g, 0, none⟩)], 138) :: (p, A, t) :: L) W)
  (hM : Calls Tryz.prog 161 #[.pointer (some ⟨g, 0, none⟩), .int .i64 2147483647] W fun x W' => x = .returned (.int .i64 v) ∧ Live w0 ((g, #[.string s, .int .i64 n, .int .i64 f], 177) :: (r, #[.pointer (some ⟨g, 0, none⟩)], 138) :: (p, A, t) :: L) W') :
  Calls Tryz.prog 157 #[.pointer (some ⟨r, 0, none⟩), .pointer (some ⟨p, i, none⟩)] W fun x W' => x = gave f ∧ Live w0 L W' := by
 have hr : W.cell? ⟨r, 0, none⟩ = some (.pointer (some ⟨g, 0, none⟩)) := h.tail.cell 0
 have Hf := Lib.hid hf
 clear hf
 go_enter Tryz.func157, Tryz.ntmps157
 go_wp2_with fail
 refine hM.mono ?_
 rintro x W' ⟨rfl, h'⟩
 have hp : W'.cell? ⟨p, i, none⟩ = some (.int .i64 old) := (h'.tail.tail.cell i).trans hA
 have hz := h'.tail.tail.thaw i
 go_wp2_with fail
 have h2 := (h'.third.put i (.int .i64 v)).swap
 have h3 := h2.perm ((List.Perm.swap _ _ _).cons _)
 refine (ask_bad Hf.out h3.swap.swap).mono ?_
 rintro x W'' ⟨rfl, h4⟩
 exact ⟨rfl, rfl, h4.tail⟩
theorem rbyte_run_ok {old v : Int} (hA : A[i]? = some (.int .u8 old)) (h : Live w0 ((g, #[.string s, .int .i64 n, .int .i64 0], 177) :: (r, #[.pointer (some ⟨g, 0, none⟩)], 138) :: (p, A, t) :: L) W)
  (hM : Calls Tryz.prog 160 #[.pointer (some ⟨g, 0, none⟩)] W fun x W' => x = .returned (.int .u8 v) ∧ Live w0 ((g, #[.string s, .int .i64 n', .int .i64 0], 177) :: (r, #[.pointer (some ⟨g, 0, none⟩)], 138) :: (p, A, t) :: L) W') :
  Calls Tryz.prog 154 #[.pointer (some ⟨r, 0, none⟩), .pointer (some ⟨p, i, none⟩)] W fun x W' => x = .returned (.tuple #[]) ∧ Live w0 ((g, #[.string s, .int .i64 n', .int .i64 0], 177) :: (r, #[.pointer (some ⟨g, 0, none⟩)], 138) :: (p, A.setIfInBounds i (.int .u8 v), t) :: L) W' := by
 have hr : W.cell? ⟨r, 0, none⟩ = some (.pointer (some ⟨g, 0, none⟩)) := h.tail.cell 0
 go_enter Tryz.func154, Tryz.ntmps154
 go_wp2_with fail
 refine hM.mono ?_
 rintro x W' ⟨rfl, h'⟩
 have hp : W'.cell? ⟨p, i, none⟩ = some (.int .u8 old) := (h'.tail.tail.cell i).trans hA
 have hz := h'.tail.tail.thaw i
 go_wp2_with fail
 have h2 := (h'.third.put i (.int .u8 v)).swap
 have h3 := h2.perm ((List.Perm.swap _ _ _).cons _)
 refine (ask_ok h3.swap.swap).mono ?_
 rintro x W'' ⟨rfl, h4⟩
 go_wp2
 go_end0
 exact ⟨rfl, h4⟩
theorem rbyte_run_bad {old v : Int} (hf : f ≠ 0) (hA : A[i]? = some (.int .u8 old)) (h : Live w0 ((g, #[.string s, .int .i64 n, .int .i64 0], 177) :: (r, #[.pointer (some ⟨g, 0, none⟩)], 138) :: (p, A, t) :: L) W)
  (hM : Calls Tryz.prog 160 #[.pointer (some ⟨g, 0, none⟩)] W fun x W' => x = .returned (.int .u8 v) ∧ Live w0 ((g, #[.string s, .int .i64 n, .int .i64 f], 177) :: (r, #[.pointer (some ⟨g, 0, none⟩)], 138) :: (p, A, t) :: L) W') :
  Calls Tryz.prog 154 #[.pointer (some ⟨r, 0, none⟩), .pointer (some ⟨p, i, none⟩)] W fun x W' => x = gave f ∧ Live w0 L W' := by
 have hr : W.cell? ⟨r, 0, none⟩ = some (.pointer (some ⟨g, 0, none⟩)) := h.tail.cell 0
 have Hf := Lib.hid hf
 clear hf
 go_enter Tryz.func154, Tryz.ntmps154
 go_wp2_with fail
 refine hM.mono ?_
 rintro x W' ⟨rfl, h'⟩
 have hp : W'.cell? ⟨p, i, none⟩ = some (.int .u8 old) := (h'.tail.tail.cell i).trans hA
 have hz := h'.tail.tail.thaw i
 go_wp2_with fail
 have h2 := (h'.third.put i (.int .u8 v)).swap
 have h3 := h2.perm ((List.Perm.swap _ _ _).cons _)
 refine (ask_bad Hf.out h3.swap.swap).mono ?_
 rintro x W'' ⟨rfl, h4⟩
 exact ⟨rfl, rfl, h4.tail⟩
theorem ri64_run_ok {old v : Int} (hA : A[i]? = some (.int .i64 old)) (h : Live w0 ((g, #[.string s, .int .i64 n, .int .i64 0], 177) :: (r, #[.pointer (some ⟨g, 0, none⟩)], 138) :: (p, A, t) :: L) W)
  (hM : Calls Tryz.prog 162 #[.pointer (some ⟨g, 0, none⟩)] W fun x W' => x = .returned (.int .i64 v) ∧ Live w0 ((g, #[.string s, .int .i64 n', .int .i64 0], 177) :: (r, #[.pointer (some ⟨g, 0, none⟩)], 138) :: (p, A, t) :: L) W') :
  Calls Tryz.prog 156 #[.pointer (some ⟨r, 0, none⟩), .pointer (some ⟨p, i, none⟩)] W fun x W' => x = .returned (.tuple #[]) ∧ Live w0 ((g, #[.string s, .int .i64 n', .int .i64 0], 177) :: (r, #[.pointer (some ⟨g, 0, none⟩)], 138) :: (p, A.setIfInBounds i (.int .i64 v), t) :: L) W' := by
 have hr : W.cell? ⟨r, 0, none⟩ = some (.pointer (some ⟨g, 0, none⟩)) := h.tail.cell 0
 go_enter Tryz.func156, Tryz.ntmps156
 go_wp2_with fail
 refine hM.mono ?_
 rintro x W' ⟨rfl, h'⟩
 have hp : W'.cell? ⟨p, i, none⟩ = some (.int .i64 old) := (h'.tail.tail.cell i).trans hA
 have hz := h'.tail.tail.thaw i
 go_wp2_with fail
 have h2 := (h'.third.put i (.int .i64 v)).swap
 have h3 := h2.perm ((List.Perm.swap _ _ _).cons _)
 refine (ask_ok h3.swap.swap).mono ?_
 rintro x W'' ⟨rfl, h4⟩
 go_wp2
 go_end0
 exact ⟨rfl, h4⟩
theorem ri64_run_bad {old v : Int} (hf : f ≠ 0) (hA : A[i]? = some (.int .i64 old)) (h : Live w0 ((g, #[.string s, .int .i64 n, .int .i64 0], 177) :: (r, #[.pointer (some ⟨g, 0, none⟩)], 138) :: (p, A, t) :: L) W)
  (hM : Calls Tryz.prog 162 #[.pointer (some ⟨g, 0, none⟩)] W fun x W' => x = .returned (.int .i64 v) ∧ Live w0 ((g, #[.string s, .int .i64 n, .int .i64 f], 177) :: (r, #[.pointer (some ⟨g, 0, none⟩)], 138) :: (p, A, t) :: L) W') :
  Calls Tryz.prog 156 #[.pointer (some ⟨r, 0, none⟩), .pointer (some ⟨p, i, none⟩)] W fun x W' => x = gave f ∧ Live w0 L W' := by
 have hr : W.cell? ⟨r, 0, none⟩ = some (.pointer (some ⟨g, 0, none⟩)) := h.tail.cell 0
 have Hf := Lib.hid hf
 clear hf
 go_enter Tryz.func156, Tryz.ntmps156
 go_wp2_with fail
 refine hM.mono ?_
 rintro x W' ⟨rfl, h'⟩
 have hp : W'.cell? ⟨p, i, none⟩ = some (.int .i64 old) := (h'.tail.tail.cell i).trans hA
 have hz := h'.tail.tail.thaw i
 go_wp2_with fail
 have h2 := (h'.third.put i (.int .i64 v)).swap
 have h3 := h2.perm ((List.Perm.swap _ _ _).cons _)
 refine (ask_bad Hf.out h3.swap.swap).mono ?_
 rintro x W'' ⟨rfl, h4⟩
 exact ⟨rfl, rfl, h4.tail⟩
theorem ru64_run_ok {old v : Int} (hA : A[i]? = some (.int .u64 old)) (h : Live w0 ((g, #[.string s, .int .i64 n, .int .i64 0], 177) :: (r, #[.pointer (some ⟨g, 0, none⟩)], 138) :: (p, A, t) :: L) W)
  (hM : Calls Tryz.prog 164 #[.pointer (some ⟨g, 0, none⟩)] W fun x W' => x = .returned (.int .u64 v) ∧ Live w0 ((g, #[.string s, .int .i64 n', .int .i64 0], 177) :: (r, #[.pointer (some ⟨g, 0, none⟩)], 138) :: (p, A, t) :: L) W') :
  Calls Tryz.prog 159 #[.pointer (some ⟨r, 0, none⟩), .pointer (some ⟨p, i, none⟩)] W fun x W' => x = .returned (.tuple #[]) ∧ Live w0 ((g, #[.string s, .int .i64 n', .int .i64 0], 177) :: (r, #[.pointer (some ⟨g, 0, none⟩)], 138) :: (p, A.setIfInBounds i (.int .u64 v), t) :: L) W' := by
 have hr : W.cell? ⟨r, 0, none⟩ = some (.pointer (some ⟨g, 0, none⟩)) := h.tail.cell 0
 go_enter Tryz.func159, Tryz.ntmps159
 go_wp2_with fail
 refine hM.mono ?_
 rintro x W' ⟨rfl, h'⟩
 have hp : W'.cell? ⟨p, i, none⟩ = some (.int .u64 old) := (h'.tail.tail.cell i).trans hA
 have hz := h'.tail.tail.thaw i
 go_wp2_with fail
 have h2 := (h'.third.put i (.int .u64 v)).swap
 have h3 := h2.perm ((List.Perm.swap _ _ _).cons _)
 refine (ask_ok h3.swap.swap).mono ?_
 rintro x W'' ⟨rfl, h4⟩
 go_wp2
 go_end0
 exact ⟨rfl, h4⟩
theorem ru64_run_bad {old v : Int} (hf : f ≠ 0) (hA : A[i]? = some (.int .u64 old)) (h : Live w0 ((g, #[.string s, .int .i64 n, .int .i64 0], 177) :: (r, #[.pointer (some ⟨g, 0, none⟩)], 138) :: (p, A, t) :: L) W)
  (hM : Calls Tryz.prog 164 #[.pointer (some ⟨g, 0, none⟩)] W fun x W' => x = .returned (.int .u64 v) ∧ Live w0 ((g, #[.string s, .int .i64 n, .int .i64 f], 177) :: (r, #[.pointer (some ⟨g, 0, none⟩)], 138) :: (p, A, t) :: L) W') :
  Calls Tryz.prog 159 #[.pointer (some ⟨r, 0, none⟩), .pointer (some ⟨p, i, none⟩)] W fun x W' => x = gave f ∧ Live w0 L W' := by
 have hr : W.cell? ⟨r, 0, none⟩ = some (.pointer (some ⟨g, 0, none⟩)) := h.tail.cell 0
 have Hf := Lib.hid hf
 clear hf
 go_enter Tryz.func159, Tryz.ntmps159
 go_wp2_with fail
 refine hM.mono ?_
 rintro x W' ⟨rfl, h'⟩
 have hp : W'.cell? ⟨p, i, none⟩ = some (.int .u64 old) := (h'.tail.tail.cell i).trans hA
 have hz := h'.tail.tail.thaw i
 go_wp2_with fail
 have h2 := (h'.third.put i (.int .u64 v)).swap
 have h3 := h2.perm ((List.Perm.swap _ _ _).cons _)
 refine (ask_bad Hf.out h3.swap.swap).mono ?_
 rintro x W'' ⟨rfl, h4⟩
 exact ⟨rfl, rfl, h4.tail⟩
theorem rtext_run_ok {old v : ByteArray} {m : Nat} (hA : A[i]? = some (.string old)) (h : Live w0 ((g, #[.string s, .int .i64 n, .int .i64 0], 177) :: (r, #[.pointer (some ⟨g, 0, none⟩)], 138) :: (p, A, t) :: L) W)
  (hM : Calls Tryz.prog 163 #[.pointer (some ⟨g, 0, none⟩), .int .i64 m] W fun x W' => x = .returned (.string v) ∧ Live w0 ((g, #[.string s, .int .i64 n', .int .i64 0], 177) :: (r, #[.pointer (some ⟨g, 0, none⟩)], 138) :: (p, A, t) :: L) W') :
  Calls Tryz.prog 158 #[.pointer (some ⟨r, 0, none⟩), .pointer (some ⟨p, i, none⟩), .int .i64 m] W fun x W' => x = .returned (.tuple #[]) ∧ Live w0 ((g, #[.string s, .int .i64 n', .int .i64 0], 177) :: (r, #[.pointer (some ⟨g, 0, none⟩)], 138) :: (p, A.setIfInBounds i (.string v), t) :: L) W' := by
 have hr : W.cell? ⟨r, 0, none⟩ = some (.pointer (some ⟨g, 0, none⟩)) := h.tail.cell 0
 go_enter Tryz.func158, Tryz.ntmps158
 go_wp2_with fail
 refine hM.mono ?_
 rintro x W' ⟨rfl, h'⟩
 have hp : W'.cell? ⟨p, i, none⟩ = some (.string old) := (h'.tail.tail.cell i).trans hA
 have hz := h'.tail.tail.thaw i
 go_wp2_with fail
 have h2 := (h'.third.put i (.string v)).swap
 have h3 := h2.perm ((List.Perm.swap _ _ _).cons _)
 refine (ask_ok h3.swap.swap).mono ?_
 rintro x W'' ⟨rfl, h4⟩
 go_wp2
 go_end0
 exact ⟨rfl, h4⟩
theorem rtext_run_bad {old v : ByteArray} {m : Nat} (hf : f ≠ 0) (hA : A[i]? = some (.string old)) (h : Live w0 ((g, #[.string s, .int .i64 n, .int .i64 0], 177) :: (r, #[.pointer (some ⟨g, 0, none⟩)], 138) :: (p, A, t) :: L) W)
  (hM : Calls Tryz.prog 163 #[.pointer (some ⟨g, 0, none⟩), .int .i64 m] W fun x W' => x = .returned (.string v) ∧ Live w0 ((g, #[.string s, .int .i64 n, .int .i64 f], 177) :: (r, #[.pointer (some ⟨g, 0, none⟩)], 138) :: (p, A, t) :: L) W') :
  Calls Tryz.prog 158 #[.pointer (some ⟨r, 0, none⟩), .pointer (some ⟨p, i, none⟩), .int .i64 m] W fun x W' => x = gave f ∧ Live w0 L W' := by
 have hr : W.cell? ⟨r, 0, none⟩ = some (.pointer (some ⟨g, 0, none⟩)) := h.tail.cell 0
 have Hf := Lib.hid hf
 clear hf
 go_enter Tryz.func158, Tryz.ntmps158
 go_wp2_with fail
 refine hM.mono ?_
 rintro x W' ⟨rfl, h'⟩
 have hp : W'.cell? ⟨p, i, none⟩ = some (.string old) := (h'.tail.tail.cell i).trans hA
 have hz := h'.tail.tail.thaw i
 go_wp2_with fail
 have h2 := (h'.third.put i (.string v)).swap
 have h3 := h2.perm ((List.Perm.swap _ _ _).cons _)
 refine (ask_bad Hf.out h3.swap.swap).mono ?_
 rintro x W'' ⟨rfl, h4⟩
 exact ⟨rfl, rfl, h4.tail⟩
theorem rcount_run_ok {m : Nat} {a v : Int} (h : Live w0 ((g, #[.string s, .int .i64 n, .int .i64 0], 177) :: (r, #[.pointer (some ⟨g, 0, none⟩)], 138) :: L) W)
  (hM : Calls Tryz.prog 161 #[.pointer (some ⟨g, 0, none⟩), .int .i64 m] W fun x W' => x = .returned (.int .i64 v) ∧ Live w0 ((g, #[.string s, .int .i64 n', .int .i64 0], 177) :: (r, #[.pointer (some ⟨g, 0, none⟩)], 138) :: L) W') :
  Calls Tryz.prog 155 #[.pointer (some ⟨r, 0, none⟩), .int .i64 a, .int .i64 m] W fun x W' => x = .returned (.int .i64 v) ∧ Live w0 ((g, #[.string s, .int .i64 n', .int .i64 0], 177) :: (r, #[.pointer (some ⟨g, 0, none⟩)], 138) :: L) W' := by
 have hr : W.cell? ⟨r, 0, none⟩ = some (.pointer (some ⟨g, 0, none⟩)) := h.tail.cell 0
 go_enter Tryz.func155, Tryz.ntmps155
 go_wp2_with fail
 refine hM.mono ?_
 rintro x W' ⟨rfl, h'⟩
 go_wp2_with fail
 refine (ask_ok h').mono ?_
 rintro x W'' ⟨rfl, h4⟩
 go_wp2
 exact bodyPost_ret (v := .int .i64 v) (by simp [results, Tryz.results155, go_sem]) rfl ⟨rfl, h4⟩
theorem rcount_run_bad {m : Nat} {a v : Int} (hf : f ≠ 0) (h : Live w0 ((g, #[.string s, .int .i64 n, .int .i64 0], 177) :: (r, #[.pointer (some ⟨g, 0, none⟩)], 138) :: L) W)
  (hM : Calls Tryz.prog 161 #[.pointer (some ⟨g, 0, none⟩), .int .i64 m] W fun x W' => x = .returned (.int .i64 v) ∧ Live w0 ((g, #[.string s, .int .i64 n, .int .i64 f], 177) :: (r, #[.pointer (some ⟨g, 0, none⟩)], 138) :: L) W') :
  Calls Tryz.prog 155 #[.pointer (some ⟨r, 0, none⟩), .int .i64 a, .int .i64 m] W fun x W' => x = gave f ∧ Live w0 L W' := by
 have hr : W.cell? ⟨r, 0, none⟩ = some (.pointer (some ⟨g, 0, none⟩)) := h.tail.cell 0
 have Hf := Lib.hid hf
 clear hf
 go_enter Tryz.func155, Tryz.ntmps155
 go_wp2_with fail
 refine hM.mono ?_
 rintro x W' ⟨rfl, h'⟩
 go_wp2_with fail
 refine (ask_bad Hf.out h').mono ?_
 rintro x W'' ⟨rfl, h4⟩
 exact ⟨rfl, rfl, h4⟩
end
end Go.Proofs.YthkeiclhllikjaaGreat
