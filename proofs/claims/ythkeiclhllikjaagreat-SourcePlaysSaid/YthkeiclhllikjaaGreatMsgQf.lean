/-
  msg.writer's methods in every case.
-/
import Derived.Test.YthkeiclhllikjaaGreatMsgNums
import Derived.Test.YthkeiclhllikjaaGreatMsgQa
set_option linter.unusedSimpArgs false
set_option linter.unusedVariables false
namespace Go.Proofs.YthkeiclhllikjaaGreat
open Go.RowKit
section
variable {w0 W : World} {B L : List Blk} {v : Value} {xs : List Nat} {r p i : Nat} {t : TypeId} {A : Array Value}
set_option maxRecDepth 100000 in
theorem wbyte_ok {x : Nat} (hr : RowIs 5 v (u8s xs) B) (h : Live w0 (B ++ (r, #[v], 124) :: (p, A, t) :: L) W) (hA : A[i]? = some (.int .u8 (x : Nat))) (hn : xs.length + 20 ≤ 140737488355328) :
  Calls Tryz.prog 141 #[.pointer (some ⟨r, 0, none⟩), .pointer (some ⟨p, i, none⟩)] W fun e W' =>
   ∃ v' B', e = .returned (.tuple #[]) ∧ RowIs 5 v' (u8s (xs ++ [x])) B' ∧ Live w0 (B' ++ (r, #[v'], 124) :: (p, A, t) :: L) W' := by
 have cp : W.cell? ⟨p, i, none⟩ = some (.int .u8 (x : Nat)) := by rw [cells_at (h.mem_at (g := p) (A := A) (t := t) (by simp))]; exact hA
 have h' := h.drew
 have hp := outByte_ok (x := x) hr h' (by omega)
 go_enter Tryz.func141, Tryz.ntmps141
 go_wp2_with fail
 go_still_tail 6, (by kernel_rfl)
 change wpList _ _ _ _ _ W.drew
 generalize W.drew = w2 at *
 go_wp2_with fail
 refine hp.mono ?_
 rintro e W' ⟨v', B', rfl, hr', h2⟩
 go_wp2
 go_end0
 exact ⟨_, B', rfl, hr', h2⟩
set_option maxRecDepth 100000 in
theorem wi64_ok {x : Int} (h0 : -9223372036854775808 ≤ x) (h1 : x < 9223372036854775808) (hr : RowIs 5 v (u8s xs) B) (h : Live w0 (B ++ (r, #[v], 124) :: (p, A, t) :: L) W) (hA : A[i]? = some (.int .i64 x)) (hn : xs.length + 20 ≤ 140737488355328) :
  Calls Tryz.prog 143 #[.pointer (some ⟨r, 0, none⟩), .pointer (some ⟨p, i, none⟩)] W fun e W' =>
   ∃ v' B', e = .returned (.tuple #[]) ∧ RowIs 5 v' (u8s (xs ++ vbytes (zig x))) B' ∧ Live w0 (B' ++ (r, #[v'], 124) :: (p, A, t) :: L) W' := by
 have cp : W.cell? ⟨p, i, none⟩ = some (.int .i64 x) := by rw [cells_at (h.mem_at (g := p) (A := A) (t := t) (by simp))]; exact hA
 have h' := h.drew
 have hp := outInt_ok h0 h1 hr h' hn
 clear h0 h1
 go_enter Tryz.func143, Tryz.ntmps143
 go_wp2_with fail
 go_still_tail 6, (by kernel_rfl)
 change wpList _ _ _ _ _ W.drew
 generalize W.drew = w2 at *
 go_wp2_with fail
 refine hp.mono ?_
 rintro e W' ⟨v', B', rfl, hr', h2⟩
 go_wp2
 go_end0
 exact ⟨_, B', rfl, hr', h2⟩
set_option maxRecDepth 100000 in
theorem wu64_ok {x : Nat} (h1 : x < 18446744073709551616) (hr : RowIs 5 v (u8s xs) B) (h : Live w0 (B ++ (r, #[v], 124) :: (p, A, t) :: L) W) (hA : A[i]? = some (.int .u64 (x : Nat))) (hn : xs.length + 20 ≤ 140737488355328) :
  Calls Tryz.prog 146 #[.pointer (some ⟨r, 0, none⟩), .pointer (some ⟨p, i, none⟩)] W fun e W' =>
   ∃ v' B', e = .returned (.tuple #[]) ∧ RowIs 5 v' (u8s (xs ++ vbytes x)) B' ∧ Live w0 (B' ++ (r, #[v'], 124) :: (p, A, t) :: L) W' := by
 have cp : W.cell? ⟨p, i, none⟩ = some (.int .u64 (x : Nat)) := by rw [cells_at (h.mem_at (g := p) (A := A) (t := t) (by simp))]; exact hA
 have h' := h.drew
 have hp := outNum_ok h1 hr h' hn
 clear h1
 go_enter Tryz.func146, Tryz.ntmps146
 go_wp2_with fail
 go_still_tail 6, (by kernel_rfl)
 change wpList _ _ _ _ _ W.drew
 generalize W.drew = w2 at *
 go_wp2_with fail
 refine hp.mono ?_
 rintro e W' ⟨v', B', rfl, hr', h2⟩
 go_wp2
 go_end0
 exact ⟨_, B', rfl, hr', h2⟩
set_option maxRecDepth 100000 in
theorem wnum_bad {n : Int} (hb : n < 0 ∨ 2147483647 < n) (h : Live w0 (B ++ (r, #[v], 124) :: (p, A, t) :: L) W) (hA : A[i]? = some (.int .i64 n)) :
  Calls Tryz.prog 144 #[.pointer (some ⟨r, 0, none⟩), .pointer (some ⟨p, i, none⟩)] W fun e W' => e = gave 1 ∧ Live w0 L W' := by
 have cp : W.cell? ⟨p, i, none⟩ = some (.int .i64 n) := by rw [cells_at (h.mem_at (g := p) (A := A) (t := t) (by simp))]; exact hA
 have hh : ∀ w : World, Calls Tryz.prog 149 #[.int .i64 n, .int .i64 2147483647] w fun e w' => e = gave 1 ∧ w' = w := fun w => by
  by_cases h0 : n < 0
  ·exact held_low h0
  ·exact held_high (by omega) (by omega)
 clear hb
 go_enter Tryz.func144, Tryz.ntmps144
 go_wp2_with fail
 refine wp_region_held_drew (S := fun w' => w' = W.drew) (by kernel_rfl) rfl (fun hHeld => ?_)
 refine take_at (i := 0) (v := ?_) rfl rfl (by kernel_rfl) (by kernel_rfl) (by kernel_rfl) (fun _ _ _ h => h) (Or.inl ⟨by rfl, ?_⟩) (by assumption) ?_
 rotate_left; (intro w hSw; subst hSw; go_simp; try with_reducible rfl)
 simp only [Act.put, List.setIfInBounds_toArray, List.set_cons_zero, List.set_cons_succ]
 refine take_at (i := 1) (v := ?_) rfl rfl (by kernel_rfl) (by kernel_rfl) (by kernel_rfl) (fun _ _ _ h => h) (Or.inl ⟨by rfl, ?_⟩) (by assumption) ?_
 rotate_left; (intro w hSw; subst hSw; go_simp; try with_reducible rfl)
 simp only [Act.put, List.setIfInBounds_toArray, List.set_cons_zero, List.set_cons_succ]
 refine take_at (i := 2) (v := ?_) rfl rfl (by kernel_rfl) (by kernel_rfl) (by kernel_rfl) (fun _ _ _ h => h) (Or.inl ⟨by rfl, ?_⟩) (by assumption) ?_
 rotate_left; (intro w hSw; subst hSw; go_simp; try with_reducible rfl)
 simp only [Act.put, List.setIfInBounds_toArray, List.set_cons_zero, List.set_cons_succ]
 refine take_at (i := 3) (v := ?_) rfl rfl (by kernel_rfl) (by kernel_rfl) (by kernel_rfl) (fun _ _ _ h => h) (Or.inl ⟨by rfl, ?_⟩) (by assumption) ?_
 rotate_left; (intro w hSw; subst hSw; go_simp; try with_reducible rfl)
 simp only [Act.put, List.setIfInBounds_toArray, List.set_cons_zero, List.set_cons_succ]
 refine take_at (i := 4) (v := ?_) rfl rfl (by kernel_rfl) (by kernel_rfl) (by kernel_rfl) (fun _ _ _ h => h) (Or.inl ⟨by rfl, ?_⟩) (by assumption) ?_
 rotate_left; (intro w hSw; subst hSw; go_simp; try with_reducible rfl)
 simp only [Act.put, List.setIfInBounds_toArray, List.set_cons_zero, List.set_cons_succ]
 refine take_at (i := 5) (v := ?_) rfl rfl (by kernel_rfl) (by kernel_rfl) (by kernel_rfl) (fun _ _ _ h => h) (Or.inl ⟨by rfl, ?_⟩) (by assumption) ?_
 rotate_left; (intro w hSw; subst hSw; go_simp; try with_reducible rfl)
 simp only [Act.put, List.setIfInBounds_toArray, List.set_cons_zero, List.set_cons_succ]
 refine step_at (i := 6) (by kernel_rfl) rfl rfl (by rfl) (fun K hK => ?_)
 go_simp
 refine (hh _).mono ?_
 rintro e w' ⟨rfl, rfl⟩
 exact ⟨rfl, rfl, h.drew.mid.tail.dropl.tail⟩
set_option maxRecDepth 100000 in
theorem wcount_ok {n most : Int} (h0 : 0 ≤ n) (h1 : n ≤ most) (h2 : most ≤ 1024) (hr : RowIs 5 v (u8s xs) B) (h : Live w0 (B ++ (r, #[v], 124) :: L) W) (hn : xs.length + 20 ≤ 140737488355328) :
  Calls Tryz.prog 142 #[.pointer (some ⟨r, 0, none⟩), .int .i64 n, .int .i64 most] W fun e W' =>
   ∃ v' B', e = .returned (.int .i64 n) ∧ RowIs 5 v' (u8s (xs ++ vbytes n.toNat)) B' ∧ Live w0 (B' ++ (r, #[v'], 124) :: L) W' := by
 have h' := h.drew
 have hp := outNum_ok (x := n.toNat) (by omega) hr h' hn
 rw [Int.toNat_of_nonneg h0] at hp
 go_enter Tryz.func142, Tryz.ntmps142
 go_wp2_with fail
 go_still_tail 6, (by kernel_rfl)
 still_call (held_ok h0 h1 (by omega))
 refine wpStill_nil ?_
 change wpList _ _ _ _ _ W.drew
 clear h0 h1 h2
 generalize W.drew = w2 at *
 go_wp2_with fail
 refine hp.mono ?_
 rintro e W' ⟨v', B', rfl, hr', h2⟩
 go_wp2
 exact bodyPost_ret (v := .int .i64 n) (by simp [results, Tryz.results142, go_sem]) rfl ⟨_, B', rfl, hr', h2⟩
set_option maxRecDepth 100000 in
theorem wcount_bad {n most : Int} (h0 : 0 ≤ n) (h1 : most < n) (h : Live w0 (B ++ (r, #[v], 124) :: L) W) :
  Calls Tryz.prog 142 #[.pointer (some ⟨r, 0, none⟩), .int .i64 n, .int .i64 most] W fun e W' => e = gave 1 ∧ Live w0 L W' := by
 have hh : ∀ w : World, Calls Tryz.prog 149 #[.int .i64 n, .int .i64 most] w fun e w' => e = gave 1 ∧ w' = w := fun w => held_high h0 h1
 clear h0 h1
 go_enter Tryz.func142, Tryz.ntmps142
 go_wp2_with fail
 refine wp_region_held_drew (S := fun w' => w' = W.drew) (by kernel_rfl) rfl (fun hHeld => ?_)
 refine take_at (i := 0) (v := ?_) rfl rfl (by kernel_rfl) (by kernel_rfl) (by kernel_rfl) (fun _ _ _ h => h) (Or.inl ⟨by rfl, ?_⟩) (by assumption) ?_
 rotate_left; (intro w hSw; subst hSw; go_simp; try with_reducible rfl)
 simp only [Act.put, List.setIfInBounds_toArray, List.set_cons_zero, List.set_cons_succ]
 refine take_at (i := 1) (v := ?_) rfl rfl (by kernel_rfl) (by kernel_rfl) (by kernel_rfl) (fun _ _ _ h => h) (Or.inl ⟨by rfl, ?_⟩) (by assumption) ?_
 rotate_left; (intro w hSw; subst hSw; go_simp; try with_reducible rfl)
 simp only [Act.put, List.setIfInBounds_toArray, List.set_cons_zero, List.set_cons_succ]
 refine take_at (i := 2) (v := ?_) rfl rfl (by kernel_rfl) (by kernel_rfl) (by kernel_rfl) (fun _ _ _ h => h) (Or.inl ⟨by rfl, ?_⟩) (by assumption) ?_
 rotate_left; (intro w hSw; subst hSw; go_simp; try with_reducible rfl)
 simp only [Act.put, List.setIfInBounds_toArray, List.set_cons_zero, List.set_cons_succ]
 refine take_at (i := 3) (v := ?_) rfl rfl (by kernel_rfl) (by kernel_rfl) (by kernel_rfl) (fun _ _ _ h => h) (Or.inl ⟨by rfl, ?_⟩) (by assumption) ?_
 rotate_left; (intro w hSw; subst hSw; go_simp; try with_reducible rfl)
 simp only [Act.put, List.setIfInBounds_toArray, List.set_cons_zero, List.set_cons_succ]
 refine take_at (i := 4) (v := ?_) rfl rfl (by kernel_rfl) (by kernel_rfl) (by kernel_rfl) (fun _ _ _ h => h) (Or.inl ⟨by rfl, ?_⟩) (by assumption) ?_
 rotate_left; (intro w hSw; subst hSw; go_simp; try with_reducible rfl)
 simp only [Act.put, List.setIfInBounds_toArray, List.set_cons_zero, List.set_cons_succ]
 refine step_at (i := 5) (by kernel_rfl) rfl rfl (by rfl) (fun K hK => ?_)
 go_simp
 refine (hh _).mono ?_
 rintro e w' ⟨rfl, rfl⟩
 exact ⟨rfl, rfl, h.drew.mid.tail.dropl⟩
set_option maxRecDepth 100000 in
theorem wtext_ok {s : ByteArray} {most : Int} (h1 : (s.size : Int) ≤ most) (h2 : most ≤ 1024) (hr : RowIs 5 v (u8s xs) B) (h : Live w0 (B ++ (r, #[v], 124) :: (p, A, t) :: L) W) (hA : A[i]? = some (.string s)) (hn : xs.length + 1100 ≤ 140737488355328) :
  Calls Tryz.prog 145 #[.pointer (some ⟨r, 0, none⟩), .pointer (some ⟨p, i, none⟩), .int .i64 most] W fun e W' =>
   ∃ v' B', e = .returned (.tuple #[]) ∧ RowIs 5 v' (u8s (xs ++ vbytes s.size ++ bytesOf s)) B' ∧ Live w0 (B' ++ (r, #[v'], 124) :: (p, A, t) :: L) W' := by
 have cp : W.cell? ⟨p, i, none⟩ = some (.string s) := by rw [cells_at (h.mem_at (g := p) (A := A) (t := t) (by simp))]; exact hA
 have h' := h.drew
 have hp := outText_ok (s := s) hr h' (by omega)
 have hh : ∀ w : World, Calls Tryz.prog 149 #[.int .i64 s.size, .int .i64 most] w fun e w' => e = .returned (.int .u64 s.size) ∧ w' = w := fun w => held_ok (by omega) h1 (by omega)
 clear h1 h2
 go_enter Tryz.func145, Tryz.ntmps145
 go_wp2_with fail
 refine (hh _).mono ?_
 rintro e w' ⟨rfl, rfl⟩
 go_wp2_with fail
 go_still_tail 6, (by kernel_rfl)
 change wpList _ _ _ _ _ (World.drew _)
 generalize World.drew _ = w2 at *
 go_wp2_with fail
 refine hp.mono ?_
 rintro e W' ⟨v', B', rfl, hr', h2⟩
 go_wp2
 go_end0
 exact ⟨_, B', rfl, hr', h2⟩
set_option maxRecDepth 100000 in
theorem wtext_bad {s : ByteArray} {most : Int} (h1 : most < (s.size : Int)) (h : Live w0 (B ++ (r, #[v], 124) :: (p, A, t) :: L) W) (hA : A[i]? = some (.string s)) :
  Calls Tryz.prog 145 #[.pointer (some ⟨r, 0, none⟩), .pointer (some ⟨p, i, none⟩), .int .i64 most] W fun e W' => e = gave 1 ∧ Live w0 L W' := by
 have cp : W.cell? ⟨p, i, none⟩ = some (.string s) := by rw [cells_at (h.mem_at (g := p) (A := A) (t := t) (by simp))]; exact hA
 have hh : ∀ w : World, Calls Tryz.prog 149 #[.int .i64 s.size, .int .i64 most] w fun e w' => e = gave 1 ∧ w' = w := fun w => held_high (by omega) h1
 clear h1
 go_enter Tryz.func145, Tryz.ntmps145
 go_wp2_with fail
 refine (hh _).mono ?_
 rintro e w' ⟨rfl, rfl⟩
 exact ⟨rfl, rfl, h.mid.tail.dropl.tail⟩
end
end Go.Proofs.YthkeiclhllikjaaGreat
/-
 The writer as a walker.
-/
namespace Go.Proofs.YthkeiclhllikjaaGreat
open Go.RowKit
theorem wn_num (r : Nat) (w : World) : (nilAhead 320 127 (.pointer (some ⟨r, 0, none⟩)) "meter/msg.num").run Tryz.prog w = .ok (some false) w := by kernel_rfl
theorem wm_num (r : Nat) (w : World) : (method 320 127 (.pointer (some ⟨r, 0, none⟩)) "meter/msg.num").run Tryz.prog w = .ok (144, .pointer (some ⟨r, 0, none⟩)) w := by kernel_rfl
theorem wn_byte (r : Nat) (w : World) : (nilAhead 320 127 (.pointer (some ⟨r, 0, none⟩)) "meter/msg.byte").run Tryz.prog w = .ok (some false) w := by kernel_rfl
theorem wm_byte (r : Nat) (w : World) : (method 320 127 (.pointer (some ⟨r, 0, none⟩)) "meter/msg.byte").run Tryz.prog w = .ok (141, .pointer (some ⟨r, 0, none⟩)) w := by kernel_rfl
theorem wn_i64 (r : Nat) (w : World) : (nilAhead 320 127 (.pointer (some ⟨r, 0, none⟩)) "meter/msg.i64").run Tryz.prog w = .ok (some false) w := by kernel_rfl
theorem wm_i64 (r : Nat) (w : World) : (method 320 127 (.pointer (some ⟨r, 0, none⟩)) "meter/msg.i64").run Tryz.prog w = .ok (143, .pointer (some ⟨r, 0, none⟩)) w := by kernel_rfl
theorem wn_u64 (r : Nat) (w : World) : (nilAhead 320 127 (.pointer (some ⟨r, 0, none⟩)) "meter/msg.u64").run Tryz.prog w = .ok (some false) w := by kernel_rfl
theorem wm_u64 (r : Nat) (w : World) : (method 320 127 (.pointer (some ⟨r, 0, none⟩)) "meter/msg.u64").run Tryz.prog w = .ok (146, .pointer (some ⟨r, 0, none⟩)) w := by kernel_rfl
theorem wn_text (r : Nat) (w : World) : (nilAhead 320 127 (.pointer (some ⟨r, 0, none⟩)) "meter/msg.text").run Tryz.prog w = .ok (some false) w := by kernel_rfl
theorem wm_text (r : Nat) (w : World) : (method 320 127 (.pointer (some ⟨r, 0, none⟩)) "meter/msg.text").run Tryz.prog w = .ok (145, .pointer (some ⟨r, 0, none⟩)) w := by kernel_rfl
theorem wn_count (r : Nat) (w : World) : (nilAhead 320 127 (.pointer (some ⟨r, 0, none⟩)) "meter/msg.count").run Tryz.prog w = .ok (some false) w := by kernel_rfl
theorem wm_count (r : Nat) (w : World) : (method 320 127 (.pointer (some ⟨r, 0, none⟩)) "meter/msg.count").run Tryz.prog w = .ok (142, .pointer (some ⟨r, 0, none⟩)) w := by kernel_rfl
theorem set_same {A : Array Value} {i : Nat} {u : Value} (h : A[i]? = some u) : A.setIfInBounds i u = A := by
 apply Array.ext_getElem?
 intro j
 rw [Array.getElem?_setIfInBounds]
 split
 ·rename_i hij
  subst hij
  obtain ⟨hi, hu⟩ := Array.getElem?_eq_some_iff.1 h
  simp [hi, hu]
 ·rfl
def wRep (r k : Nat) (xs : List Nat) (B : List Blk) : Prop := ∃ v Bv, B = Bv ++ [(r, #[v], 124)] ∧ RowIs 5 v (u8s xs) Bv ∧ xs.length + 1100 * k + 1100 ≤ 140737488355328
def wNum (xs : List Nat) (n : Int) : Except Int (Int × List Nat) := if 0 ≤ n ∧ n ≤ 2147483647 then .ok (n, xs ++ vbytes n.toNat) else .error 1
def wText (xs : List Nat) (s : ByteArray) (most : Int) : Except Int (ByteArray × List Nat) := if (s.size : Int) ≤ most then .ok (s, xs ++ vbytes s.size ++ bytesOf s) else .error 1
def wCount (xs : List Nat) (n most : Int) : Except Int (Int × List Nat) := if n ≤ most then .ok (n, xs ++ vbytes n.toNat) else .error 1
section
variable {w0 W : World} {B L : List Blk} {r k : Nat} {v : Value} {xs ys : List Nat} {q : Blk}
set_option maxRecDepth 100000 in
theorem wRep.open (h : wRep r (k + 1) xs B) (hl : Live w0 (B ++ L) W) : ∃ v Bv, B = Bv ++ [(r, #[v], 124)] ∧ RowIs 5 v (u8s xs) Bv ∧ xs.length + 1100 * k + 2200 ≤ 140737488355328 ∧ Live w0 (Bv ++ (r, #[v], 124) :: L) W := by
 obtain ⟨v, Bv, rfl, hr, hn⟩ := h
 exact ⟨v, Bv, rfl, hr, by omega, by simpa using hl⟩
set_option maxRecDepth 100000 in
theorem wRep.shut {Bv : List Blk} (hr : RowIs 5 v (u8s ys) Bv) (hn : ys.length + 1100 * k + 1100 ≤ 140737488355328) (hl : Live w0 (Bv ++ (r, #[v], 124) :: L) W) : ∃ B', wRep r k ys B' ∧ Live w0 (B' ++ L) W :=
 ⟨Bv ++ [(r, #[v], 124)], ⟨v, Bv, rfl, hr, hn⟩, by simpa using hl⟩
end
set_option maxRecDepth 100000 in
def wSem : WSem where
 σ := List Nat
 num := wNum
 byte := fun xs b => .ok (b, xs ++ [b])
 i64 := fun xs x => .ok (x, xs ++ vbytes (zig x))
 u64 := fun xs x => .ok (x, xs ++ vbytes x)
 text := wText
 count := wCount
theorem bytesOf_len (s : ByteArray) : (bytesOf s).length = s.size := by simp [bytesOf]
set_option maxRecDepth 100000 in
def wWk (r : Nat) : Wkr where
 toWSem := wSem
 T := 127
 r := r
 rep := wRep r
 rep_le := by
  rintro j k xs B hjk ⟨v, Bv, rfl, hr, hn⟩
  exact ⟨v, Bv, rfl, hr, by omega⟩
 fnum := 144
 n_num := wn_num r
 m_num := wm_num r
 e_num := fun _ _ => by kernel_rfl
 fbyte := 141
 n_byte := wn_byte r
 m_byte := wm_byte r
 e_byte := fun _ _ => by kernel_rfl
 fi64 := 143
 n_i64 := wn_i64 r
 m_i64 := wm_i64 r
 e_i64 := fun _ _ => by kernel_rfl
 fu64 := 146
 n_u64 := wn_u64 r
 m_u64 := wm_u64 r
 e_u64 := fun _ _ => by kernel_rfl
 ftext := 145
 n_text := wn_text r
 m_text := wm_text r
 e_text := fun _ _ => by kernel_rfl
 fcount := 142
 n_count := wn_count r
 m_count := wm_count r
 e_count := fun _ _ => by kernel_rfl
 c_num := by
  rintro w0 W L B (xs : List Nat) k p i A t old hrep h hA
  obtain ⟨v, Bv, rfl, hr, hn, hl⟩ := hrep.open h
  by_cases hb : 0 ≤ old ∧ old ≤ 2147483647
  ·refine (wnum_ok hb.1 hb.2 hr hl hA (by omega)).mono ?_
   rintro e W' ⟨v2, B2, rfl, hr2, hl2⟩
   simp only [wSem, wNum, if_pos hb, Said]
   obtain ⟨B2, hr3, hl3⟩ := wRep.shut (k := k) hr2 (by simp only [List.length_append, List.length_cons, List.length_nil]; have := vbytes_le (x := old.toNat) (by omega); omega) hl2
   refine ⟨trivial, B2, hr3, ?_⟩
   rw [set_same hA]
   exact hl3
  ·refine (wnum_bad (by omega) hl hA).mono ?_
   rintro e W' ⟨rfl, hl2⟩
   simp only [wSem, wNum, if_neg hb, Said]
   exact ⟨trivial, hl2⟩
 c_byte := by
  rintro w0 W L B (xs : List Nat) k p i A t old hrep h hA
  obtain ⟨v, Bv, rfl, hr, hn, hl⟩ := hrep.open h
  refine (wbyte_ok hr hl hA (by omega)).mono ?_
  rintro e W' ⟨v2, B2, rfl, hr2, hl2⟩
  simp only [wSem, Said]
  obtain ⟨B2, hr3, hl3⟩ := wRep.shut (k := k) hr2 (by simp only [List.length_append, List.length_cons, List.length_nil]; omega) hl2
  refine ⟨trivial, B2, hr3, ?_⟩
  rw [set_same hA]
  exact hl3
 c_i64 := by
  rintro w0 W L B (xs : List Nat) k p i A t old hrep h hA h0 h1
  obtain ⟨v, Bv, rfl, hr, hn, hl⟩ := hrep.open h
  refine (wi64_ok h0 h1 hr hl hA (by omega)).mono ?_
  rintro e W' ⟨v2, B2, rfl, hr2, hl2⟩
  simp only [wSem, Said]
  obtain ⟨B2, hr3, hl3⟩ := wRep.shut (k := k) hr2 (by simp only [List.length_append, List.length_cons, List.length_nil]; have := vbytes_le (x := zig old) (by unfold zig; split <;> omega); omega) hl2
  refine ⟨trivial, B2, hr3, ?_⟩
  rw [set_same hA]
  exact hl3
 c_u64 := by
  rintro w0 W L B (xs : List Nat) k p i A t old hrep h hA h1
  obtain ⟨v, Bv, rfl, hr, hn, hl⟩ := hrep.open h
  refine (wu64_ok h1 hr hl hA (by omega)).mono ?_
  rintro e W' ⟨v2, B2, rfl, hr2, hl2⟩
  simp only [wSem, Said]
  obtain ⟨B2, hr3, hl3⟩ := wRep.shut (k := k) hr2 (by simp only [List.length_append, List.length_cons, List.length_nil]; have := vbytes_le (x := old) h1; omega) hl2
  refine ⟨trivial, B2, hr3, ?_⟩
  rw [set_same hA]
  exact hl3
 c_text := by
  rintro w0 W L B (xs : List Nat) k p i A t old most hrep h hA hs hm0 hm1
  obtain ⟨v, Bv, rfl, hr, hn, hl⟩ := hrep.open h
  by_cases hb : (old.size : Int) ≤ most
  ·refine (wtext_ok hb hm1 hr hl hA (by omega)).mono ?_
   rintro e W' ⟨v2, B2, rfl, hr2, hl2⟩
   simp only [wSem, wText, if_pos hb, Said]
   obtain ⟨B2, hr3, hl3⟩ := wRep.shut (k := k) hr2 (by simp only [List.length_append, List.length_cons, List.length_nil]; have := vbytes_le (x := old.size) (by omega); have hl := bytesOf_len old; omega) hl2
   refine ⟨trivial, B2, hr3, ?_⟩
   rw [set_same hA]
   exact hl3
  ·refine (wtext_bad (by omega) hl hA).mono ?_
   rintro e W' ⟨rfl, hl2⟩
   simp only [wSem, wText, if_neg hb, Said]
   exact ⟨trivial, hl2⟩
 c_count := by
  rintro w0 W L B (xs : List Nat) k n most hrep h h0 h1 hm0 hm1
  obtain ⟨v, Bv, rfl, hr, hn, hl⟩ := hrep.open h
  by_cases hb : n ≤ most
  ·refine (wcount_ok h0 hb hm1 hr hl (by omega)).mono ?_
   rintro e W' ⟨v2, B2, rfl, hr2, hl2⟩
   simp only [wSem, wCount, if_pos hb, Said]
   obtain ⟨B2, hr3, hl3⟩ := wRep.shut (k := k) hr2 (by simp only [List.length_append]; have := vbytes_le (x := n.toNat) (by omega); omega) hl2
   exact ⟨trivial, h0, hb, B2, hr3, hl3⟩
  ·refine (wcount_bad h0 (by omega) hl).mono ?_
   rintro e W' ⟨rfl, hl2⟩
   simp only [wSem, wCount, if_neg hb, Said]
   exact ⟨trivial, hl2⟩
end Go.Proofs.YthkeiclhllikjaaGreat
