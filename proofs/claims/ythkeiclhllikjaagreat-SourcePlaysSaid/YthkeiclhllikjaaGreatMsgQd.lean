/-
  A number's reading as plain data: what the printed getVar says, and pack.In.number in every case.
-/
import Derived.Test.YthkeiclhllikjaaGreatMsgQc
import Derived.Test.YthkeiclhllikjaaGreatMsgQb
import Derived.Laws.BitsAllLaws
import Derived.Laws.DeepNot64
import Derived.Lib.Hide
import Derived.StillTailTactics
set_option linter.unusedSimpArgs false
set_option linter.unusedVariables false
namespace Go.Proofs.YthkeiclhllikjaaGreat
open Go.RowKit Go.Proofs.YthkeiclhllikjaaGreat.PgetVar
theorem getVar_gv (s : ByteArray) : pack_getVar.f 11 s = some (gv 0 0 (bytesOf s)) := rfl
end Go.Proofs.YthkeiclhllikjaaGreat
/-
 pack.In.number in every case, as plain data.
-/
namespace Go.Proofs.YthkeiclhllikjaaGreat
open Go.RowKit Go.Proofs.YthkeiclhllikjaaGreat.PgetVar
def rd (i acc : Nat) : List Nat → Except Int (Nat × Nat)
 | [] => .error (if 10 ≤ i then 8 else 7)
 | c :: t => if 10 ≤ i then .error 8 else if i = 9 ∧ 1 < c then .error 8 else if c < 128 then (if c = 0 ∧ 0 < i then .error 8 else .ok (acc + c * 2 ^ (7 * i), i + 1)) else rd (i + 1) (acc + c % 128 * 2 ^ (7 * i)) t
theorem rd_gv : ∀ (l : List Nat) (i acc : Nat), i ≤ 10 →
  (∃ v z : Nat, rd i acc l = .ok (v, z) ∧ gv i acc l = ((v : Int), (z : Int)) ∧ i < z ∧ z ≤ i + l.length ∧ (z = 1 ∨ ∃ c, l[z - 1 - i]? = some c ∧ c ≠ 0)) ∨
  (rd i acc l = .error 7 ∧ gv i acc l = (0, 0) ∧ l.length + i < 10) ∨
  (rd i acc l = .error 8 ∧ ((gv i acc l = (0, 0) ∧ 10 ≤ l.length + i) ∨ (∃ v, gv i acc l = (v, -1)) ∨ ∃ v z : Nat, gv i acc l = ((v : Int), (z : Int)) ∧ 1 < z ∧ i < z ∧ z ≤ i + l.length ∧ l[z - 1 - i]? = some 0))
 | [], i, acc, hi => by
  by_cases h : 10 ≤ i
  ·exact .inr (.inr ⟨by rw [rd, if_pos h], .inl ⟨rfl, by simpa using h⟩⟩)
  ·exact .inr (.inl ⟨by rw [rd, if_neg h], rfl, by simp <;> omega⟩)
 | c :: t, i, acc, hi => by
  by_cases h : 10 ≤ i
  ·exact .inr (.inr ⟨by rw [rd, if_pos h], .inl ⟨by rw [gv, if_pos h], by simp <;> omega⟩⟩)
  by_cases h9 : i = 9 ∧ 1 < c
  ·refine .inr (.inr ⟨by rw [rd, if_neg h, if_pos h9], ?_⟩)
   by_cases hc : c < 128
   ·exact .inr (.inl ⟨0, by rw [gv, if_neg h, if_pos hc, if_pos h9]⟩)
   ·refine .inl ⟨?_, by simp <;> omega⟩
    rw [gv, if_neg h, if_neg hc]
    cases t <;> simp [gv]
    intro h'
    omega
  by_cases hc : c < 128
  ·by_cases hz : c = 0 ∧ 0 < i
   ·refine .inr (.inr ⟨by rw [rd, if_neg h, if_neg h9, if_pos hc, if_pos hz], .inr (.inr ⟨_, i + 1, by rw [gv, if_neg h, if_pos hc, if_neg h9], by omega, by omega, by simp <;> omega, ?_⟩)⟩)
    simp [hz.1]
   ·refine .inl ⟨_, i + 1, by rw [rd, if_neg h, if_neg h9, if_pos hc, if_neg hz], by rw [gv, if_neg h, if_pos hc, if_neg h9], by omega, by simp <;> omega, ?_⟩
    by_cases hi0 : i = 0
    ·exact .inl (by omega)
    ·exact .inr ⟨c, by simp, fun h0 => hz ⟨h0, by omega⟩⟩
  ·have e1 : rd i acc (c :: t) = rd (i + 1) (acc + c % 128 * 2 ^ (7 * i)) t := by rw [rd, if_neg h, if_neg h9, if_neg hc]
   have e2 : gv i acc (c :: t) = gv (i + 1) (acc + c % 128 * 2 ^ (7 * i)) t := by rw [gv, if_neg h, if_neg hc]
   rw [e1, e2]
   have key : ∀ z : Nat, i + 1 < z → (c :: t)[z - 1 - i]? = t[z - 1 - (i + 1)]? := fun z hz => by
    rw [show z - 1 - i = (z - 1 - (i + 1)) + 1 by omega]
    rfl
   rcases rd_gv t (i + 1) (acc + c % 128 * 2 ^ (7 * i)) (by omega) with ⟨v, z, h1, h2, h3, h4, h5⟩ | ⟨h1, h2, h3⟩ | ⟨h1, h2⟩
   ·refine .inl ⟨v, z, h1, h2, by omega, by simp <;> omega, ?_⟩
    rw [key z h3]
    exact h5
   ·exact .inr (.inl ⟨h1, h2, by simp <;> omega⟩)
   ·refine .inr (.inr ⟨h1, ?_⟩)
    rcases h2 with ⟨h2, h3⟩ | h2 | ⟨v, z, h2, h3, h4, h5, h6⟩
    ·exact .inl ⟨h2, by simp <;> omega⟩
    ·exact .inr (.inl h2)
    ·refine .inr (.inr ⟨v, z, h2, h3, by omega, by simp <;> omega, ?_⟩)
     rw [key z h4]
     exact h6
theorem bytes_extract (s : ByteArray) (n : Nat) : bytesOf (s.extract n s.size) = (bytesOf s).drop n := by
 have h : (s.size - n) ≥ (List.drop n (List.map (fun x => x.toNat) s.data.toList)).length := by simp
 simp [bytesOf, ByteArray.data_extract]
 exact List.take_of_length_le h
theorem bt_bytes {s : ByteArray} {n j c : Nat} (h : ((bytesOf s).drop n)[j]? = some c) : bt s ((n : Int) + j) = c := by
 rw [List.getElem?_drop] at h
 obtain ⟨hlt, he⟩ := List.getElem?_eq_some_iff.1 h
 rw [bytes_len] at hlt
 obtain ⟨b, hb, hbt, hdrop⟩ := bytes_drop hlt
 have h0 : (bytesOf s)[n + j] = b := by
  have := congrArg (·[0]?) hdrop
  simp only [List.getElem?_drop, Nat.add_zero, List.getElem?_cons_zero] at this
  rw [h] at this
  rw [he]
  exact Option.some.inj this
 rw [show ((n : Int) + j) = ((n + j : Nat) : Int) by omega, hbt, ← h0, he]
theorem num_says {s : ByteArray} {n : Nat} (hn : n ≤ s.size) (hz : s.size < 140737488351233) :
  (∃ v z : Nat, rd 0 0 ((bytesOf s).drop n) = .ok (v, z) ∧ n + z ≤ s.size ∧ NumSays s n v 0 (n + z)) ∨ ∃ e, (e = 7 ∨ e = 8) ∧ rd 0 0 ((bytesOf s).drop n) = .error e ∧ NumSays s n 0 e n := by
 have hf := getVar_gv (s.extract n s.size)
 rw [bytes_extract] at hf
 have hlen : ((bytesOf s).drop n).length = s.size - n := by rw [List.length_drop, bytes_len]
 rcases rd_gv ((bytesOf s).drop n) 0 0 (by decide) with ⟨v, z, h1, h2, h3, h4, h5⟩ | ⟨h1, h2, h3⟩ | ⟨h1, h2⟩
 ·rw [h2] at hf
  refine .inl ⟨v, z, h1, by omega, ?_⟩
  by_cases hz1 : z = 1
  ·subst hz1
   exact fun w0 W L g b h => number_one 11 v h (by omega) (by omega) hz hf
  ·rcases h5 with h5 | ⟨c, h5, hc⟩
   ·exact absurd h5 hz1
   ·have hb := bt_bytes h5
    have hb2 : bt s ((n : Int) + z - 1) ≠ 0 := by
     rw [show ((n : Int) + z - 1) = (n : Int) + ((z - 1 - 0 : Nat) : Int) by omega, hb]
     omega
    exact fun w0 W L g b h => number_more 11 v z h (by omega) (by omega) hz (by omega) hf hb2
 ·rw [h2] at hf
  refine .inr ⟨7, .inl rfl, h1, ?_⟩
  exact fun w0 W L g b h => number_short 11 0 0 h (by omega) (by omega) hz hf rfl (by omega)
 ·refine .inr ⟨8, .inr rfl, h1, ?_⟩
  rcases h2 with ⟨h2, h3⟩ | ⟨v, h2⟩ | ⟨v, z, h2, h3, h4, h5, h6⟩
  ·rw [h2] at hf
   exact fun w0 W L g b h => number_long 11 0 0 h (by omega) (by omega) hz hf rfl (by omega)
  ·rw [h2] at hf
   exact fun w0 W L g b h => number_neg 11 v (-1) h (by omega) (by omega) hz hf (by decide)
  ·rw [h2] at hf
   have hb := bt_bytes h6
   have hb2 : bt s ((n : Int) + z - 1) = 0 := by
    rw [show ((n : Int) + z - 1) = (n : Int) + ((z - 1 - 0 : Nat) : Int) by omega, hb]
    rfl
   exact fun w0 W L g b h => number_pad 11 v z h (by omega) (by omega) hz (by omega) hf hb2
end Go.Proofs.YthkeiclhllikjaaGreat
/-
 pack.In.Most and Num in every case.
-/
namespace Go.Proofs.YthkeiclhllikjaaGreat
open Go.RowKit Go.Proofs.YthkeiclhllikjaaGreat.PgetVar
def mostR (s : ByteArray) (n : Nat) (m : Nat) : Except Int (Nat × Nat) :=
 match rd 0 0 ((bytesOf s).drop n) with
 | .error e => .error e
 | .ok (v, z) => if v ≤ m then .ok (v, n + z) else .error 8
section
variable {w0 W : World} {L : List Blk} {g : Nat} {s : ByteArray} {n n' b v e : Int} {m k : Nat}
theorem most_big (hN : NumSays s n v 0 n') (h : Live w0 ((g, #[.string s, .int .i64 n, .int .i64 b], 177) :: L) W) (h1 : (m : Int) < v) (h2 : m < 9223372036854775808) :
  Calls Tryz.prog 168 #[.pointer (some ⟨g, 0, none⟩), .int .i64 m] W fun x W' => x = .returned (.tuple #[.int .i64 0, .int .i64 8]) ∧ Live w0 ((g, #[.string s, .int .i64 n', .int .i64 b], 177) :: L) W' := by
 have e1 : decide ((m : Int) < 0) = false := decide_eq_false (by omega)
 have e2 : decide ((m : Int) < v) = true := decide_eq_true h1
 have w1 : IntKind.u64.wrap (m : Int) = m := u64_id (by omega) (by omega)
 have H := Lib.hid (And.intro h1 h2)
 clear h1 h2
 go_enter Tryz.func168, Tryz.ntmps168
 go_wp2_with fail
 refine (hN _ _ _ _ _ h).mono ?_
 rintro x W' ⟨rfl, h'⟩
 go_wp2
 exact bodyPost_ret (v := .tuple #[.int .i64 0, .int .i64 8]) (by simp [results, Tryz.results168, go_sem]) rfl ⟨rfl, h'⟩
theorem most_any {n : Nat} (hn : n ≤ s.size) (hz : s.size < 140737488351233) (h2 : m < 9223372036854775808) (h : Live w0 ((g, #[.string s, .int .i64 n, .int .i64 b], 177) :: L) W) :
  (∃ v n' : Nat, mostR s n m = .ok (v, n') ∧ v ≤ m ∧ n ≤ n' ∧ n' ≤ s.size ∧ Calls Tryz.prog 168 #[.pointer (some ⟨g, 0, none⟩), .int .i64 m] W fun x W' => x = .returned (.tuple #[.int .i64 v, .int .i64 0]) ∧ Live w0 ((g, #[.string s, .int .i64 n', .int .i64 b], 177) :: L) W') ∨
  (∃ f, f ≠ 0 ∧ mostR s n m = .error f ∧ ∃ n1 : Int, Calls Tryz.prog 168 #[.pointer (some ⟨g, 0, none⟩), .int .i64 m] W fun x W' => x = .returned (.tuple #[.int .i64 0, .int .i64 f]) ∧ Live w0 ((g, #[.string s, .int .i64 n1, .int .i64 b], 177) :: L) W') := by
 rcases num_says hn hz with ⟨v, z, h1, h3, h4⟩ | ⟨e, he, h1, h4⟩
 ·by_cases hv : v ≤ m
  ·exact .inl ⟨v, n + z, by rw [mostR, h1]; simp [hv], hv, by omega, h3, most_ok h4 h (by omega) (by omega) (by omega)⟩
  ·exact .inr ⟨8, by decide, by rw [mostR, h1]; simp [hv], _, most_big h4 h (by omega) h2⟩
 ·refine .inr ⟨e, by omega, by rw [mostR, h1], _, most_bad (by omega) h4 h⟩
variable {bx bm bn : Nat} {old : Int}
theorem mostc_any {n1 f : Int} (h : Live w0 ((g, #[.string s, .int .i64 n, .int .i64 b], 177) :: (bn, #[.int .i64 old], 3) :: (bx, #[.pointer (some ⟨g, 0, none⟩)], 135) :: (bm, #[.int .i64 m], 3) :: L) W)
  (hM : Calls Tryz.prog 168 #[.pointer (some ⟨g, 0, none⟩), .int .i64 m] W fun x W' => x = .returned (.tuple #[.int .i64 v, .int .i64 f]) ∧ Live w0 ((g, #[.string s, .int .i64 n1, .int .i64 b], 177) :: (bn, #[.int .i64 old], 3) :: (bx, #[.pointer (some ⟨g, 0, none⟩)], 135) :: (bm, #[.int .i64 m], 3) :: L) W') :
  Calls Tryz.prog 167 #[.pointer (some ⟨bx, 0, none⟩), .pointer (some ⟨bm, 0, none⟩), .pointer (some ⟨bn, 0, none⟩)] W fun x W' => x = .returned (.int .i64 f) ∧
   Live w0 ((g, #[.string s, .int .i64 n1, .int .i64 b], 177) :: (bn, #[.int .i64 v], 3) :: (bx, #[.pointer (some ⟨g, 0, none⟩)], 135) :: (bm, #[.int .i64 m], 3) :: L) W' := by
 have hx : W.cell? ⟨bx, 0, none⟩ = some (.pointer (some ⟨g, 0, none⟩)) := h.tail.tail.cell 0
 have hm : W.cell? ⟨bm, 0, none⟩ = some (.int .i64 m) := h.tail.tail.tail.cell 0
 go_enter Tryz.func167, Tryz.ntmps167
 go_wp2_with fail
 refine hM.mono ?_
 rintro x W' ⟨rfl, h'⟩
 have hn : W'.cell? ⟨bn, 0, none⟩ = some (.int .i64 old) := h'.tail.cell 0
 have hz := h'.tail.thaw 0
 go_wp2
 exact bodyPost_ret (v := .int .i64 f) (by simp [results, Tryz.results167, go_sem]) rfl ⟨rfl, (h'.swap.put 0 _).swap⟩
theorem Most_any {n : Nat} (hn : n ≤ s.size) (hz : s.size < 140737488351233) (h2 : m < 9223372036854775808) (h : Live w0 ((g, #[.string s, .int .i64 n, .int .i64 0], 177) :: L) W) :
  (∃ v n' : Nat, mostR s n m = .ok (v, n') ∧ v ≤ m ∧ n ≤ n' ∧ n' ≤ s.size ∧ Calls Tryz.prog 161 #[.pointer (some ⟨g, 0, none⟩), .int .i64 m] W fun x W' => x = .returned (.int .i64 v) ∧ Live w0 ((g, #[.string s, .int .i64 n', .int .i64 0], 177) :: L) W') ∨
  (∃ f, f ≠ 0 ∧ mostR s n m = .error f ∧ Calls Tryz.prog 161 #[.pointer (some ⟨g, 0, none⟩), .int .i64 m] W fun x W' => x = .returned (.int .i64 0) ∧ Live w0 ((g, #[.string s, .int .i64 n, .int .i64 f], 177) :: L) W') := by
 have hmf : ∀ (fn : Fn) (first cap : Array Value) (w : World), (Instr.makeFunc fn first cap).run Tryz.prog w = .ok (.func fn first cap) w := fun _ _ _ _ => rfl
 have hL := (((h.alloc #[.pointer (some ⟨g, 0, none⟩)] 135).alloc #[.int .i64 m] 3).alloc #[.int .i64 0] 3).rot4
 have hs1 : ∀ (w : World) (o : Obj), (w.alloc o).heap.size = w.heap.size + 1 := fun w o => by simp
 simp only [hs1] at hL
 rcases most_any hn hz h2 hL with ⟨v, n', h1, h3, h4, h5, hM⟩ | ⟨f, hf, h1, n1, hM⟩
 ·refine .inl ⟨v, n', h1, h3, h4, h5, ?_⟩
  have hc := mostc_any hL hM
  clear hn hz h2 h1 h3 h4 h5 hM
  go_enter Tryz.func161, Tryz.ntmps161
  go_wp2_with fail
  refine (tryMost_ok _ _ hL hc).mono ?_
  rintro x W' ⟨rfl, h'⟩
  have hn : W'.cell? ⟨W.heap.size + 1 + 1, 0, none⟩ = some (.int .i64 v) := h'.tail.cell 0
  have hz := h'.tail.thaw 0
  go_wp2
  have hf := (h'.swap.put 0 (.int .i64 v)).swap
  have hc : (W'.setCell ⟨W.heap.size + 1 + 1, 0, none⟩ (.int .i64 v)).cell? ⟨W.heap.size + 1 + 1, 0, none⟩ = some (.int .i64 v) := hf.tail.cell 0
  exact bodyPost_ret (v := .int .i64 v) (by simp [results, Tryz.results161, go_sem, hc]) rfl ⟨rfl, Live.drop3 hf⟩
 ·refine .inr ⟨f, hf, h1, ?_⟩
  have hc := mostc_any hL hM
  clear hn hz h2 h1 hM
  go_enter Tryz.func161, Tryz.ntmps161
  go_wp2_with fail
  refine (tryMost_bad _ hf hL hc).mono ?_
  rintro x W' ⟨rfl, h'⟩
  clear hf
  have hn : W'.cell? ⟨W.heap.size + 1 + 1, 0, none⟩ = some (.int .i64 0) := h'.tail.cell 0
  have hz := h'.tail.thaw 0
  go_wp2
  have hf := (h'.swap.put 0 (.int .i64 0)).swap
  have hc : (W'.setCell ⟨W.heap.size + 1 + 1, 0, none⟩ (.int .i64 0)).cell? ⟨W.heap.size + 1 + 1, 0, none⟩ = some (.int .i64 0) := hf.tail.cell 0
  exact bodyPost_ret (v := .int .i64 0) (by simp [results, Tryz.results161, go_sem, hc]) rfl ⟨rfl, Live.drop3 hf⟩
end
end Go.Proofs.YthkeiclhllikjaaGreat
/-
 pack.In.Num, Int and Byte in every case.
-/
namespace Go.Proofs.YthkeiclhllikjaaGreat
open Go.RowKit Go.Proofs.YthkeiclhllikjaaGreat.PgetVar
def numR (s : ByteArray) (n : Nat) : Except Int (Nat × Nat) :=
 match rd 0 0 ((bytesOf s).drop n) with
 | .error e => .error e
 | .ok (v, z) => .ok (v, n + z)
theorem Live.drop2 {w0 W : World} {L : List Blk} {a b c : Blk} (h : Live w0 (a :: b :: c :: L) W) : Live w0 (a :: L) W := h.swap.tail.swap.tail
section
variable {w0 W : World} {L : List Blk} {g : Nat} {s : ByteArray} {n n' b v e : Int} {m k : Nat} {bx bn : Nat} {old : Int}
theorem numc_any {n1 f : Int} (h : Live w0 ((g, #[.string s, .int .i64 n, .int .i64 b], 177) :: (bn, #[.int .u64 old], 35) :: (bx, #[.pointer (some ⟨g, 0, none⟩)], 135) :: L) W)
  (hM : Calls Tryz.prog 171 #[.pointer (some ⟨g, 0, none⟩)] W fun x W' => x = .returned (.tuple #[.int .u64 v, .int .i64 f]) ∧ Live w0 ((g, #[.string s, .int .i64 n1, .int .i64 b], 177) :: (bn, #[.int .u64 old], 35) :: (bx, #[.pointer (some ⟨g, 0, none⟩)], 135) :: L) W') :
  Calls Tryz.prog 170 #[.pointer (some ⟨bx, 0, none⟩), .pointer (some ⟨bn, 0, none⟩)] W fun x W' => x = .returned (.int .i64 f) ∧
   Live w0 ((g, #[.string s, .int .i64 n1, .int .i64 b], 177) :: (bn, #[.int .u64 v], 35) :: (bx, #[.pointer (some ⟨g, 0, none⟩)], 135) :: L) W' := by
 have hx : W.cell? ⟨bx, 0, none⟩ = some (.pointer (some ⟨g, 0, none⟩)) := h.tail.tail.cell 0
 go_enter Tryz.func170, Tryz.ntmps170
 go_wp2_with fail
 refine hM.mono ?_
 rintro x W' ⟨rfl, h'⟩
 have hn : W'.cell? ⟨bn, 0, none⟩ = some (.int .u64 old) := h'.tail.cell 0
 have hz := h'.tail.thaw 0
 go_wp2
 exact bodyPost_ret (v := .int .i64 f) (by simp [results, Tryz.results170, go_sem]) rfl ⟨rfl, (h'.swap.put 0 _).swap⟩
theorem Num_any {n : Nat} (hn : n ≤ s.size) (hz : s.size < 140737488351233) (h : Live w0 ((g, #[.string s, .int .i64 n, .int .i64 0], 177) :: L) W) :
  (∃ v n' : Nat, numR s n = .ok (v, n') ∧ n ≤ n' ∧ n' ≤ s.size ∧ Calls Tryz.prog 164 #[.pointer (some ⟨g, 0, none⟩)] W fun x W' => x = .returned (.int .u64 v) ∧ Live w0 ((g, #[.string s, .int .i64 n', .int .i64 0], 177) :: L) W') ∨
  (∃ f, f ≠ 0 ∧ numR s n = .error f ∧ Calls Tryz.prog 164 #[.pointer (some ⟨g, 0, none⟩)] W fun x W' => x = .returned (.int .u64 0) ∧ Live w0 ((g, #[.string s, .int .i64 n, .int .i64 f], 177) :: L) W') := by
 have hmf : ∀ (fn : Fn) (first cap : Array Value) (w : World), (Instr.makeFunc fn first cap).run Tryz.prog w = .ok (.func fn first cap) w := fun _ _ _ _ => rfl
 have hL := ((h.alloc #[.pointer (some ⟨g, 0, none⟩)] 135).alloc #[.int .u64 0] 35).third
 have hs1 : ∀ (w : World) (o : Obj), (w.alloc o).heap.size = w.heap.size + 1 := fun w o => by simp
 simp only [hs1] at hL
 rcases num_says hn hz with ⟨v, z, h1, h3, h4⟩ | ⟨f, he, h1, h4⟩
 ·refine .inl ⟨v, n + z, by rw [numR, h1], by omega, h3, ?_⟩
  have hc := numc_any hL (h4 _ _ _ _ _ hL)
  rw [show ((n : Int) + (z : Int)) = ((n + z : Nat) : Int) by omega] at hc
  clear hn hz h1 h3 h4
  go_enter Tryz.func164, Tryz.ntmps164
  go_wp2_with fail
  refine (tryNum_ok _ _ hL hc).mono ?_
  rintro x W' ⟨rfl, h'⟩
  have hn : W'.cell? ⟨W.heap.size + 1, 0, none⟩ = some (.int .u64 v) := h'.tail.cell 0
  have hz := h'.tail.thaw 0
  go_wp2
  have hf := (h'.swap.put 0 (.int .u64 v)).swap
  have hc : (W'.setCell ⟨W.heap.size + 1, 0, none⟩ (.int .u64 v)).cell? ⟨W.heap.size + 1, 0, none⟩ = some (.int .u64 v) := hf.tail.cell 0
  exact bodyPost_ret (v := .int .u64 v) (by simp [results, Tryz.results164, go_sem, hc]) rfl ⟨rfl, Live.drop2 hf⟩
 ·refine .inr ⟨f, by omega, by rw [numR, h1], ?_⟩
  have hf : f ≠ 0 := by omega
  have hc := numc_any hL (h4 _ _ _ _ _ hL)
  clear hn hz h1 h4 he
  go_enter Tryz.func164, Tryz.ntmps164
  go_wp2_with fail
  refine (tryNum_bad _ hf hL hc).mono ?_
  rintro x W' ⟨rfl, h'⟩
  clear hf
  have hn : W'.cell? ⟨W.heap.size + 1, 0, none⟩ = some (.int .u64 0) := h'.tail.cell 0
  have hz := h'.tail.thaw 0
  go_wp2
  have hf := (h'.swap.put 0 (.int .u64 0)).swap
  have hc : (W'.setCell ⟨W.heap.size + 1, 0, none⟩ (.int .u64 0)).cell? ⟨W.heap.size + 1, 0, none⟩ = some (.int .u64 0) := hf.tail.cell 0
  exact bodyPost_ret (v := .int .u64 0) (by simp [results, Tryz.results164, go_sem, hc]) rfl ⟨rfl, Live.drop2 hf⟩
def zag (n : Nat) : Int := if n % 2 = 0 then (n / 2 : Nat) else -(n / 2 : Nat) - 1
theorem i64_not_right (a : Nat) (ha : a < 9223372036854775808) : bits .xor .i64 (a : Int) (-1) = -1 - (a : Int) := by
 rw [← i64_not a ha]
 show IntKind.i64.wrap ((BitVec.ofInt 64 (a : Int) ^^^ BitVec.ofInt 64 (-1)).toNat : Int) = IntKind.i64.wrap ((BitVec.ofInt 64 (-1) ^^^ BitVec.ofInt 64 (a : Int)).toNat : Int)
 rw [BitVec.xor_comm]
theorem i64_xor_zero (a : Nat) (ha : a < 9223372036854775808) : bits .xor .i64 (a : Int) 0 = (a : Int) := by
 show IntKind.i64.wrap ((BitVec.ofInt 64 (a : Int) ^^^ BitVec.ofInt 64 0).toNat : Int) = _
 have h1 : BitVec.ofInt 64 0 = 0#64 := by decide
 rw [h1, BitVec.xor_zero, ofInt_u64 a (by omega)]
 simp [IntKind.wrap, IntKind.bits, IntKind.signed]
 omega
theorem zag_bits {v : Nat} (hv : v < 18446744073709551616) :
  bits .xor .i64 (wrap64 ((v : Int) / 2)) (wrap64 (-wrap64 (bits .and .u64 (v : Int) 1))) = zag v := by
 have h1 : wrap64 ((v : Int) / 2) = ((v / 2 : Nat) : Int) := by unfold wrap64; omega
 have h2 : bits .and .u64 (v : Int) 1 = ((v % 2 : Nat) : Int) := by
  rw [show (1 : Int) = ((1 : Nat) : Int) from rfl, u64_and_nat v 1 hv (by decide), Nat.and_one_is_mod]
 rw [h1, h2]
 by_cases hp : v % 2 = 0
 ·rw [hp, show wrap64 (-wrap64 ((0 : Nat) : Int)) = 0 from by simp [wrap64], i64_xor_zero _ (by omega), zag, if_pos hp]
 ·rw [show v % 2 = 1 by omega, show wrap64 (-wrap64 ((1 : Nat) : Int)) = -1 from by simp [wrap64], i64_not_right _ (by omega), zag, if_neg hp]
  omega
set_option maxRecDepth 100000 in
theorem Int_run {v : Nat} (hv : v < 18446744073709551616) (Q : World → Prop)
  (hN : Calls Tryz.prog 164 #[.pointer (some ⟨g, 0, none⟩)] W fun x W' => x = .returned (.int .u64 v) ∧ Q W') :
  Calls Tryz.prog 162 #[.pointer (some ⟨g, 0, none⟩)] W fun x W' => x = .returned (.int .i64 (zag v)) ∧ Q W' := by
 have Hv := Lib.hid hv
 clear hv
 go_enter Tryz.func162, Tryz.ntmps162
 go_wp2_with fail
 refine hN.mono ?_
 rintro x W' ⟨rfl, h'⟩
 go_wp2
 exact bodyPost_ret (v := .int .i64 (zag v)) (by simp [results, Tryz.results162, go_sem, zag_bits Hv.out]) rfl ⟨rfl, h'⟩
end
end Go.Proofs.YthkeiclhllikjaaGreat
/-
 pack.In.Byte at the end, pack.In.Text in every case.
-/
namespace Go.Proofs.YthkeiclhllikjaaGreat
open Go.RowKit Go.Proofs.YthkeiclhllikjaaGreat.PgetVar
theorem rd_lt : ∀ (l : List Nat) (i acc v z : Nat), i ≤ 9 → acc < 2 ^ (7 * i) → rd i acc l = .ok (v, z) → v < 18446744073709551616
 | [], i, acc, v, z, hi, ha, h => by simp [rd] at h
 | c :: t, i, acc, v, z, hi, ha, h => by
  rw [rd, if_neg (by omega)] at h
  by_cases h9 : i = 9 ∧ 1 < c
  ·rw [if_pos h9] at h; cases h
  rw [if_neg h9] at h
  by_cases hc : c < 128
  ·rw [if_pos hc] at h
   split at h
   ·cases h
   ·cases h
    by_cases hi9 : i = 9
    ·subst hi9
     have : c ≤ 1 := by omega
     have h2 : c * 2 ^ (7 * 9) ≤ 1 * 2 ^ (7 * 9) := Nat.mul_le_mul_right _ this
     have h3 : (2 : Nat) ^ (7 * 9) = 9223372036854775808 := by decide
     omega
    ·have h2 : c * 2 ^ (7 * i) ≤ 127 * 2 ^ (7 * i) := Nat.mul_le_mul_right _ (by omega)
     have h3 : (2 : Nat) ^ (7 * i) ≤ 2 ^ 56 := Nat.pow_le_pow_right (by decide) (by omega)
     have h4 : (2 : Nat) ^ 56 = 72057594037927936 := by decide
     omega
  ·rw [if_neg hc] at h
   by_cases hi9 : i = 9
   ·omega
   ·refine rd_lt t (i + 1) _ v z (by omega) ?_ h
    have h2 : c % 128 * 2 ^ (7 * i) ≤ 127 * 2 ^ (7 * i) := Nat.mul_le_mul_right _ (by omega)
    rw [show 7 * (i + 1) = 7 * i + 7 by omega, Nat.pow_add]
    omega
section
variable {w0 W : World} {L : List Blk} {g : Nat} {s : ByteArray} {n n' b v e : Int} {m k : Nat} {bx bn bm bs : Nat} {old : Int}
theorem bytec_end (hn : n = s.size)
  (h : Live w0 ((g, #[.string s, .int .i64 n, .int .i64 b], 177) :: (bn, #[.int .u8 old], 5) :: (bx, #[.pointer (some ⟨g, 0, none⟩)], 135) :: L) W) :
  Calls Tryz.prog 166 #[.pointer (some ⟨bx, 0, none⟩), .pointer (some ⟨bn, 0, none⟩)] W fun x W' => x = .returned (.int .i64 7) ∧
   Live w0 ((g, #[.string s, .int .i64 n, .int .i64 b], 177) :: (bn, #[.int .u8 old], 5) :: (bx, #[.pointer (some ⟨g, 0, none⟩)], 135) :: L) W' := by
 have c0 : W.cell? ⟨g, 0, none⟩ = some (.string s) := h.cell 0
 have c1 : W.cell? ⟨g, 1, none⟩ = some (.int .i64 n) := h.cell 1
 have hx : W.cell? ⟨bx, 0, none⟩ = some (.pointer (some ⟨g, 0, none⟩)) := h.tail.tail.cell 0
 have e1 : (n == (s.size : Int)) = true := beq_iff_eq.2 hn
 have Hn := Lib.hid hn
 clear hn
 go_enter Tryz.func166, Tryz.ntmps166
 go_wp2
 go_quiet (fail)
 go_wp2
 exact bodyPost_ret (v := .int .i64 7) (by simp [results, Tryz.results166, go_sem]) rfl ⟨rfl, h.drewN _⟩
theorem Byte_end (hn : n = s.size) (h : Live w0 ((g, #[.string s, .int .i64 n, .int .i64 0], 177) :: L) W) :
  Calls Tryz.prog 160 #[.pointer (some ⟨g, 0, none⟩)] W fun x W' => x = .returned (.int .u8 0) ∧ Live w0 ((g, #[.string s, .int .i64 n, .int .i64 7], 177) :: L) W' := by
 have hmf : ∀ (fn : Fn) (first cap : Array Value) (w : World), (Instr.makeFunc fn first cap).run Tryz.prog w = .ok (.func fn first cap) w := fun _ _ _ _ => rfl
 have hL := ((h.alloc #[.pointer (some ⟨g, 0, none⟩)] 135).alloc #[.int .u8 0] 5).third
 have hs1 : ∀ (w : World) (o : Obj), (w.alloc o).heap.size = w.heap.size + 1 := fun w o => by simp
 simp only [hs1] at hL
 have hc := bytec_end hn hL
 have Hn := Lib.hid hn
 clear hn
 go_enter Tryz.func160, Tryz.ntmps160
 go_wp2_with fail
 refine (tryByte_bad _ (by decide) hL hc).mono ?_
 rintro x W' ⟨rfl, h'⟩
 have hn : W'.cell? ⟨W.heap.size + 1, 0, none⟩ = some (.int .u8 0) := h'.tail.cell 0
 have hz := h'.tail.thaw 0
 go_wp2
 have hf := (h'.swap.put 0 (.int .u8 0)).swap
 have hc : (W'.setCell ⟨W.heap.size + 1, 0, none⟩ (.int .u8 0)).cell? ⟨W.heap.size + 1, 0, none⟩ = some (.int .u8 0) := hf.tail.cell 0
 exact bodyPost_ret (v := .int .u8 0) (by simp [results, Tryz.results160, go_sem, hc]) rfl ⟨rfl, Live.drop2 hf⟩
def textR (s : ByteArray) (n m : Nat) : Except Int (ByteArray × Nat) :=
 match mostR s n m with
 | .error f => .error f
 | .ok (v, n') => if v ≤ s.size - n' then .ok (s.extract n' (n' + v), n' + v) else .error 7
theorem textc_bad {n1 f : Int} (hf : f ≠ 0) (h : Live w0 ((g, #[.string s, .int .i64 n, .int .i64 b], 177) :: (bs, #[.string .empty], 9) :: (bx, #[.pointer (some ⟨g, 0, none⟩)], 135) :: (bm, #[.int .i64 m], 3) :: L) W)
  (hM : Calls Tryz.prog 168 #[.pointer (some ⟨g, 0, none⟩), .int .i64 m] W fun x W' => x = .returned (.tuple #[.int .i64 0, .int .i64 f]) ∧ Live w0 ((g, #[.string s, .int .i64 n1, .int .i64 b], 177) :: (bs, #[.string .empty], 9) :: (bx, #[.pointer (some ⟨g, 0, none⟩)], 135) :: (bm, #[.int .i64 m], 3) :: L) W') :
  Calls Tryz.prog 169 #[.pointer (some ⟨bx, 0, none⟩), .pointer (some ⟨bm, 0, none⟩), .pointer (some ⟨bs, 0, none⟩)] W fun x W' => x = .returned (.int .i64 f) ∧
   Live w0 ((g, #[.string s, .int .i64 n1, .int .i64 b], 177) :: (bs, #[.string .empty], 9) :: (bx, #[.pointer (some ⟨g, 0, none⟩)], 135) :: (bm, #[.int .i64 m], 3) :: L) W' := by
 have hx : W.cell? ⟨bx, 0, none⟩ = some (.pointer (some ⟨g, 0, none⟩)) := h.tail.tail.cell 0
 have hm : W.cell? ⟨bm, 0, none⟩ = some (.int .i64 m) := h.tail.tail.tail.cell 0
 have e1 : (f == 0) = false := beq_eq_false_iff_ne.2 hf
 have e2 : (f != 0) = true := bne_iff_ne.2 hf
 clear hf
 go_enter Tryz.func169, Tryz.ntmps169
 go_wp2_with fail
 refine hM.mono ?_
 rintro x W' ⟨rfl, h'⟩
 go_wp2
 exact bodyPost_ret (v := .int .i64 f) (by simp [results, Tryz.results169, go_sem]) rfl ⟨rfl, h'⟩
theorem textc_short {v n1 : Nat} (hv : v < 9223372036854775808) (hn1 : n1 ≤ s.size) (hz : s.size < 140737488351233) (hsh : s.size - n1 < v)
  (h : Live w0 ((g, #[.string s, .int .i64 n, .int .i64 b], 177) :: (bs, #[.string .empty], 9) :: (bx, #[.pointer (some ⟨g, 0, none⟩)], 135) :: (bm, #[.int .i64 m], 3) :: L) W)
  (hM : Calls Tryz.prog 168 #[.pointer (some ⟨g, 0, none⟩), .int .i64 m] W fun x W' => x = .returned (.tuple #[.int .i64 v, .int .i64 0]) ∧ Live w0 ((g, #[.string s, .int .i64 n1, .int .i64 b], 177) :: (bs, #[.string .empty], 9) :: (bx, #[.pointer (some ⟨g, 0, none⟩)], 135) :: (bm, #[.int .i64 m], 3) :: L) W') :
  Calls Tryz.prog 169 #[.pointer (some ⟨bx, 0, none⟩), .pointer (some ⟨bm, 0, none⟩), .pointer (some ⟨bs, 0, none⟩)] W fun x W' => x = .returned (.int .i64 7) ∧
   Live w0 ((g, #[.string s, .int .i64 n1, .int .i64 b], 177) :: (bs, #[.string .empty], 9) :: (bx, #[.pointer (some ⟨g, 0, none⟩)], 135) :: (bm, #[.int .i64 m], 3) :: L) W' := by
 have hx : W.cell? ⟨bx, 0, none⟩ = some (.pointer (some ⟨g, 0, none⟩)) := h.tail.tail.cell 0
 have hm : W.cell? ⟨bm, 0, none⟩ = some (.int .i64 m) := h.tail.tail.tail.cell 0
 have hw : IntKind.i64.wrap ((s.size : Int) - (n1 : Int)) = s.size - n1 := i64_id (by omega) (by omega)
 have e3 : decide ((s.size : Int) - (n1 : Int) < (v : Int)) = true := decide_eq_true (by omega)
 have H := Lib.hid (And.intro hv (And.intro hn1 (And.intro hz hsh)))
 clear hv hn1 hz hsh
 go_enter Tryz.func169, Tryz.ntmps169
 go_wp2_with fail
 refine hM.mono ?_
 rintro x W' ⟨rfl, h'⟩
 have hx' : W'.cell? ⟨bx, 0, none⟩ = some (.pointer (some ⟨g, 0, none⟩)) := h'.tail.tail.cell 0
 have c0 : W'.cell? ⟨g, 0, none⟩ = some (.string s) := h'.cell 0
 have c1 : W'.cell? ⟨g, 1, none⟩ = some (.int .i64 n1) := h'.cell 1
 go_wp2
 go_quiet (fail)
 go_wp2
 exact bodyPost_ret (v := .int .i64 7) (by simp [results, Tryz.results169, go_sem]) rfl ⟨rfl, h'.drewN _⟩
end
end Go.Proofs.YthkeiclhllikjaaGreat
/-
 pack.In.Text in every case.
-/
namespace Go.Proofs.YthkeiclhllikjaaGreat
open Go.RowKit Go.Proofs.YthkeiclhllikjaaGreat.PgetVar
section
variable {w0 W : World} {L : List Blk} {g : Nat} {s : ByteArray} {n n' b v e : Int} {m k : Nat} {bx bn bm bs : Nat} {old : Int}
set_option maxRecDepth 100000 in
theorem textc_ok {v n1 : Nat} (hz : s.size < 140737488351233) (hn1 : n1 + v ≤ s.size)
  (h : Live w0 ((g, #[.string s, .int .i64 n, .int .i64 b], 177) :: (bs, #[.string .empty], 9) :: (bx, #[.pointer (some ⟨g, 0, none⟩)], 135) :: (bm, #[.int .i64 m], 3) :: L) W)
  (hM : Calls Tryz.prog 168 #[.pointer (some ⟨g, 0, none⟩), .int .i64 m] W fun x W' => x = .returned (.tuple #[.int .i64 v, .int .i64 0]) ∧ Live w0 ((g, #[.string s, .int .i64 n1, .int .i64 b], 177) :: (bs, #[.string .empty], 9) :: (bx, #[.pointer (some ⟨g, 0, none⟩)], 135) :: (bm, #[.int .i64 m], 3) :: L) W') :
  Calls Tryz.prog 169 #[.pointer (some ⟨bx, 0, none⟩), .pointer (some ⟨bm, 0, none⟩), .pointer (some ⟨bs, 0, none⟩)] W fun x W' => x = .returned (.int .i64 0) ∧
   Live w0 ((g, #[.string s, .int .i64 (n1 + v : Nat), .int .i64 b], 177) :: (bs, #[.string (s.extract n1 (n1 + v))], 9) :: (bx, #[.pointer (some ⟨g, 0, none⟩)], 135) :: (bm, #[.int .i64 m], 3) :: L) W' := by
 have hx : W.cell? ⟨bx, 0, none⟩ = some (.pointer (some ⟨g, 0, none⟩)) := h.tail.tail.cell 0
 have hm : W.cell? ⟨bm, 0, none⟩ = some (.int .i64 m) := h.tail.tail.tail.cell 0
 have hw : IntKind.i64.wrap ((s.size : Int) - (n1 : Int)) = s.size - n1 := i64_id (by omega) (by omega)
 have hw2 : IntKind.i64.wrap ((n1 : Int) + (v : Int)) = n1 + v := i64_id (by omega) (by omega)
 have e3 : decide ((s.size : Int) - (n1 : Int) < (v : Int)) = false := decide_eq_false (by omega)
 have hsl : ∀ w : World, (Instr.slice 9 (.string s) (some (.int .i64 (n1 : Int))) (some (.int .i64 ((n1 : Int) + (v : Int)))) none).run Tryz.prog w = .ok (.string (s.extract n1 (n1 + v))) w := fun w =>
  (run_slice_string w 9 s .i64 .i64 n1 ((n1 : Int) + v) Tryz.underlying9 (by omega) (by omega) (by omega)).trans (by rw [show ((n1 : Int) + (v : Int)).toNat = n1 + v by omega]; rfl)
 have H := Lib.hid hz
 clear hz hn1
 go_enter Tryz.func169, Tryz.ntmps169
 go_wp2_with fail
 refine hM.mono ?_
 rintro x W' ⟨rfl, h'⟩
 have hx' : W'.cell? ⟨bx, 0, none⟩ = some (.pointer (some ⟨g, 0, none⟩)) := h'.tail.tail.cell 0
 have c0 : W'.cell? ⟨g, 0, none⟩ = some (.string s) := h'.cell 0
 have c1 : W'.cell? ⟨g, 1, none⟩ = some (.int .i64 n1) := h'.cell 1
 go_wp2
 go_quiet (fail)
 go_wp2
 have h2 := h'.drewN nq
 generalize W'.drewN nq = W2 at *
 have hx' : W2.cell? ⟨bx, 0, none⟩ = some (.pointer (some ⟨g, 0, none⟩)) := h2.tail.tail.cell 0
 have c0 : W2.cell? ⟨g, 0, none⟩ = some (.string s) := h2.cell 0
 have c1 : W2.cell? ⟨g, 1, none⟩ = some (.int .i64 n1) := h2.cell 1
 go_still_tail 15, (by kernel_rfl)
 change wpList _ _ _ _ _ W2.drew
 have h3 := h2.drew
 generalize W2.drew = W3 at *
 have cs : W3.cell? ⟨bs, 0, none⟩ = some (.string .empty) := h3.tail.cell 0
 have ts := h3.tail.thaw 0
 have h4 := (h3.swap.put 0 (.string (s.extract n1 (n1 + v)))).swap
 have hx4 : (W3.setCell ⟨bs, 0, none⟩ (.string (s.extract n1 (n1 + v)))).cell? ⟨bx, 0, none⟩ = some (.pointer (some ⟨g, 0, none⟩)) := h4.tail.tail.cell 0
 have c4 : (W3.setCell ⟨bs, 0, none⟩ (.string (s.extract n1 (n1 + v)))).cell? ⟨g, 1, none⟩ = some (.int .i64 n1) := h4.cell 1
 have t4 := h4.thaw 1
 go_wp2
 exact bodyPost_ret (v := .int .i64 0) (by simp [results, Tryz.results169, go_sem]) rfl ⟨rfl, h4.put 1 _⟩
theorem Text_any {n : Nat} (hn : n ≤ s.size) (hz : s.size < 140737488351233) (h2 : m < 9223372036854775808) (h : Live w0 ((g, #[.string s, .int .i64 n, .int .i64 0], 177) :: L) W) :
  (∃ (v : ByteArray) (n' : Nat), textR s n m = .ok (v, n') ∧ n ≤ n' ∧ n' ≤ s.size ∧ Calls Tryz.prog 163 #[.pointer (some ⟨g, 0, none⟩), .int .i64 m] W fun x W' => x = .returned (.string v) ∧ Live w0 ((g, #[.string s, .int .i64 n', .int .i64 0], 177) :: L) W') ∨
  (∃ f, f ≠ 0 ∧ textR s n m = .error f ∧ Calls Tryz.prog 163 #[.pointer (some ⟨g, 0, none⟩), .int .i64 m] W fun x W' => x = .returned (.string .empty) ∧ Live w0 ((g, #[.string s, .int .i64 n, .int .i64 f], 177) :: L) W') := by
 have hmf : ∀ (fn : Fn) (first cap : Array Value) (w : World), (Instr.makeFunc fn first cap).run Tryz.prog w = .ok (.func fn first cap) w := fun _ _ _ _ => rfl
 have hL := (((h.alloc #[.pointer (some ⟨g, 0, none⟩)] 135).alloc #[.int .i64 m] 3).alloc #[.string .empty] 9).rot4
 have hs1 : ∀ (w : World) (o : Obj), (w.alloc o).heap.size = w.heap.size + 1 := fun w o => by simp
 simp only [hs1] at hL
 rcases most_any hn hz h2 hL with ⟨v, n', h1, h3, h4, h5, hM⟩ | ⟨f, hf, h1, n1, hM⟩
 ·by_cases hv : v ≤ s.size - n'
  ·obtain ⟨u, hu⟩ : ∃ u, u = s.extract n' (n' + v) := ⟨_, rfl⟩
   refine .inl ⟨u, n' + v, by rw [textR, h1]; simp [hv, hu], by omega, by omega, ?_⟩
   have hc := textc_ok hz (by omega) hL hM
   rw [← hu] at hc
   clear hn hz h2 h1 h3 h4 h5 hM hv hu
   go_enter Tryz.func163, Tryz.ntmps163
   go_wp2_with fail
   refine (tryText_ok _ _ hL hc).mono ?_
   rintro x W' ⟨rfl, h'⟩
   have hn : W'.cell? ⟨W.heap.size + 1 + 1, 0, none⟩ = some (.string u) := h'.tail.cell 0
   have hz := h'.tail.thaw 0
   go_wp2
   have hf := (h'.swap.put 0 (.string u)).swap
   have hc : (W'.setCell ⟨W.heap.size + 1 + 1, 0, none⟩ (.string u)).cell? ⟨W.heap.size + 1 + 1, 0, none⟩ = some (.string u) := hf.tail.cell 0
   exact bodyPost_ret (v := .string u) (by simp [results, Tryz.results163, go_sem, hc]) rfl ⟨rfl, Live.drop3 hf⟩
  ·have hf : (7 : Int) ≠ 0 := by decide
   refine .inr ⟨7, hf, by rw [textR, h1]; simp [hv], ?_⟩
   have hc := textc_short (by omega) h5 hz (by omega) hL hM
   clear hn hz h2 h1 h3 h4 h5 hM hv
   go_enter Tryz.func163, Tryz.ntmps163
   go_wp2_with fail
   refine (tryText_bad _ hf hL hc).mono ?_
   rintro x W' ⟨rfl, h'⟩
   clear hf
   have hn : W'.cell? ⟨W.heap.size + 1 + 1, 0, none⟩ = some (.string .empty) := h'.tail.cell 0
   have hz := h'.tail.thaw 0
   go_wp2
   have hf := (h'.swap.put 0 (.string .empty)).swap
   have hc : (W'.setCell ⟨W.heap.size + 1 + 1, 0, none⟩ (.string .empty)).cell? ⟨W.heap.size + 1 + 1, 0, none⟩ = some (.string .empty) := hf.tail.cell 0
   exact bodyPost_ret (v := .string .empty) (by simp [results, Tryz.results163, go_sem, hc]) rfl ⟨rfl, Live.drop3 hf⟩
 ·refine .inr ⟨f, hf, by rw [textR, h1], ?_⟩
  have hc := textc_bad hf hL hM
  clear hn hz h2 h1 hM
  go_enter Tryz.func163, Tryz.ntmps163
  go_wp2_with fail
  refine (tryText_bad _ hf hL hc).mono ?_
  rintro x W' ⟨rfl, h'⟩
  clear hf
  have hn : W'.cell? ⟨W.heap.size + 1 + 1, 0, none⟩ = some (.string .empty) := h'.tail.cell 0
  have hz := h'.tail.thaw 0
  go_wp2
  have hf := (h'.swap.put 0 (.string .empty)).swap
  have hc : (W'.setCell ⟨W.heap.size + 1 + 1, 0, none⟩ (.string .empty)).cell? ⟨W.heap.size + 1 + 1, 0, none⟩ = some (.string .empty) := hf.tail.cell 0
  exact bodyPost_ret (v := .string .empty) (by simp [results, Tryz.results163, go_sem, hc]) rfl ⟨rfl, Live.drop3 hf⟩
end
end Go.Proofs.YthkeiclhllikjaaGreat
