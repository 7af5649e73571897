/-
  The reader as a walker.
-/
import Derived.Test.YthkeiclhllikjaaGreatMsgRr
import Derived.Test.YthkeiclhllikjaaGreatMsgWk
set_option linter.unusedSimpArgs false
set_option linter.unusedVariables false
namespace Go.Proofs.YthkeiclhllikjaaGreat
open Go.RowKit
theorem rn_num (r : Nat) (w : World) : (nilAhead 320 134 (.pointer (some ⟨r, 0, none⟩)) "meter/msg.num").run Tryz.prog w = .ok (some false) w := by kernel_rfl
theorem rn_byte (r : Nat) (w : World) : (nilAhead 320 134 (.pointer (some ⟨r, 0, none⟩)) "meter/msg.byte").run Tryz.prog w = .ok (some false) w := by kernel_rfl
theorem rn_i64 (r : Nat) (w : World) : (nilAhead 320 134 (.pointer (some ⟨r, 0, none⟩)) "meter/msg.i64").run Tryz.prog w = .ok (some false) w := by kernel_rfl
theorem rn_u64 (r : Nat) (w : World) : (nilAhead 320 134 (.pointer (some ⟨r, 0, none⟩)) "meter/msg.u64").run Tryz.prog w = .ok (some false) w := by kernel_rfl
theorem rn_text (r : Nat) (w : World) : (nilAhead 320 134 (.pointer (some ⟨r, 0, none⟩)) "meter/msg.text").run Tryz.prog w = .ok (some false) w := by kernel_rfl
theorem rn_count (r : Nat) (w : World) : (nilAhead 320 134 (.pointer (some ⟨r, 0, none⟩)) "meter/msg.count").run Tryz.prog w = .ok (some false) w := by kernel_rfl
theorem rm_num (r : Nat) (w : World) : (method 320 134 (.pointer (some ⟨r, 0, none⟩)) "meter/msg.num").run Tryz.prog w = .ok (157, .pointer (some ⟨r, 0, none⟩)) w := by kernel_rfl
theorem rm_byte (r : Nat) (w : World) : (method 320 134 (.pointer (some ⟨r, 0, none⟩)) "meter/msg.byte").run Tryz.prog w = .ok (154, .pointer (some ⟨r, 0, none⟩)) w := by kernel_rfl
theorem rm_i64 (r : Nat) (w : World) : (method 320 134 (.pointer (some ⟨r, 0, none⟩)) "meter/msg.i64").run Tryz.prog w = .ok (156, .pointer (some ⟨r, 0, none⟩)) w := by kernel_rfl
theorem rm_u64 (r : Nat) (w : World) : (method 320 134 (.pointer (some ⟨r, 0, none⟩)) "meter/msg.u64").run Tryz.prog w = .ok (159, .pointer (some ⟨r, 0, none⟩)) w := by kernel_rfl
theorem rm_text (r : Nat) (w : World) : (method 320 134 (.pointer (some ⟨r, 0, none⟩)) "meter/msg.text").run Tryz.prog w = .ok (158, .pointer (some ⟨r, 0, none⟩)) w := by kernel_rfl
theorem rm_count (r : Nat) (w : World) : (method 320 134 (.pointer (some ⟨r, 0, none⟩)) "meter/msg.count").run Tryz.prog w = .ok (155, .pointer (some ⟨r, 0, none⟩)) w := by kernel_rfl
def rB (s : ByteArray) (g r n : Nat) : List Blk := [(g, #[.string s, .int .i64 n, .int .i64 0], 177), (r, #[.pointer (some ⟨g, 0, none⟩)], 138)]
def rNum (s : ByteArray) (n : Nat) : Except Int (Int × Nat) :=
 match mostR s n 2147483647 with
 | .error f => .error f
 | .ok (v, n') => .ok ((v : Int), n')
def rByte (s : ByteArray) (n : Nat) : Except Int (Nat × Nat) := if n < s.size then .ok ((bytesOf s).getD n 0, n + 1) else .error 7
def rI64 (s : ByteArray) (n : Nat) : Except Int (Int × Nat) :=
 match numR s n with
 | .error f => .error f
 | .ok (v, n') => .ok (zag v, n')
def rCount (s : ByteArray) (n : Nat) (most : Int) : Except Int (Int × Nat) :=
 match mostR s n most.toNat with
 | .error f => .error f
 | .ok (v, n') => .ok ((v : Int), n')
theorem numR_lt {s : ByteArray} {n v n' : Nat} (h : numR s n = .ok (v, n')) : v < 18446744073709551616 := by
 unfold numR at h
 split at h
 ·cases h
 ·rename_i hx
  cases h
  exact rd_lt _ 0 0 _ _ (by decide) (by decide) hx
theorem bt_getD {s : ByteArray} {n : Nat} (h : n < s.size) : bt s n = (((bytesOf s).getD n 0 : Nat) : Int) := by
 obtain ⟨b, hb, hbt, hdrop⟩ := bytes_drop h
 rw [hbt]
 have := congrArg (·[0]?) hdrop
 simp only [List.getElem?_drop, Nat.add_zero, List.getElem?_cons_zero] at this
 simp [List.getD, this]
def rSem (s : ByteArray) : WSem where
 σ := Nat
 num := fun n _ => rNum s n
 byte := fun n _ => rByte s n
 i64 := fun n _ => rI64 s n
 u64 := fun n _ => numR s n
 text := fun n _ most => textR s n most.toNat
 count := fun n _ most => rCount s n most
set_option maxRecDepth 100000 in
def rWk (s : ByteArray) (g r : Nat) : Wkr where
 toWSem := rSem s
 T := 134
 r := r
 rep := fun _ (n : Nat) B => B = rB s g r n ∧ n ≤ s.size ∧ s.size < 140737488351233
 rep_le := fun _ h => h
 fnum := 157
 n_num := rn_num r
 m_num := rm_num r
 e_num := fun _ _ => by kernel_rfl
 fbyte := 154
 n_byte := rn_byte r
 m_byte := rm_byte r
 e_byte := fun _ _ => by kernel_rfl
 fi64 := 156
 n_i64 := rn_i64 r
 m_i64 := rm_i64 r
 e_i64 := fun _ _ => by kernel_rfl
 fu64 := 159
 n_u64 := rn_u64 r
 m_u64 := rm_u64 r
 e_u64 := fun _ _ => by kernel_rfl
 ftext := 158
 n_text := rn_text r
 m_text := rm_text r
 e_text := fun _ _ => by kernel_rfl
 fcount := 155
 n_count := rn_count r
 m_count := rm_count r
 e_count := fun _ _ => by kernel_rfl
 c_num := by
  rintro w0 W L B (n : Nat) k p i A t old ⟨rfl, hn, hz⟩ h hA
  rcases Most_any (m := 2147483647) hn hz (by decide) (h : Live w0 (_ :: _ :: _ :: L) W) with ⟨v, n', h1, h2, h3, h4, hM⟩ | ⟨f, hf, h1, hM⟩
  ·refine (rnum_run_ok hA h hM).mono ?_
   rintro x W' ⟨rfl, h'⟩
   simp only [rSem, rNum, h1, Said]
   exact ⟨trivial, _, ⟨rfl, h4, hz⟩, h'⟩
  ·refine (rnum_run_bad hf hA h hM).mono ?_
   rintro x W' ⟨rfl, h'⟩
   simp only [rSem, rNum, h1, Said]
   exact ⟨trivial, h'⟩
 c_byte := by
  rintro w0 W L B (n : Nat) k p i A t old ⟨rfl, hn, hz⟩ h hA
  by_cases hlt : n < s.size
  ·refine (rbyte_run_ok (n' := n + 1) (v := bt s n) hA h (Byte_ok (by omega) (by omega) hz h)).mono ?_
   rintro x W' ⟨rfl, h'⟩
   simp only [rSem, rByte, if_pos hlt, Said]
   rw [bt_getD hlt] at h'
   exact ⟨trivial, _, ⟨rfl, hlt, hz⟩, h'⟩
  ·refine (rbyte_run_bad (f := 7) (by decide) hA h (Byte_end (by omega) h)).mono ?_
   rintro x W' ⟨rfl, h'⟩
   simp only [rSem, rByte, if_neg hlt, Said]
   exact ⟨trivial, h'⟩
 c_i64 := by
  rintro w0 W L B (n : Nat) k p i A t old ⟨rfl, hn, hz⟩ h hA _ _
  rcases Num_any hn hz (h : Live w0 (_ :: _ :: _ :: L) W) with ⟨v, n', h1, h2, h3, hM⟩ | ⟨f, hf, h1, hM⟩
  ·refine (ri64_run_ok hA h (Int_run (numR_lt h1) _ hM)).mono ?_
   rintro x W' ⟨rfl, h'⟩
   simp only [rSem, rI64, h1, Said]
   exact ⟨trivial, _, ⟨rfl, h3, hz⟩, h'⟩
  ·refine (ri64_run_bad hf hA h (Int_run (v := 0) (by decide) _ hM)).mono ?_
   rintro x W' ⟨rfl, h'⟩
   simp only [rSem, rI64, h1, Said]
   exact ⟨trivial, h'⟩
 c_u64 := by
  rintro w0 W L B (n : Nat) k p i A t old ⟨rfl, hn, hz⟩ h hA _
  rcases Num_any hn hz (h : Live w0 (_ :: _ :: _ :: L) W) with ⟨v, n', h1, h2, h3, hM⟩ | ⟨f, hf, h1, hM⟩
  ·refine (ru64_run_ok hA h hM).mono ?_
   rintro x W' ⟨rfl, h'⟩
   simp only [rSem, h1, Said]
   exact ⟨trivial, _, ⟨rfl, h3, hz⟩, h'⟩
  ·refine (ru64_run_bad hf hA h hM).mono ?_
   rintro x W' ⟨rfl, h'⟩
   simp only [rSem, h1, Said]
   exact ⟨trivial, h'⟩
 c_text := by
  rintro w0 W L B (n : Nat) k p i A t old most ⟨rfl, hn, hz⟩ h hA _ hm0 hm1
  obtain ⟨m, rfl⟩ : ∃ m : Nat, most = m := ⟨most.toNat, by omega⟩
  rcases Text_any (m := m) hn hz (by omega) (h : Live w0 (_ :: _ :: _ :: L) W) with ⟨v, n', h1, h2, h3, hM⟩ | ⟨f, hf, h1, hM⟩
  ·refine (rtext_run_ok hA h hM).mono ?_
   rintro x W' ⟨rfl, h'⟩
   simp only [rSem, Int.toNat_natCast, h1, Said]
   exact ⟨trivial, _, ⟨rfl, h3, hz⟩, h'⟩
  ·refine (rtext_run_bad hf hA h hM).mono ?_
   rintro x W' ⟨rfl, h'⟩
   simp only [rSem, Int.toNat_natCast, h1, Said]
   exact ⟨trivial, h'⟩
 c_count := by
  rintro w0 W L B (n : Nat) k a most ⟨rfl, hn, hz⟩ h _ _ hm0 hm1
  obtain ⟨m, rfl⟩ : ∃ m : Nat, most = m := ⟨most.toNat, by omega⟩
  rcases Most_any (m := m) hn hz (by omega) (h : Live w0 (_ :: _ :: L) W) with ⟨v, n', h1, h2, h3, h4, hM⟩ | ⟨f, hf, h1, hM⟩
  ·refine (rcount_run_ok h hM).mono ?_
   rintro x W' ⟨rfl, h'⟩
   simp only [rSem, rCount, Int.toNat_natCast, h1, Said]
   exact ⟨trivial, by omega, by omega, _, ⟨rfl, h4, hz⟩, h'⟩
  ·refine (rcount_run_bad hf h hM).mono ?_
   rintro x W' ⟨rfl, h'⟩
   simp only [rSem, rCount, Int.toNat_natCast, h1, Said]
   exact ⟨trivial, h'⟩
end Go.Proofs.YthkeiclhllikjaaGreat
