/-
  snap.Pack: a state's bytes.
-/
import Derived.Test.YtnjfjdfjheiocaaGreatDgA
import Derived.Test.YtnjfjdfjheiocaaGreatAgP
set_option linter.unusedSimpArgs false
set_option linter.unusedVariables false
namespace Go.Proofs.YtnjfjdfjheiocaaGreat
open Go.RowKit
/-- A number as it is packed. -/
def u64N (z : Int) : Nat := (z % 18446744073709551616).toNat
theorem u64N_lt (z : Int) : u64N z < 18446744073709551616 := by unfold u64N; omega
theorem wrap_u64N (z : Int) : IntKind.u64.wrap z = (u64N z : Nat) := by
  rw [wrap_u64]
  unfold u64N
  omega
def A8.z3 (a : A8) : List Int := [a.s, a.mn, a.mx]
def A8.h4 (a : A8) : List Int := [a.h0, a.h1, a.h2, a.h3]
def winB (p : Win × A8) : List Nat := vbytes (u64N (p.1.1.tdiv 10)) ++ (vbytes p.1.2.size ++ bytesOf p.1.2) ++ vbytes (u64N p.2.c) ++ p.2.z3.flatMap (fun z => vbytes (zig z)) ++ p.2.h4.flatMap fun z => vbytes (u64N z)
def codN (z : Int) : Nat := (z % 256).toNat
def enB (q : Int × Int × Int) : List Nat := vbytes (u64N q.1) ++ vbytes (u64N q.2.1) ++ [codN q.2.2]
/-- A state's bytes. -/
def packM (S : PSt) : List Nat := [1] ++ vbytes (u64N S.mark) ++ vbytes S.M.length ++ S.M.flatMap winB ++ (loL S.lo).flatMap (fun z => vbytes (u64N z)) ++ vbytes (upE S.cd 4).length ++ (upE S.cd 4).flatMap enB
/-- What is packed lies within bounds. -/
structure POk (S : PSt) : Prop where
  ml : S.M.length ≤ 1000
  cl : ∀ i, (S.cd i).length ≤ 1000
  cd : ∀ i, CdOk (S.cd i)
  key : ∀ p ∈ S.M, p.1.2.size ≤ 100
  st : ∀ p ∈ S.M, -9223372036854775808 ≤ p.1.1 ∧ p.1.1 < 9223372036854775808
  agg : ∀ p ∈ S.M, p.2.In
theorem flat_len {α : Type} {f : α → List Nat} {K : Nat} : ∀ {l : List α}, (∀ x ∈ l, (f x).length ≤ K) → (l.flatMap f).length ≤ l.length * K
  | [], _ => Nat.zero_le _
  | x :: l, h => by
    rw [List.flatMap_cons, List.length_append, List.length_cons]
    have h1 := h x List.mem_cons_self
    have h2 := flat_len (f := f) (K := K) (l := l) fun y hy => h y (List.mem_cons_of_mem _ hy)
    rw [Nat.add_mul]
    omega
theorem vb_le (z : Int) : (vbytes (u64N z)).length ≤ 10 := vbytes_le (u64N_lt z)
theorem zig_lt {z : Int} (h0 : -9223372036854775808 ≤ z) (h1 : z < 9223372036854775808) : zig z < 18446744073709551616 := by unfold zig; split <;> omega
theorem winB_le {p : Win × A8} (hk : p.1.2.size ≤ 100) (ha : p.2.In) : (winB p).length ≤ 200 := by
  unfold winB
  have e : (bytesOf p.1.2).length = p.1.2.size := bytesOf_len
  have h1 := vb_le (p.1.1.tdiv 10)
  have h2 := vbytes_le (x := p.1.2.size) (by omega)
  have h3 := vb_le p.2.c
  have h4 : (p.2.z3.flatMap fun z => vbytes (zig z)).length ≤ 3 * 10 := flat_len fun z hz => by
    obtain ⟨a1, a2, a3⟩ := ha
    unfold A8.z3 at hz
    simp only [List.mem_cons, List.not_mem_nil, or_false] at hz
    rcases hz with rfl | rfl | rfl
    · exact vbytes_le (zig_lt a1.1 a1.2)
    · exact vbytes_le (zig_lt a2.1 a2.2)
    · exact vbytes_le (zig_lt a3.1 a3.2)
  have h5 : (p.2.h4.flatMap fun z => vbytes (u64N z)).length ≤ 4 * 10 := flat_len fun z _ => vb_le z
  simp only [List.length_append]
  omega
theorem flat_take {α : Type} {f : α → List Nat} {l : List α} {j : Nat} (hj : j < l.length) : (l.take (j + 1)).flatMap f = (l.take j).flatMap f ++ f l[j] := by
  rw [List.take_succ_eq_append_getElem hj, List.flatMap_append]
  simp
theorem flat_take_len {α : Type} {f : α → List Nat} {K : Nat} {l : List α} (h : ∀ x ∈ l, (f x).length ≤ K) (j : Nat) : ((l.take j).flatMap f).length ≤ l.length * K := by
  have h1 := flat_len (l := l.take j) fun x hx => h x (List.mem_of_mem_take hx)
  have h2 : (l.take j).length ≤ l.length := by rw [List.length_take]; omega
  exact Nat.le_trans h1 (Nat.mul_le_mul_right K h2)
section
variable {w0 W w : World} {L R Y : List Thg} {A : Adr} {S : PSt} {go : Nat} {xs : List Nat} {v : Value}
theorem OutT.st (h : OutT go xs w0 (stT A S R) w) : ∃ v X, PRow 5 1 v xs.length (u8s xs) X ∧ LV w0 (stT A S (bk go #[v] 134 :: (X ++ R))) w := by
  obtain ⟨v, X, hr, hL⟩ := h
  exact ⟨v, X, hr, hL.perm (List.perm_append_comm_assoc (bk go #[v] 134 :: X) (stT A S []) R)⟩
theorem OutT.of {X : List Thg} (hr : PRow 5 1 v xs.length (u8s xs) X) (hL : LV w0 (Y ++ stT A S (bk go #[v] 134 :: (X ++ R))) w) : OutT go xs w0 (stT A S (Y ++ R)) w := by
  refine ⟨v, X, hr, hL.perm ?_⟩
  refine (List.perm_append_comm_assoc Y (stT A S []) _).trans ?_
  refine ((List.perm_append_comm_assoc Y (bk go #[v] 134 :: X) R).append_left (stT A S [])).trans ?_
  exact List.perm_append_comm_assoc (stT A S []) (bk go #[v] 134 :: X) (Y ++ R)
theorem OutT.lv (h : OutT go xs w0 L w) : LV w0 L w := by
  obtain ⟨v, X, _, hL⟩ := h
  exact hL.tail.dropl
/-- A box beside it. -/
theorem OutT.box {p : Thg} (h : OutT go xs w0 L w) {W' : World} (f : ∀ L', LV w0 L' w → LV w0 (p :: L') W') : OutT go xs w0 (p :: L) W' := by
  obtain ⟨v, X, hr, hL⟩ := h
  exact ⟨v, X, hr, (f _ hL).perm (List.perm_append_comm_assoc [p] (bk go #[v] 134 :: X) L)⟩
theorem OutT.unbox {p : Thg} (h : OutT go xs w0 (p :: L) w) : OutT go xs w0 L w := by
  obtain ⟨v, X, hr, hL⟩ := h
  exact ⟨v, X, hr, (hL.perm (List.perm_append_comm_assoc (bk go #[v] 134 :: X) [p] L)).tail⟩
theorem OutT.turn {p q : Thg} {W' : World} (h : OutT go xs w0 (p :: L) w) (f : ∀ L', LV w0 (p :: L') w → LV w0 (q :: L') W') : OutT go xs w0 (q :: L) W' := by
  obtain ⟨v, X, hr, hL⟩ := h
  have h2 := f _ (hL.perm (List.perm_append_comm_assoc (bk go #[v] 134 :: X) [p] L))
  exact ⟨v, X, hr, h2.perm (List.perm_append_comm_assoc [q] (bk go #[v] 134 :: X) L)⟩
/-- A row's elements, wherever the row stands in the list. -/
theorem prow_rdm {α : Type} {e : TypeId} {K : Nat} {enc : α → List Value} (hk : ∀ x, (enc x).length = K) {M : List α} {X : List Thg} (h : PRow e K v M.length (M.flatMap enc) X) : ∃ q c, v = .slice q M.length c ∧ ∀ (w0 : World) (L : List Thg) (w : World), (∀ p ∈ X, p ∈ L) → LV w0 L w → ∀ j (hj : j < M.length), ∃ ad, q = some ad ∧ ∀ (k : Nat) u, (enc M[j]).toArray[k]? = some u → w.cell? ((ad.add (j * K)).add k) = some u := by
  rcases h.2 with ⟨rfl, h0, rfl⟩ | ⟨g, cap, cur, rfl, rfl, h1, h2, h3, h4⟩
  · exact ⟨none, 0, by rw [h0], fun w0 L w _ _ j hj => by omega⟩
  · refine ⟨_, _, rfl, fun w0 L w hs hL j hj => ⟨_, rfl, fun k u hu => ?_⟩⟩
    have hm : bk g cur e ∈ L := hs _ List.mem_cons_self
    have hk2 : k < K := by
      have := (Array.getElem?_eq_some_iff.1 hu).1
      simpa [hk] using this
    have h5 := flat_get hk M j k hj hk2
    have h6 : j * K + k < M.length * K := by
      have := Nat.mul_le_mul_right K (show j + 1 ≤ M.length from hj)
      rw [Nat.add_mul] at this
      omega
    rw [← h4, List.getElem?_take, if_pos h6, Array.getElem?_toList] at h5
    have e : ((⟨g, 0, none⟩ : Addr).add (j * K)).add k = ⟨g, j * K + k, none⟩ := by
      unfold Addr.add
      by_cases hi0 : j * K = 0 <;> by_cases hk0 : k = 0 <;> simp [hi0, hk0]
    rw [e, hL.cl hm, h5]
    simpa using hu
theorem cv_u (z : Int) : (convert 2 47 (.int .i64 z)).run Tryz.prog w = .ok (.int .u64 (u64N z : Nat)) w := by
  have e := wrap_u64N z
  simp [go_sem, e]
theorem cv_un (z : Int) : (convert 3 47 (.int .i64 z)).run Tryz.prog w = .ok (.int .u64 (u64N z : Nat)) w := by
  have e := wrap_u64N z
  simp [go_sem, e]
theorem cv_ub (z : Int) : (convert 3 5 (.int .i64 z)).run Tryz.prog w = .ok (.int .u8 (codN z : Nat)) w := by
  have e : IntKind.u8.wrap z = (codN z : Nat) := by
    simp only [IntKind.wrap, show IntKind.u8.bits = 8 from rfl, show IntKind.u8.signed = false from rfl, Bool.false_and, Bool.false_eq_true, if_false]
    unfold codN
    omega
  simp [go_sem, e]
theorem quo_10 {z : Int} (h0 : -9223372036854775808 ≤ z) (h1 : z < 9223372036854775808) {t : TypeId} {X Y : Operand} : (EOp.bin .quo t X Y (.int .i64 z) (.int .i64 10)).run.run Tryz.prog w = .ok (.int .i64 (z.tdiv 10)) w := by
  have h2 : -9223372036854775808 ≤ z.tdiv 10 ∧ z.tdiv 10 < 9223372036854775808 := by
    rcases Int.le_total 0 z with h | h
    · rw [Int.tdiv_eq_ediv_of_nonneg h]; omega
    · have : z.tdiv 10 = -((-z).tdiv 10) := by rw [Int.neg_tdiv, Int.neg_neg]
      rw [this, Int.tdiv_eq_ediv_of_nonneg (by omega)]; omega
  have e : IntKind.i64.wrap (z.tdiv 10) = z.tdiv 10 := i64_idz h2.1 h2.2
  simp [go_sem, e]
set_option maxRecDepth 100000 in
theorem ix3 {a b c : Int} {k : Nat} (h : k < 3) : (Instr.index 138 (.agg #[.int .i64 a, .int .i64 b, .int .i64 c]) (.int .i64 (k : Nat))).run Tryz.prog w = .ok (.int .i64 ([a, b, c][k])) w := by
  match k, h with
  | 0, _ => exact (by kernel_rfl : (Instr.index 138 (.agg #[.int .i64 a, .int .i64 b, .int .i64 c]) (.int .i64 0)).run Tryz.prog w = .ok (.int .i64 a) w)
  | 1, _ => exact (by kernel_rfl : (Instr.index 138 (.agg #[.int .i64 a, .int .i64 b, .int .i64 c]) (.int .i64 1)).run Tryz.prog w = .ok (.int .i64 b) w)
  | 2, _ => exact (by kernel_rfl : (Instr.index 138 (.agg #[.int .i64 a, .int .i64 b, .int .i64 c]) (.int .i64 2)).run Tryz.prog w = .ok (.int .i64 c) w)
set_option maxRecDepth 100000 in
theorem ix4 {a b c d : Int} {k : Nat} (h : k < 4) : (Instr.index 53 (.agg #[.int .i64 a, .int .i64 b, .int .i64 c, .int .i64 d]) (.int .i64 (k : Nat))).run Tryz.prog w = .ok (.int .i64 ([a, b, c, d][k])) w := by
  match k, h with
  | 0, _ => exact (by kernel_rfl : (Instr.index 53 (.agg #[.int .i64 a, .int .i64 b, .int .i64 c, .int .i64 d]) (.int .i64 0)).run Tryz.prog w = .ok (.int .i64 a) w)
  | 1, _ => exact (by kernel_rfl : (Instr.index 53 (.agg #[.int .i64 a, .int .i64 b, .int .i64 c, .int .i64 d]) (.int .i64 1)).run Tryz.prog w = .ok (.int .i64 b) w)
  | 2, _ => exact (by kernel_rfl : (Instr.index 53 (.agg #[.int .i64 a, .int .i64 b, .int .i64 c, .int .i64 d]) (.int .i64 2)).run Tryz.prog w = .ok (.int .i64 c) w)
  | 3, _ => exact (by kernel_rfl : (Instr.index 53 (.agg #[.int .i64 a, .int .i64 b, .int .i64 c, .int .i64 d]) (.int .i64 3)).run Tryz.prog w = .ok (.int .i64 d) w)
theorem bd_3 {a b c : Int} : (Instr.build 138 #[(0, .int .i64 a), (1, .int .i64 b), (2, .int .i64 c)]).run Tryz.prog w = .ok (.agg #[.int .i64 a, .int .i64 b, .int .i64 c]) w := by
  simp [go_sem]
theorem bd_ou : (Instr.build 134 #[]).run Tryz.prog w = .ok (.agg #[.slice none 0 0]) w := by
  simp [go_sem]
theorem bx_ou {x : Value} : (Instr.box 134 (.agg #[x])).run Tryz.prog w = .ok (.pointer (some ⟨w.heap.size, 0, none⟩)) (w.alloc (.cells #[x] 134)) := by
  simp [go_sem]
end
end Go.Proofs.YtnjfjdfjheiocaaGreat
