/-
  Two sources beside each other; answers in any row.
-/
import Derived.Test.YthkeiclhllikjaaGreatRowS
set_option linter.unusedSimpArgs false
set_option linter.unusedVariables false
namespace Go.Proofs.YthkeiclhllikjaaGreat
open Go.RowKit
/-! Answers, in plain words. -/
/-- The code that a list has for an item. -/
def codeOf (cs : List Nat) (k : Int) : Int := if k - 1 < (cs.length : Int) then (((cs[(k - 1).toNat]?.getD 0) % 6 : Nat) : Int) else 1
def gOf (cs : List Nat) (i : Nat) : Nat := if 1 ≤ codeOf cs ((i + 1 : Nat) : Int) ∧ codeOf cs ((i + 1 : Nat) : Int) ≤ 4 then (codeOf cs ((i + 1 : Nat) : Int)).toNat else 0
/-- Of the items L those whose number is in D were answered. -/
def PartM (L M : List (PItem × Nat)) (g : Nat → Nat) (D : List Nat) : Prop := M.length = L.length ∧ ∀ i p, L[i]? = some p → M[i]? = some (p.1, if i + 1 ∈ D then g i else 0)
section
variable {L M M' : List (PItem × Nat)} {g : Nat → Nat} {D D' : List Nat} {S : PSrc} {k c : Int} {x : PItem} {cs : List Nat}
theorem part_nil (h : ∀ p ∈ L, p.2 = 0) : PartM L L g [] := ⟨rfl, fun i p hp => by
  rw [hp, if_neg (by simp), ← h p (List.mem_of_getElem? hp)]⟩
theorem part_eq (h : PartM L M g D) (h' : PartM L M' g D') (hd : ∀ i, i < L.length → i + 1 ∈ D) (hd' : ∀ i, i < L.length → i + 1 ∈ D') : M = M' := by
  apply List.ext_getElem?
  intro i
  by_cases hi : i < L.length
  · rw [h.2 i _ (List.getElem?_eq_getElem hi), h'.2 i _ (List.getElem?_eq_getElem hi), if_pos (hd i hi), if_pos (hd' i hi)]
  · rw [List.getElem?_eq_none (by rw [h.1]; omega), List.getElem?_eq_none (by rw [h'.1]; omega)]
theorem ansM_t : (ansM S k c).1.t = S.t := by unfold ansM; split <;> rfl
theorem ansM_src : (ansM S k c).1.src = S.src := by unfold ansM; split <;> rfl
theorem part_code (h : PartM L M g D) {i : Nat} (hi : i < L.length) : codeN M ((i + 1 : Nat) : Int) = if i + 1 ∈ D then g i else 0 := by
  unfold codeN
  rw [if_pos (by omega), show (((i + 1 : Nat) : Int) - 1).toNat = i by omega, h.2 i _ (List.getElem?_eq_getElem hi)]
  rfl
theorem part_step (h : PartM L S.L (gOf cs) D) {i : Nat} (hi : i < L.length) : PartM L (ansM S ((i + 1 : Nat) : Int) (codeOf cs ((i + 1 : Nat) : Int))).1.L (gOf cs) ((i + 1) :: D) := by
  have hc := part_code h hi
  have hlen := h.1
  -- what stays as it is
  have stay : (i + 1 ∈ D ∨ gOf cs i = 0) → PartM L S.L (gOf cs) ((i + 1) :: D) := fun hs => ⟨h.1, fun j p hp => by
    rw [h.2 j p hp]
    by_cases hj : j = i
    · subst hj
      rw [if_pos (List.mem_cons_self : j + 1 ∈ (j + 1) :: D)]
      rcases hs with hs | hs
      · rw [if_pos hs]
      · rw [hs]
        split <;> rfl
    · by_cases hm : j + 1 ∈ D
      · rw [if_pos hm, if_pos (List.mem_cons_of_mem _ hm)]
      · rw [if_neg hm, if_neg (by simp [hm, hj])]⟩
  unfold ansM
  by_cases ho : openB S.L ((i + 1 : Nat) : Int) = true
  · by_cases hg : 1 ≤ codeOf cs ((i + 1 : Nat) : Int) ∧ codeOf cs ((i + 1 : Nat) : Int) ≤ 4
    · rw [if_neg (by rw [ho, decide_eq_false (by omega), decide_eq_false (by omega)]; decide)]
      refine ⟨setA_len.trans h.1, fun j p hp => ?_⟩
      have hjl : j < L.length := (List.getElem?_eq_some_iff.1 hp).1
      have hSi : S.L[i]? = some (L[i].1, if i + 1 ∈ D then gOf cs i else 0) := h.2 i _ (List.getElem?_eq_getElem hi)
      show (setA S.L _ _)[j]? = _
      unfold setA
      rw [show (((i + 1 : Nat) : Int) - 1).toNat = i by omega, hSi]
      simp only
      rw [List.getElem?_set]
      by_cases hj : i = j
      · subst hj
        rw [if_pos rfl, if_pos (by omega), if_pos List.mem_cons_self]
        rw [List.getElem?_eq_getElem hi] at hp
        cases hp
        unfold gOf
        rw [if_pos hg]
      · rw [if_neg hj, h.2 j p hp]
        by_cases hm : j + 1 ∈ D
        · rw [if_pos hm, if_pos (List.mem_cons_of_mem _ hm)]
        · rw [if_neg hm, if_neg (by simp [hm]; omega)]
    · have e : ((!(openB S.L ((i + 1 : Nat) : Int)) || decide (codeOf cs ((i + 1 : Nat) : Int) < 1)) || decide (codeOf cs ((i + 1 : Nat) : Int) > 4)) = true := by
        rw [ho]
        simp only [Bool.not_true, Bool.false_or, Bool.or_eq_true, decide_eq_true_eq]
        omega
      rw [if_pos e]
      exact stay (.inr (by unfold gOf; rw [if_neg hg]))
  · have hof : openB S.L ((i + 1 : Nat) : Int) = false := by simpa using ho
    rw [if_pos (by rw [hof]; rfl)]
    refine stay (.inl ?_)
    have h3 : ¬ codeN S.L ((i + 1 : Nat) : Int) = 0 := fun h0 => ho (openB_iff.2 ⟨by omega, h0⟩)
    rw [hc] at h3
    by_cases hm : i + 1 ∈ D
    · exact hm
    · rw [if_neg hm] at h3
      exact absurd rfl h3
theorem part_ok (h : PartM L M g D) (ho : ∀ q ∈ L, q.1.Ok) : ∀ q ∈ M, q.1.Ok := fun q hq => by
  obtain ⟨i, hi, rfl⟩ := List.mem_iff_getElem.1 hq
  have hil : i < L.length := by have := h.1; omega
  have h2 := h.2 i _ (List.getElem?_eq_getElem hil)
  rw [List.getElem?_eq_getElem hi] at h2
  have h3 := Option.some.inj h2
  rw [h3]
  exact ho L[i] (List.getElem_mem hil)
theorem handle_ans {n : Int} (hn : S.src = n) : handleM S (ansMsg n k c) = ansM S k c := by
  unfold handleM
  rw [if_pos (by subst hn; simp [ansMsg])]
  rfl
/-- What has been sent alone: all is open; there are no more than 16. -/
structure Fresh (S : PSrc) (n : Int) (t : PTab) : Prop where
  src : S.src = n
  t : S.t = t
  open_ : ∀ p ∈ S.L, p.2 = 0
  ok : ∀ p ∈ S.L, p.1.Ok
  few : S.L.length ≤ 16
theorem fresh_low (h : ∀ p ∈ L, p.2 = 0) : lowN L = 1 := by
  cases L with
  | nil => rfl
  | cons p t =>
    unfold lowN
    rw [if_pos (h p (by simp))]
theorem fresh_send {n : Int} {t : PTab} (h : Fresh S n t) (hx : x.Ok) : Fresh (sendM S x).1 n t := by
  unfold sendM
  split
  · exact h
  split
  · exact h
  split
  · exact h
  split
  · exact h
  · rename_i hl
    rw [fresh_low h.open_] at hl
    refine ⟨h.src, h.t, fun p hp => ?_, fun p hp => ?_, ?_⟩
    · rcases List.mem_append.1 hp with hp | hp
      · exact h.open_ p hp
      · rcases List.mem_singleton.1 hp with rfl
        rfl
    · rcases List.mem_append.1 hp with hp | hp
      · exact h.ok p hp
      · rcases List.mem_singleton.1 hp with rfl
        exact ⟨hx.kind, hx.key, hx.at0, hx.at1, hx.n0, hx.n1⟩
    · show (S.L ++ [_]).length ≤ 16
      rw [List.length_append]
      simp only [List.length_cons, List.length_nil]
      omega
end
theorem turn_all7 : ∀ m, m < 17 → m % 7 ≠ 0 → ∀ t, t < m → ∀ k, k < m → ∃ i, i < m ∧ (i * 7 + t) % m = k := by decide +kernel
theorem turn_all1 : ∀ m, m < 17 → ∀ t, t < m → ∀ k, k < m → ∃ i, i < m ∧ (i + t) % m = k := by decide +kernel
/-- The number that the second source hears at the i-th step. -/
def rowQ (m turn i : Nat) : Nat := if m % 7 = 0 then (i + turn) % m else (i * 7 + turn) % m
theorem rowQ_all {m turn k : Nat} (hm : m < 17) (hk : k < m) : ∃ i, i < m ∧ rowQ m turn i = k := by
  have ht : turn % m < m := Nat.mod_lt _ (by omega)
  unfold rowQ
  by_cases h7 : m % 7 = 0
  · obtain ⟨i, hi, e⟩ := turn_all1 m hm (turn % m) ht k hk
    refine ⟨i, hi, ?_⟩
    rw [if_pos h7, ← e, Nat.add_mod_mod]
  · obtain ⟨i, hi, e⟩ := turn_all7 m hm h7 (turn % m) ht k hk
    refine ⟨i, hi, ?_⟩
    rw [if_neg h7, ← e, Nat.add_mod_mod]
/-! Two sources in one world. -/
abbrev srcs (p : Nat) (S : PSrc) (v : Value) (bo ba : Nat) (L : List Thg) : List Thg := bk p (srC S v bo ba) 60 :: mp bo (opE S.L) :: mp ba (anE S.L) :: L
/-- One source. -/
def OneS (w0 : World) (p bo ba : Nat) (S : PSrc) (w : World) : Prop :=
  ∃ v L, LV w0 (srcs p S v bo ba L) w ∧ ∀ w, LV w0 L w → Rd w v S.t.own
/-- Two. -/
def TwoS (w0 : World) (pa oa aa : Nat) (Sa : PSrc) (pb ob ab : Nat) (Sb : PSrc) (w : World) : Prop :=
  ∃ va vb L, LV w0 (srcs pa Sa va oa aa (srcs pb Sb vb ob ab L)) w ∧ (∀ w, LV w0 L w → Rd w va Sa.t.own) ∧ ∀ w, LV w0 L w → Rd w vb Sb.t.own
section
variable {w0 W w : World} {pa oa aa pb ob ab : Nat} {Sa Sb S : PSrc} {x : PItem} {k : Int} {m : PMsg} {vo vs v : Value} {L : List Thg}
theorem TwoS.symm (h : TwoS w0 pa oa aa Sa pb ob ab Sb w) : TwoS w0 pb ob ab Sb pa oa aa Sa w := by
  obtain ⟨va, vb, L, hL, ha, hb⟩ := h
  exact ⟨vb, va, L, hL.ab, hb, ha⟩
theorem TwoS.below (h : TwoS w0 pa oa aa Sa pb ob ab Sb w) : Below w0.heap.size w0 w := by
  obtain ⟨va, vb, L, hL, ha, hb⟩ := h
  exact hL.1
theorem TwoS.call (h : TwoS w0 pa oa aa Sa pb ob ab Sb W) (hb : Below W.heap.size W w) : TwoS w0 pa oa aa Sa pb ob ab Sb w := by
  obtain ⟨va, vb, L, hL, h⟩ := h
  exact ⟨va, vb, L, hL.call hb, h⟩
theorem two_send (h : TwoS w0 pa oa aa Sa pb ob ab Sb W) (hn : Sa.L.length < 100000) :
    Calls Tryz.prog 11 #[.pointer (some ⟨pa, 0, none⟩), .agg (itC x)] W fun e W' => e = .returned (.tuple #[.int .i64 (sendM Sa x).2.1, .int .i64 (sendM Sa x).2.2]) ∧ TwoS w0 pa oa aa (sendM Sa x).1 pb ob ab Sb W' := by
  obtain ⟨va, vb, L, hL, ha, hb⟩ := h
  refine (send_any (x := x) hL (ha _ hL.tail.tail.tail.tail.tail.tail) hn).mono ?_
  rintro e w ⟨rfl, hL2⟩
  have ht : (sendM Sa x).1.t = Sa.t := by
    unfold sendM
    split
    · rfl
    split
    · rfl
    split
    · rfl
    split <;> rfl
  exact ⟨rfl, va, vb, L, hL2, fun w h => by rw [ht]; exact ha w h, hb⟩
theorem two_handle (h : TwoS w0 pa oa aa Sa pb ob ab Sb W) (hm : ∀ w, Below w0.heap.size w0 w → Rd w vo m.owner) (hn : Sa.L.length < 100000) (k0 : -9223372036854775808 ≤ m.iseq) (k1 : m.iseq < 9223372036854775808)
    (l1 : Sa.t.own.length ≤ 1000000000000) (l2 : m.owner.length ≤ 1000000000000) (hs : vs.oneCell' = true) :
    Calls Tryz.prog 12 #[.pointer (some ⟨pa, 0, none⟩), .agg (mcells m vo vs)] W fun e W' => e = .returned (.bool (handleM Sa m).2) ∧ TwoS w0 pa oa aa (handleM Sa m).1 pb ob ab Sb W' := by
  obtain ⟨va, vb, L, hL, ha, hb⟩ := h
  refine (handle_two hL (fun w h => ha w h.tail.tail.tail) (fun w h => hm w h.1) hn k0 k1 l1 l2 hs).mono ?_
  rintro e w ⟨v', X, rfl, hL2, hd⟩
  refine ⟨rfl, v', vb, X ++ L, hL2.perm ?_, ?_, fun w h => hb w h.dropl⟩
  · exact ((List.perm_append_comm_assoc X [_, _, _] L).cons _).cons _ |>.cons _
  · rcases hd with ⟨rfl, hd⟩ | hd
    · intro w h
      rw [hd]
      exact ha w h.dropl
    · exact hd L
theorem two_last (h : TwoS w0 pa oa aa Sa pb ob ab Sb W) : Calls Tryz.prog 19 #[.pointer (some ⟨pa, 0, none⟩)] W fun e W' => e = .returned (.int .i64 (Sa.L.length : Nat)) ∧ W' = W := by
  obtain ⟨va, vb, L, hL, ha, hb⟩ := h
  exact last_any hL.at_
theorem two_low (h : TwoS w0 pa oa aa Sa pb ob ab Sb W) : Calls Tryz.prog 14 #[.pointer (some ⟨pa, 0, none⟩)] W fun e W' => e = .returned (.int .i64 (lowN Sa.L : Nat)) ∧ W' = W := by
  obtain ⟨va, vb, L, hL, ha, hb⟩ := h
  exact low_any hL.at_
theorem two_alike (h : TwoS w0 pa oa aa S pb ob ab S W) (hn : S.L.length < 100000) (l1 : S.t.own.length ≤ 1000000000000) (hok : ∀ q ∈ S.L, q.1.Ok) (s0 : 0 ≤ S.src) (s1 : S.src < 1000) :
    Calls Tryz.prog 29 #[.pointer (some ⟨pa, 0, none⟩), .pointer (some ⟨pb, 0, none⟩)] W fun e W' => e = .returned (.bool true) ∧ Below w0.heap.size w0 W' := by
  obtain ⟨va, vb, L, hL, ha, hb⟩ := h
  exact alike_any hL ha hb hn l1 hok s0 s1
/-- A second one is made. -/
theorem two_new {t : PTab} {R : List Blk} {v' : Value} (hL : LV w0 (srcs pa Sa v oa aa L) W) (ha : ∀ w, LV w0 L w → Rd w v Sa.t.own) (hr : RowIs 3 v' (ints t.own) R) (hS : Sb.t = t)
    (hL2 : LV W (srcs pb Sb v' ob ab (lift R)) w) : TwoS w0 pa oa aa Sa pb ob ab Sb w := by
  refine ⟨v, v', lift R ++ L, (hL.joinV hL2).perm ?_, fun w h => ha w h.dropl, fun w h => by rw [hS]; exact rd_row hr w h⟩
  have e1 : (srcs pb Sb v' ob ab (lift R) ++ srcs pa Sa v oa aa L).Perm (srcs pb Sb v' ob ab (srcs pa Sa v oa aa (lift R ++ L))) :=
    (((List.perm_append_comm_assoc (lift R) [_, _, _] L).cons _).cons _).cons _
  refine e1.trans ?_
  exact (List.perm_append_comm (l₁ := [_, _, _]) (l₂ := [_, _, _])).append_right (lift R ++ L)
end
section
variable {w0 W w : World} {cs : List Nat} {n k : Int} {v : Value}
def u8C (x : Nat) : Array Value := #[.int .u8 (x : Nat)]
theorem cv_u8i {x : Nat} (h : x < 256) : (convert 5 3 (.int .u8 (x : Nat))).run Tryz.prog w = .ok (.int .i64 (x : Nat)) w := by
  have e : IntKind.wrap .i64 (x : Nat) = (x : Int) := i64_id (by omega) (by omega)
  simp [go_sem, e]
theorem B_rem {X Y : Operand} (x y : Nat) (h0 : y ≠ 0) (h1 : y < 1000000) (h2 : x < 1000000000) : ((do eqGuard .rem 3 X Y (.int .i64 (x : Nat)) (.int .i64 (y : Nat)); binOp .rem 3 (.int .i64 (x : Nat)) (.int .i64 (y : Nat))) : Sem Value).run Tryz.prog w = .ok (.int .i64 (x % y : Nat)) w := by
  have hm : x % y ≤ x := Nat.mod_le x y
  have e : IntKind.wrap .i64 ((x % y : Nat) : Int) = ((x % y : Nat) : Int) := i64_id (by omega) (by omega)
  have hy : ¬ ((y : Int) = 0) := by omega
  simp [go_sem, hy, h0, Int.tmod_eq_emod_of_nonneg, ← Int.natCast_emod, e]
theorem B_subI {X Y : Operand} (x y : Int) (h0 : -9223372036854775808 ≤ x - y) (h1 : x - y < 9223372036854775808) : ((do eqGuard .sub 3 X Y (.int .i64 x) (.int .i64 y); binOp .sub 3 (.int .i64 x) (.int .i64 y)) : Sem Value).run Tryz.prog w = .ok (.int .i64 (x - y)) w := by
  have e : IntKind.wrap .i64 (x - y) = x - y := i64_id h0 h1
  simp [go_sem, e]
theorem B_mulI {X Y : Operand} (x y : Int) (h0 : -9223372036854775808 ≤ x * y) (h1 : x * y < 9223372036854775808) : ((do eqGuard .mul 3 X Y (.int .i64 x) (.int .i64 y); binOp .mul 3 (.int .i64 x) (.int .i64 y)) : Sem Value).run Tryz.prog w = .ok (.int .i64 (x * y)) w := by
  have e : IntKind.wrap .i64 (x * y) = x * y := i64_id h0 h1
  simp [go_sem, e]
theorem ix_u8R {a : Addr} {n c : Nat} {z : Int} {j : Nat} (hz : z = (j : Nat)) (h : j < n) : (Instr.indexAt 72 (.slice (some a) n c) (.int .i64 z)).run Tryz.prog w = .ok (.pointer (some (a.add (j * 1)))) w := by subst hz; exact ix_u8A h
theorem mg_results {f : Func} {i : Nat} (hf : f.results = #[.cell i 37]) {tmps : Array Value} {w : World} {g : Nat} {m : PMsg} {vo vs : Value} (hp : tmps.getD i undef = .pointer (some ⟨g, 0, none⟩)) (hg : w.heap[g]? = some (.cells (mcells m vo vs) 37 (0, 0))) :
    (results f tmps).run Tryz.prog w = .ok (.agg (mcells m vo vs)) w :=
  results_cell_row hf _ _ g 37 _ (0, 0) _ hp hg Tryz.underlying37 rfl (mcells_info _ _ _)
set_option maxRecDepth 100000 in
set_option maxHeartbeats 1000000 in
theorem ans_any (hc : RdC W 1 v (cs.map u8C)) (hlt : ∀ x ∈ cs, x < 256) (hl : cs.length ≤ 1000000000) (k0 : 1 ≤ k) (k1 : k < 1000000000) : Calls Tryz.prog 30 #[.int .i64 n, .int .i64 k, v] W fun e W' =>
    e = .returned (.agg (mcells (ansMsg n k (codeOf cs k)) (.slice none 0 0) (.slice none 0 0))) ∧ Below W.heap.size W W' := by
  obtain ⟨A, c, rfl⟩ := hc.slc
  rw [List.length_map] at *
  have K1 : ∀ {w}, Below W.heap.size W w → RdC w 1 (.slice A cs.length c) (cs.map u8C) := fun hb => hc.kept fun k hk => hb.block k hk
  have hL := LV.init W
  obtain ⟨j, rfl⟩ : ∃ j : Nat, k = ((j + 1 : Nat) : Int) := ⟨(k - 1).toNat, by omega⟩
  obtain ⟨co, hco⟩ : ∃ co, co = codeOf cs ((j + 1 : Nat) : Int) := ⟨_, rfl⟩
  rw [← hco]
  go_enter Tryz.func30, Tryz.ntmps30
  refine wp_fr (n := 25) (m := [(0, _), (1, _), (2, _)]) ⟨rfl, rfl, by intro p hp; simp only [List.mem_cons, List.not_mem_nil, or_false] at hp; rcases hp with rfl | rfl | rfl <;> rfl⟩ fun a0 H0 => ?_
  repeat (go_not_at_region 0; go_step)
  refine wp_region_lit ?_
  refine h_opS [bk W.heap.size zcells 37] H0 rfl (wn rfl) (R_alloc rfl al_mg) (hL.alloc _ _) rfl (P4 6 0 1 2 rfl rfl rfl rfl) fun a1 w1 H1 hL' => ?_
  replace hL := hL'
  clear H0 hL'
  refine h_end ?_
  repeat (go_not_at_region 1; go_step)
  refine wp_region_lit ?_
  refine h_op H1 rfl (wn rfl) (R_as H1 rfl rfl) rfl (P5 7 6 0 1 2 rfl rfl rfl rfl rfl) fun a2 H2 => ?_
  clear H1
  refine h_end ?_
  by_cases hj : j < cs.length
  · repeat (go_not_at_region 2; go_step)
    refine wp_region_lit ?_
    refine h_op H2 rfl (wn rfl) (R_mv H2 rfl rfl) rfl (P6 8 7 6 0 1 2 rfl rfl rfl rfl rfl rfl) fun a3 H3 => ?_
    clear H2
    refine h_op H3 rfl (wn rfl) (R_bin H3 rfl rfl rfl (B_subI _ _ (by omega) (by omega))) rfl (P6 9 7 6 0 1 2 rfl rfl rfl rfl rfl rfl) fun a4 H4 => ?_
    clear H3
    refine h_op H4 rfl (wn rfl) (R_mv H4 rfl rfl) rfl (P7 10 9 7 6 0 1 2 rfl rfl rfl rfl rfl rfl rfl) fun a5 H5 => ?_
    clear H4
    refine h_op H5 rfl (wn rfl) (R_lenS H5 rfl rfl Tryz.underlying72) rfl (P7 11 9 7 6 0 1 2 rfl rfl rfl rfl rfl rfl rfl) fun a6 H6 => ?_
    clear H5
    refine h_op H6 rfl (wn rfl) (R_bin H6 rfl rfl rfl (B_to (y := true) (B_lt Tryz.underlying3 _ _) (decide_eq_true (by omega)))) rfl (P6 12 7 6 0 1 2 rfl rfl rfl rfl rfl rfl) fun a7 H7 => ?_
    clear H6
    refine h_end ?_
    repeat (go_not_at_region 3; go_step)
    refine wp_cond_true (H7.ev (x := .tmp 12) rfl) ?_
    obtain ⟨a, rfl, hel⟩ := (K1 hL.1).elem (List.length_map _) hj
    have he0 := hel 0 (.int .u8 (cs[j] : Nat)) (by rw [List.getElem_map]; rfl)
    rw [show ((a.add (j * 1)).add 0) = a.add (j * 1) from by unfold Addr.add; simp] at he0
    have hx := hlt _ (List.getElem_mem hj)
    have hcv : co = ((cs[j] % 6 : Nat) : Int) := by
      rw [hco]
      unfold codeOf
      rw [if_pos (by omega), show (((j + 1 : Nat) : Int) - 1).toNat = j by omega, List.getElem?_eq_getElem hj]
      rfl
    repeat (go_not_at_region 3; go_step)
    refine wp_region_lit ?_
    refine h_op H7 rfl (wn rfl) (R_mv H7 rfl rfl) rfl (P5 13 7 6 0 1 rfl rfl rfl rfl rfl) fun a8 H8 => ?_
    clear H7
    refine h_op H8 rfl (wn rfl) (R_mv H8 rfl rfl) rfl (P6 14 13 7 6 0 1 rfl rfl rfl rfl rfl rfl) fun a9 H9 => ?_
    clear H8
    refine h_op H9 rfl (wn rfl) (R_bin H9 rfl rfl rfl (B_subI _ _ (by omega) (by omega))) rfl (P6 15 13 7 6 0 1 rfl rfl rfl rfl rfl rfl) fun a10 H10 => ?_
    clear H9
    refine h_op H10 rfl (wn rfl) (R_ixa H10 rfl rfl rfl (ix_u8R (j := j) (by omega) hj)) rfl (P5 16 7 6 0 1 rfl rfl rfl rfl rfl) fun a11 H11 => ?_
    clear H10
    refine h_op H11 rfl (wn rfl) (R_ld H11 rfl rfl (ld_u8A he0)) rfl (P5 17 7 6 0 1 rfl rfl rfl rfl rfl) fun a12 H12 => ?_
    clear H11
    refine h_op H12 rfl (wn rfl) (R_cv H12 rfl rfl (cv_u8i hx)) rfl (P5 18 7 6 0 1 rfl rfl rfl rfl rfl) fun a13 H13 => ?_
    clear H12
    refine h_op H13 rfl (wn rfl) (R_bin H13 rfl rfl rfl (B_rem _ 6 (by decide) (by decide) (by omega))) rfl (P5 19 7 6 0 1 rfl rfl rfl rfl rfl) fun a14 H14 => ?_
    clear H13
    refine h_op H14 rfl (wn rfl) (R_as H14 rfl rfl) rfl (P4 7 6 0 1 rfl rfl rfl rfl) fun a15 H15 => ?_
    clear H14
    refine h_end ?_
    subst hcv
    repeat (go_not_at_region 4; go_step)
    repeat (go_not_at_region 4; go_step)
    refine wp_region_lit ?_
    refine h_op H15 rfl (wn rfl) (R_mv H15 rfl rfl) rfl (P4 20 7 6 1 rfl rfl rfl rfl) fun a16 H16 => ?_
    clear H15
    refine h_op H16 rfl (wn rfl) (R_mv H16 rfl rfl) rfl (P4 21 20 7 6 rfl rfl rfl rfl) fun a17 H17 => ?_
    clear H16
    refine h_op H17 rfl (wn rfl) (R_bd2 H17 rfl rfl rfl bd_it2) rfl (P3 22 7 6 rfl rfl rfl) fun a18 H18 => ?_
    clear H17
    refine h_op H18 rfl (wn rfl) (R_mv H18 rfl rfl) rfl (P3 23 22 6 rfl rfl rfl) fun a19 H19 => ?_
    clear H18
    refine h_op H19 rfl (wn rfl) (R_bd3 H19 rfl rfl rfl rfl bd_ans) rfl (P2 24 6 rfl rfl) fun a20 H20 => ?_
    clear H19
    refine h_stS [bk W.heap.size (mcells (ansMsg n ((j + 1 : Nat) : Int) ((cs[j] % 6 : Nat) : Int)) (.slice none 0 0) (.slice none 0 0)) 37] H20 rfl (wn rfl) (R_st H20 rfl rfl rfl (st_mg hL.at_ (mcells_one rfl rfl))) (hL.row _) fun a21 w21 H21 hL' => ?_
    replace hL := hL'
    clear H20 hL'
    refine h_end ?_
    repeat (go_not_at_region 999; go_step)
    refine bodyPost_ret (v := .agg (mcells (ansMsg n ((j + 1 : Nat) : Int) ((cs[j] % 6 : Nat) : Int)) (.slice none 0 0) (.slice none 0 0))) (mg_results rfl (H21.getD rfl) hL.at_) H21.1 ⟨rfl, hL.1⟩
  · repeat (go_not_at_region 2; go_step)
    refine wp_region_lit ?_
    refine h_op H2 rfl (wn rfl) (R_mv H2 rfl rfl) rfl (P6 8 7 6 0 1 2 rfl rfl rfl rfl rfl rfl) fun a3 H3 => ?_
    clear H2
    refine h_op H3 rfl (wn rfl) (R_bin H3 rfl rfl rfl (B_subI _ _ (by omega) (by omega))) rfl (P6 9 7 6 0 1 2 rfl rfl rfl rfl rfl rfl) fun a4 H4 => ?_
    clear H3
    refine h_op H4 rfl (wn rfl) (R_mv H4 rfl rfl) rfl (P7 10 9 7 6 0 1 2 rfl rfl rfl rfl rfl rfl rfl) fun a5 H5 => ?_
    clear H4
    refine h_op H5 rfl (wn rfl) (R_lenS H5 rfl rfl Tryz.underlying72) rfl (P7 11 9 7 6 0 1 2 rfl rfl rfl rfl rfl rfl rfl) fun a6 H6 => ?_
    clear H5
    refine h_op H6 rfl (wn rfl) (R_bin H6 rfl rfl rfl (B_to (y := false) (B_lt Tryz.underlying3 _ _) (decide_eq_false (by omega)))) rfl (P6 12 7 6 0 1 2 rfl rfl rfl rfl rfl rfl) fun a7 H7 => ?_
    clear H6
    refine h_end ?_
    repeat (go_not_at_region 4; go_step)
    refine wp_cond_false (H7.ev (x := .tmp 12) rfl) ?_
    have hcv : co = 1 := by
      rw [hco]
      unfold codeOf
      rw [if_neg (by omega)]
    subst hcv
    repeat (go_not_at_region 4; go_step)
    repeat (go_not_at_region 4; go_step)
    refine wp_region_lit ?_
    refine h_op H7 rfl (wn rfl) (R_mv H7 rfl rfl) rfl (P4 20 7 6 1 rfl rfl rfl rfl) fun a8 H8 => ?_
    clear H7
    refine h_op H8 rfl (wn rfl) (R_mv H8 rfl rfl) rfl (P4 21 20 7 6 rfl rfl rfl rfl) fun a9 H9 => ?_
    clear H8
    refine h_op H9 rfl (wn rfl) (R_bd2 H9 rfl rfl rfl bd_it2) rfl (P3 22 7 6 rfl rfl rfl) fun a10 H10 => ?_
    clear H9
    refine h_op H10 rfl (wn rfl) (R_mv H10 rfl rfl) rfl (P3 23 22 6 rfl rfl rfl) fun a11 H11 => ?_
    clear H10
    refine h_op H11 rfl (wn rfl) (R_bd3 H11 rfl rfl rfl rfl bd_ans) rfl (P2 24 6 rfl rfl) fun a12 H12 => ?_
    clear H11
    refine h_stS [bk W.heap.size (mcells (ansMsg n ((j + 1 : Nat) : Int) 1) (.slice none 0 0) (.slice none 0 0)) 37] H12 rfl (wn rfl) (R_st H12 rfl rfl rfl (st_mg hL.at_ (mcells_one rfl rfl))) (hL.row _) fun a13 w13 H13 hL' => ?_
    replace hL := hL'
    clear H12 hL'
    refine h_end ?_
    repeat (go_not_at_region 999; go_step)
    refine bodyPost_ret (v := .agg (mcells (ansMsg n ((j + 1 : Nat) : Int) 1) (.slice none 0 0) (.slice none 0 0))) (mg_results rfl (H13.getD rfl) hL.at_) H13.1 ⟨rfl, hL.1⟩
end
end Go.Proofs.YthkeiclhllikjaaGreat
