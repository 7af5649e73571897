/-
  msg.numbers, by whichever walker.
-/
import Derived.Test.YthkeiclhllikjaaGreatMsgItem
import Derived.Test.YthkeiclhllikjaaGreatMsgClone
import Derived.Deep.RegionLaw
set_option linter.unusedSimpArgs false
set_option linter.unusedVariables false
namespace Go.Proofs.YthkeiclhllikjaaGreat
open Go.RowKit
def loopM (K : WSem) : K.σ → List Int → Except Int (List Int × K.σ)
 | st, [] => .ok ([], st)
 | st, x :: xs => match K.num st x with
  | .error f => .error f
  | .ok (v, st') => match loopM K st' xs with
   | .error f => .error f
   | .ok (vs, st2) => .ok (v :: vs, st2)
def numsM (K : WSem) (st : K.σ) (l : List Int) (most : Int) : Except Int (List Int × K.σ) :=
 match K.count st l.length most with
 | .error f => .error f
 | .ok (n, st') => loopM K st' ((List.range n.toNat).map fun j => l.getD j 0)
theorem RowIs.shapeI {v : Value} {l : List Int} {R : List Blk} (h : RowIs 3 v (ints l) R) : ∃ a c, v = .slice a l.length c := by
 rcases h with ⟨rfl, hx, _⟩ | ⟨g, cap, cur, rfl, _⟩
 ·have : l = [] := by simpa [ints] using hx
  subst this
  exact ⟨_, _, rfl⟩
 ·exact ⟨_, cap, by rw [ints_length]⟩
theorem RowIs.cellI {a : Option Addr} {c j : Nat} {l : List Int} {R : List Blk} (h : RowIs 3 (.slice a l.length c) (ints l) R) (hj : j < l.length) :
  ∃ g cur, a = some ⟨g, 0, none⟩ ∧ R = [(g, cur, 3)] ∧ cur[j]? = some (.int .i64 (l.getD j 0)) := by
 rcases h with ⟨hv, hx, _⟩ | ⟨g, cap, cur, hv, hR, h1, h2, h3, h4⟩
 ·have : l = [] := by simpa [ints] using hx
  subst this
  simp at hj
 ·rw [ints_length] at hv
  cases hv
  refine ⟨g, cur, rfl, hR, ?_⟩
  have h5 : (cur.toList.take (ints l).length)[j]? = (ints l)[j]? := by rw [h4]
  rw [List.getElem?_take, if_pos (by rw [ints_length]; exact hj)] at h5
  rw [← Array.getElem?_toList, h5]
  simp [ints, List.getD, hj]
theorem Live.dropl {w0 W : World} {L : List Blk} : ∀ {X : List Blk}, Live w0 (X ++ L) W → Live w0 L W
 | [], h => h
 | _ :: X, h => Live.dropl (X := X) h.tail
theorem Live.rowUp {w0 W : World} {B R X : List Blk} {a b : Blk} (h : Live w0 (B ++ a :: b :: (R ++ X)) W) : Live w0 (R ++ (B ++ a :: b :: X)) W := by
 have hp : (B ++ a :: b :: (R ++ X)).Perm (R ++ (B ++ a :: b :: X)) := by simpa using List.perm_append_comm_assoc (B ++ [a, b]) R X
 exact h.perm hp
theorem Live.endRound {w0 W : World} {B R X : List Blk} {x y q : Blk} (h : Live w0 (R ++ y :: (B ++ x :: q :: X)) W) : Live w0 (q :: (B ++ (R ++ X))) W := by
 have h1 : Live w0 (R ++ (B ++ x :: q :: X)) W := (h.perm List.perm_middle).tail
 have h2 : Live w0 (B ++ (R ++ x :: q :: X)) W := h1.perm (List.perm_append_comm_assoc _ _ _)
 have hp : (R ++ x :: q :: X).Perm (x :: q :: (R ++ X)) := (List.perm_middle).trans ((List.perm_middle).cons x)
 have h3 : Live w0 (B ++ x :: q :: (R ++ X)) W := h2.perm (hp.append_left B)
 exact ((h3.perm List.perm_middle).tail).perm List.perm_middle
theorem get_set {A : Array Value} {i : Nat} {u : Value} (h : A[i]? = some u) (v : Value) : (A.setIfInBounds i v)[i]? = some v := by
 have hi := (Array.getElem?_eq_some_iff.1 h).1
 simp [hi]
theorem Live.dropMid {w0 W : World} {B R X L : List Blk} {q : Blk} (h : Live w0 (B ++ q :: (R ++ (X ++ L))) W) : Live w0 (B ++ q :: (R ++ L)) W := by
 have hp : (B ++ q :: (R ++ (X ++ L))).Perm (X ++ (B ++ q :: (R ++ L))) := by simpa using List.perm_append_comm_assoc (B ++ q :: R) X L
 exact (h.perm hp).dropl
theorem set_set {A : Array Value} {i : Nat} (u v : Value) : (A.setIfInBounds i u).setIfInBounds i v = A.setIfInBounds i v := by simp
theorem pad_drop {l : List Int} {N j : Nat} (h : j < N) : ((List.range N).map fun j => l.getD j 0).drop j = l.getD j 0 :: ((List.range N).map fun j => l.getD j 0).drop (j + 1) := by
 rw [List.drop_eq_getElem_cons (by simpa using h)]
 simp
def prep {X : Type} (ys : List Int) (r : Except Int (List Int × X)) : Except Int (List Int × X) :=
 match r with
 | .ok (zs, s) => .ok (ys ++ zs, s)
 | .error f => .error f
theorem prep_step {K : WSem} {rS : Except Int (List Int × K.σ)} {ys xs : List Int} {st st' : K.σ} {x v : Int} (h : rS = prep ys (loopM K st (x :: xs))) (hc : K.num st x = .ok (v, st')) :
  rS = prep (ys ++ [v]) (loopM K st' xs) := by
 rw [h, loopM, hc]
 simp only [prep]
 cases hl : loopM K st' xs <;> simp [prep]
theorem prep_nil {X : Type} (r : Except Int (List Int × X)) : prep [] r = r := by cases r <;> rfl
section
variable {P : Program} {w0 w : World} {B L : List Blk} {ops : Array Oper}
theorem step_append_row {o : Oper} {a : Act} {K : Act → World → Prop} {Q : Exit → Act → World → Prop} {E : Prop} (hgd : o.guard = none) (s x : Operand) (t : TypeId)
  (ho : o.op = .call { callee := .builtin .append, args := #[s, x], argTypes := #[t, t] })
  (e : TypeId) (i : TypeInfo) (z : Value) (bytes : Nat) (ht : P.underlying t = some (.slice e)) (hi : P.info? e = some i) (hz : i.zero = some z)
  (hsize : i.size = 1) (hby : i.bytes = bytes) (hzs : z.cells.size = 1)
  (v : Value) (xs : List Value) (hs : a.eval s = v) (hr : RowIs e v xs B) (h : Live w0 (B ++ L) w)
  (ad : Addr) (m c : Nat) (news : List Value) (hx : a.eval x = .slice (some ad) m c) (hl : news.length = m) (hnews : ∀ j u, news[j]? = some u → w.cell? (ad.add j) = some u) (h1 : ∀ u ∈ news, u.oneCell' = true)
  (h63 : xs.length + m ≤ maxLen) (hbytes : (xs.length + m) * bytes ≤ 140737488355328)
  (hk : ∀ an nn cn w' B', RowIs e (.slice an nn cn) (xs ++ news) B' → Live w0 (B' ++ L) w' → K (a.put o.dst (.slice an nn cn)) w') :
  if Region.wanted o (yielded ops a.tmps) = true then Oper.wp P o a w K Q else E := by
 have hw : Region.wanted o (yielded ops a.tmps) = true := by simp [Region.wanted, hgd]
 rw [if_pos hw]
 obtain ⟨v', w', hrun, hown, hg, hnil, hat⟩ := run_append_own_at (P := P) w w0.heap.size t o.type e i z 1 bytes ht hi hz hsize hby hzs (by decide) v xs.length xs (hr.owns h) ad m c news (by simpa using hl) hnews h1 h63 hbytes h.1.size
 obtain ⟨B', hr', hL'⟩ := hr.grow h hown hg hat
 obtain ⟨an, nn, cn, rfl⟩ := hr'.shape
 unfold Oper.wp execOp
 simp only [ho, resolve, invoke, builtin, Sem.run_bind, Sem.run_pure, Result.andThen_ok, List.map_toArray, List.map_cons, List.map_nil, hs, hx, hrun]
 exact hk _ _ _ _ B' hr' hL'
end
section
variable {K : Wkr} {w0 W : World} {L B : List Blk} {p k i : Nat} {t : TypeId} {st : K.σ} {A : Array Value} {v : Value} {l : List Int} {most : Int}
set_option maxHeartbeats 4000000 in
set_option maxRecDepth 100000 in
theorem numbers_any (hm : 0 ≤ most) (hmm : most ≤ 1024) (hv : Rd w0 v l) (hl : l.length ≤ 1000000000000) (hA : A[i]? = some v) (hr : K.rep (k + most.toNat + 1) st B) (h : Live w0 (B ++ (p, A, t) :: L) W) :
  Calls Tryz.prog 111 #[.iface K.T (.pointer (some ⟨K.r, 0, none⟩)), .pointer (some ⟨p, i, none⟩), .int .i64 most] W fun e W' =>
   Said (numsM K st l most) (fun x => e = .returned (.tuple #[]) ∧ ∃ v' R B', K.rep k x.2 B' ∧ RowIs 3 v' (ints x.1) R ∧ Live w0 (B' ++ (p, A.setIfInBounds i v', t) :: (R ++ L)) W') (fun f => e = gave f ∧ Live w0 L W') := by
 obtain ⟨i0, hi, hz0, hz1, hz2⟩ := info_parts infoInt
 have hmf : ∀ (fn : Fn) (first cap : Array Value) (w : World), (Instr.makeFunc fn first cap).run Tryz.prog w = .ok (.func fn first cap) w := fun _ _ _ _ => rfl
 have hm1 := K.m_num
 have hn1 := K.n_num
 have he1 := K.e_num
 have hm2 := K.m_count
 have hn2 := K.n_count
 have he2 := K.e_count
 obtain ⟨c, hcv⟩ : ∃ a c, v = .slice a l.length c := by
  rcases hv with ⟨rfl, rfl⟩ | ⟨a, c, rfl, _⟩
  ·exact ⟨none, 0, rfl⟩
  ·exact ⟨some a, c, rfl⟩
 obtain ⟨cc, rfl⟩ := hcv
 have cp : W.cell? ⟨p, i, none⟩ = some (.slice c l.length cc) := by rw [cells_at (h.mem_at (g := p) (A := A) (t := t) (by simp))]; exact hA
 have Hl := Lib.hid hl
 have Hm := Lib.hid hm
 have Hmm := Lib.hid hmm
 have Hv := Lib.hid hv
 obtain ⟨rS, hrS⟩ : ∃ r, r = numsM K st l most := ⟨_, rfl⟩
 rw [← hrS]
 have HrS := Lib.hid hrS
 clear hl hm hmm hrS hv
 go_enter Tryz.func111, Tryz.ntmps111
 go_wp2_with fail
 go_still_tail 9, (by kernel_rfl)
 change wpList _ _ _ _ _ (World.drew W)
 have g1 := h.drew
 generalize World.drew W = X1 at *
 go_wp2_with fail
 refine (K.c_count (st := st) (k := k + most.toNat) hr g1 (by omega) (by have := Hl.out; omega) Hm.out Hmm.out).mono ?_
 intro e W1 hs
 unfold Said at hs
 split at hs
 rotate_left
 ·rename_i f hc
  obtain ⟨rfl, hL⟩ := hs
  refine ⟨rfl, ?_⟩
  rw [HrS.out, numsM, hc]
  exact ⟨rfl, hL.perm (List.perm_middle (l₁ := []) ) |>.tail⟩
 rename_i x hc
 obtain ⟨n, st1⟩ := x
 obtain ⟨rfl, hn0, hnm, B1, hr1, h1⟩ := hs
 have hrS1 : rS = loopM K st1 ((List.range n.toNat).map fun j => l.getD j 0) := by rw [HrS.out, numsM, hc]
 have HrS1 := Lib.hid hrS1
 clear hrS1
 clear hc HrS
 have cp1 : W1.cell? ⟨p, i, none⟩ = some (.slice c l.length cc) := by rw [cells_at (h1.mem_at (g := p) (A := A) (t := t) (by simp))]; exact hA
 go_wp2_with fail
 refine (clone_ok (Hv.out.kept fun k hk => h1.1.block k hk) h1 Hl.out).mono ?_
 rintro e W2 ⟨lv, Rl, rfl, hrl, h2⟩
 obtain ⟨la, lc, rfl⟩ := hrl.shapeI
 have cp2 : W2.cell? ⟨p, i, none⟩ = some (.slice c l.length cc) := by rw [cells_at (h2.mem_at (g := p) (A := A) (t := t) (by simp))]; exact hA
 have h3 : Live w0 ((p, A, t) :: (B1 ++ (Rl ++ L))) W2 := h2.perm (by
  refine (List.perm_append_comm_assoc _ _ _).trans ?_
  refine (List.Perm.append_left _ (List.perm_middle (l₁ := Rl))).trans ?_
  exact List.perm_middle)
 have tp2 := h3.thaw i
 go_wp2_with fail
 have h4 := h3.put i (.slice none 0 0)
 obtain ⟨N, rfl⟩ : ∃ N : Nat, n = N := ⟨n.toNat, by omega⟩
 have HnN : Hid ((N : Int) ≤ most) := Lib.hid hnm
 clear hn0 hnm cp cp1 cp2 g1 h h1 h2 h3 tp2 hr
 go_loopw [27] (fun y wr => ∃ (j : Nat) (stj : K.σ) (ys : List Int) (vj : Value) (Rj Bj : List Blk), y = .int .i64 j ∧ j ≤ N ∧ rS = prep ys (loopM K stj (((List.range N).map fun j => l.getD j 0).drop j)) ∧ ys.length = j ∧
   K.rep (k + (most.toNat - j)) stj Bj ∧ RowIs 3 vj (ints ys) Rj ∧ Live w0 (Bj ++ (p, A.setIfInBounds i vj, t) :: (Rj ++ (Rl ++ L))) wr) (fun y _ => N - (intOf y).toNat)
 case atStart =>
  refine ⟨0, st1, [], .slice none 0 0, [], B1, rfl, Nat.zero_le _, ?_, rfl, by simpa using hr1, RowIs.nil _, h4.unmid⟩
  rw [HrS1.out, prep_nil]; rfl
 case round =>
  obtain ⟨j, stj, ys, vj, Rj, Bj, rfl, hj, heq, hys, hrj, hrow, hlive⟩ := hrel
  have Heq := Lib.hid heq
  have Hys := Lib.hid hys
  have Hj := Lib.hid hj
  clear heq hys hj
  by_cases hjN : j < N
  ·have e1 : decide (j < N) = true := decide_eq_true hjN
   have Hjn := Lib.hid hjN
   clear hjN
   by_cases hjl : j < l.length
   ·obtain ⟨g, cur, rfl, rfl, hcur⟩ := hrl.cellI hjl
    have e2 : decide (j < l.length) = true := decide_eq_true hjl
    obtain ⟨x, hx⟩ : ∃ x, x = l.getD j 0 := ⟨_, rfl⟩
    rw [← hx] at hcur
    have gj : (wr.alloc (Obj.cells #[Value.int IntKind.i64 0] 3)).cell? ⟨g, j, none⟩ = some (.int .i64 x) := by
     rw [cells_at ((hlive.other _).mem_at (g := g) (A := cur) (t := 3) (by simp))]; exact hcur
    have Hjl := Lib.hid hjl
    have Hcur := Lib.hid hcur
    have Hx := Lib.hid hx
    clear hjl hcur hx
    go_wp2_with fail
    refine (K.c_num (st := stj) (k := k + (most.toNat - (j + 1))) (i := 0) (old := x) (K.rep_le (by have := Hjn.out; have := HnN.out; omega) hrj) (hlive.put_new #[.int .i64 x] 3) rfl).mono ?_
    intro e W1 hs
    unfold Said at hs
    split at hs
    rotate_left
    ·rename_i f hc
     obtain ⟨rfl, hL⟩ := hs
     refine ⟨rfl, ?_⟩
     rw [Heq.out, pad_drop Hjn.out, ← Hx.out, loopM, hc]
     exact ⟨rfl, hL.tail.dropl.dropl⟩
    rename_i y hc
    obtain ⟨v1, st2⟩ := y
    obtain ⟨rfl, B2, hr2, h5⟩ := hs
    have Hc := Lib.hid hc
    clear hc hrj hlive gj
    obtain ⟨ja, jc, rfl⟩ := hrow.shapeI
    have Hrow := Lib.hid hrow
    clear hrow
    have h6 : Live w0 (Rj ++ (B2 ++ (wr.heap.size, #[.int .i64 v1], 3) :: (p, A.setIfInBounds i (.slice ja ys.length jc), t) :: ([(g, cur, 3)] ++ L))) W1 := h5.rowUp
    have cp5 : W1.cell? ⟨p, i, none⟩ = some (.slice ja ys.length jc) := by
     rw [cells_at (h6.mem_at (g := p) (A := A.setIfInBounds i (.slice ja ys.length jc)) (t := t) (by simp))]; exact get_set hA _
    have cx5 : W1.cell? ⟨wr.heap.size, 0, none⟩ = some (.int .i64 v1) := by
     rw [cells_at (h6.mem_at (g := wr.heap.size) (A := #[.int .i64 v1]) (t := 3) (by simp))]; rfl
    have cp6 : (W1.alloc (.cells #[.int .i64 v1] 3)).cell? ⟨p, i, none⟩ = some (.slice ja ys.length jc) := by
     rw [cells_at ((h6.other _).mem_at (g := p) (A := A.setIfInBounds i (.slice ja ys.length jc)) (t := t) (by simp))]; exact get_set hA _
    go_wp2_with fail
    go_region_law (refine step_append_row rfl (.tmp 43) (.tmp 45) 26 rfl 3 i0 (.int .i64 0) 8 Tryz.underlying26 hi hz0 hz1 hz2 rfl _ (ints ys) rfl Hrow.out (h6.drew.put_new _ _) ⟨W1.heap.size, 0, none⟩ 1 1 [.int .i64 v1] rfl rfl (cell_one_new _ _ _) (fun u hu => by simp at hu; subst hu; rfl) (by have := Hys.out; have := Hj.out; have := HnN.out; have := Hmm.out; rw [ints_length]; unfold maxLen; omega) (by have := Hys.out; have := Hj.out; have := HnN.out; have := Hmm.out; rw [ints_length]; omega) ?_; intro an nn cn W3 R3 hr3 hl3; have q3 := hl3.endRound; have cp7 : W3.cell? ⟨p, i, none⟩ = some (.slice ja ys.length jc) := (q3.cell i).trans (get_set hA _); have tp7 := q3.thaw i)
    all_goals (
     have q4 := (q3.put i (.slice an nn cn)).unmid
     rw [set_set] at q4
     have Hr3 := Lib.hid hr3
     clear cp5 cx5 cp6 cp7 tp7 q3 hl3 h5 h6 hr3
     generalize W3.setCell ⟨p, i, none⟩ (.slice an nn cn) = W4 at *
     have hb : j ≤ 2000 := by have := Hjn.out; have := HnN.out; have := Hmm.out; omega
     go_wp2
     go_roundw
     case rel =>
      refine ⟨j + 1, st2, ys ++ [v1], .slice an nn cn, R3, B2, by go_num, Hjn.out, prep_step ((Heq.out).trans (by rw [pad_drop Hjn.out, ← Hx.out])) Hc.out, by simp [Hys.out], hr2, ?_, q4⟩
      have := Hr3.out
      simpa [ints] using this
     case measure => have := Hjn.out; simp [intOf]; omega)
   ·
    have e2 : decide (j < l.length) = false := decide_eq_false hjl
    obtain ⟨x, hx0⟩ : ∃ x : Int, x = 0 := ⟨_, rfl⟩
    have hx : x = l.getD j 0 := by rw [hx0, List.getD_eq_getElem?_getD, List.getElem?_eq_none (by omega)]; rfl
    have Hx := Lib.hid hx
    have Hx0 := Lib.hid hx0
    clear hjl hx hx0
    go_wp2_with fail
    rw [show (Value.int .i64 0) = Value.int .i64 x from by rw [Hx0.out]]
    refine (K.c_num (st := stj) (k := k + (most.toNat - (j + 1))) (i := 0) (old := x) (K.rep_le (by have := Hjn.out; have := HnN.out; omega) hrj) (hlive.put_new #[.int .i64 x] 3) rfl).mono ?_
    intro e W1 hs
    unfold Said at hs
    split at hs
    rotate_left
    ·rename_i f hc
     obtain ⟨rfl, hL⟩ := hs
     refine ⟨rfl, ?_⟩
     rw [Heq.out, pad_drop Hjn.out, ← Hx.out, loopM, hc]
     exact ⟨rfl, hL.tail.dropl.dropl⟩
    rename_i y hc
    obtain ⟨v1, st2⟩ := y
    obtain ⟨rfl, B2, hr2, h5⟩ := hs
    have Hc := Lib.hid hc
    clear hc hrj hlive 
    obtain ⟨ja, jc, rfl⟩ := hrow.shapeI
    have Hrow := Lib.hid hrow
    clear hrow
    have h6 : Live w0 (Rj ++ (B2 ++ (wr.heap.size, #[.int .i64 v1], 3) :: (p, A.setIfInBounds i (.slice ja ys.length jc), t) :: (Rl ++ L))) W1 := h5.rowUp
    have cp5 : W1.cell? ⟨p, i, none⟩ = some (.slice ja ys.length jc) := by
     rw [cells_at (h6.mem_at (g := p) (A := A.setIfInBounds i (.slice ja ys.length jc)) (t := t) (by simp))]; exact get_set hA _
    have cx5 : W1.cell? ⟨wr.heap.size, 0, none⟩ = some (.int .i64 v1) := by
     rw [cells_at (h6.mem_at (g := wr.heap.size) (A := #[.int .i64 v1]) (t := 3) (by simp))]; rfl
    have cp6 : (W1.alloc (.cells #[.int .i64 v1] 3)).cell? ⟨p, i, none⟩ = some (.slice ja ys.length jc) := by
     rw [cells_at ((h6.other _).mem_at (g := p) (A := A.setIfInBounds i (.slice ja ys.length jc)) (t := t) (by simp))]; exact get_set hA _
    go_wp2_with fail
    go_region_law (refine step_append_row rfl (.tmp 43) (.tmp 45) 26 rfl 3 i0 (.int .i64 0) 8 Tryz.underlying26 hi hz0 hz1 hz2 rfl _ (ints ys) rfl Hrow.out (h6.drew.put_new _ _) ⟨W1.heap.size, 0, none⟩ 1 1 [.int .i64 v1] rfl rfl (cell_one_new _ _ _) (fun u hu => by simp at hu; subst hu; rfl) (by have := Hys.out; have := Hj.out; have := HnN.out; have := Hmm.out; rw [ints_length]; unfold maxLen; omega) (by have := Hys.out; have := Hj.out; have := HnN.out; have := Hmm.out; rw [ints_length]; omega) ?_; intro an nn cn W3 R3 hr3 hl3; have q3 := hl3.endRound; have cp7 : W3.cell? ⟨p, i, none⟩ = some (.slice ja ys.length jc) := (q3.cell i).trans (get_set hA _); have tp7 := q3.thaw i)
    all_goals (
     have q4 := (q3.put i (.slice an nn cn)).unmid
     rw [set_set] at q4
     have Hr3 := Lib.hid hr3
     clear cp5 cx5 cp6 cp7 tp7 q3 hl3 h5 h6 hr3
     generalize W3.setCell ⟨p, i, none⟩ (.slice an nn cn) = W4 at *
     have hb : j ≤ 2000 := by have := Hjn.out; have := HnN.out; have := Hmm.out; omega
     go_wp2
     go_roundw
     case rel =>
      refine ⟨j + 1, st2, ys ++ [v1], .slice an nn cn, R3, B2, by go_num, Hjn.out, prep_step ((Heq.out).trans (by rw [pad_drop Hjn.out, ← Hx.out])) Hc.out, by simp [Hys.out], hr2, ?_, q4⟩
      have := Hr3.out
      simpa [ints] using this
     case measure => have := Hjn.out; simp [intOf]; omega)
  ·have e1 : decide (j < N) = false := decide_eq_false hjN
   have hjN2 : j = N := by have := Hj.out; omega
   have HjN := Lib.hid hjN2
   clear hjN hjN2
   go_wp2
   go_end0
   rw [Heq.out, List.drop_eq_nil_of_le (by simp [HjN.out]), loopM]
   simp only [prep, Said, List.append_nil]
   exact ⟨trivial, vj, Rj, Bj, K.rep_le (by omega) hrj, hrow, hlive.dropMid⟩
end
end Go.Proofs.YthkeiclhllikjaaGreat
