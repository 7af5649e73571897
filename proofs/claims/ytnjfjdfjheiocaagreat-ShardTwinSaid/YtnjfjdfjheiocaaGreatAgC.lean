/-
  Aggregates: Join and Put, in short steps.
-/
import Derived.Test.YtnjfjdfjheiocaaGreatAggA
import Derived.Test.YtnjfjdfjheiocaaGreatTab
import Derived.Laws.CopyOwn
import Derived.Deep.Cut
import Derived.LoopTactic
import Derived.Tactics
import Derived.Tactics2
set_option linter.unusedSimpArgs false
set_option linter.unusedVariables false
namespace Go.Proofs.YtnjfjdfjheiocaaGreat
open Go.RowKit
theorem Live.rowZ {w0 W : World} {L : List Blk} {g : Nat} {A : Array Value} {t : TypeId} (h : Live w0 ((g, A, t) :: L) W) (cs : Array Value) : Live w0 ((g, cs, t) :: L) (W.setRow g cs) := by
  have hn : ∀ p, p ∈ L → p.1 ≠ g := fun p hp he => (List.nodup_cons.1 h.2.1).1 (List.mem_map.2 ⟨p, hp, he⟩)
  refine ⟨below_setRow h.1 h.ge cs, h.2.1, fun p hp => ?_⟩
  rcases List.mem_cons.1 hp with rfl | hp
  · exact ⟨h.ge, setRow_heap W g A cs t (0, 0) h.at_⟩
  · exact ⟨(h.2.2 p (List.mem_cons_of_mem _ hp)).1, (setRow_other W g p.1 cs (hn p hp)).trans (h.2.2 p (List.mem_cons_of_mem _ hp)).2⟩
/-- An aggregate. -/
structure A8 where
  c : Int
  s : Int
  mn : Int
  mx : Int
  h0 : Int
  h1 : Int
  h2 : Int
  h3 : Int
deriving DecidableEq
def A8.arr (a : A8) : Array Value := #[.int .i64 a.c, .int .i64 a.s, .int .i64 a.mn, .int .i64 a.mx, .int .i64 a.h0, .int .i64 a.h1, .int .i64 a.h2, .int .i64 a.h3]
def A8.zero : A8 := ⟨0, 0, 0, 0, 0, 0, 0, 0⟩
def mnI (x y : Int) : Int := if y < x then y else x
def mxI (x y : Int) : Int := if x < y then y else x
def jmn (ac bc amn bmn : Int) : Int := if ac = 0 then (if bc = 0 then 0 else bmn) else if bc = 0 then amn else mnI amn bmn
def jmx (ac bc amx bmx : Int) : Int := if ac = 0 then (if bc = 0 then 0 else bmx) else if bc = 0 then amx else mxI amx bmx
def hI (v k : Int) : Int := if bucketW v = k then 1 else 0
def join8 (a b : A8) : A8 := ⟨plusW a.c b.c, plusW a.s b.s, jmn a.c b.c a.mn b.mn, jmx a.c b.c a.mx b.mx, plusW a.h0 b.h0, plusW a.h1 b.h1, plusW a.h2 b.h2, plusW a.h3 b.h3⟩
def put8 (a : A8) (v : Int) : A8 := ⟨plusW a.c 1, plusW a.s v, jmn a.c 1 a.mn v, jmx a.c 1 a.mx v, plusW a.h0 (hI v 0), plusW a.h1 (hI v 1), plusW a.h2 (hI v 2), plusW a.h3 (hI v 3)⟩
theorem bucket_cases (v : Int) : bucketW v = 0 ∨ bucketW v = 1 ∨ bucketW v = 2 ∨ bucketW v = 3 := by
  unfold bucketW
  split
  · exact .inl rfl
  · split
    · exact .inr (.inl rfl)
    · split
      · exact .inr (.inr (.inl rfl))
      · exact .inr (.inr (.inr rfl))
def A8.h (a : A8) : Nat → Int
  | 0 => a.h0
  | 1 => a.h1
  | 2 => a.h2
  | _ => a.h3
/-- Four numbers, then those of f. -/
def jrow (c s mn mx : Int) (f : Nat → Int) : Array Value := #[.int .i64 c, .int .i64 s, .int .i64 mn, .int .i64 mx, .int .i64 (f 0), .int .i64 (f 1), .int .i64 (f 2), .int .i64 (f 3)]
def updI (f : Nat → Int) (i : Nat) (v : Int) : Nat → Int := fun j => if j = i then v else f j
section
variable {a : A8} {k : Nat} {c s mn mx : Int} {f : Nat → Int} {w : World} {g : Nat}
theorem arr_h (h : k < 4) : a.arr[4 + k]? = some (.int .i64 (a.h k)) := by
  match k, h with
  | 0, _ | 1, _ | 2, _ | 3, _ => rfl
theorem jrow_h (h : k < 4) : (jrow c s mn mx f)[4 + k]? = some (.int .i64 (f k)) := by
  match k, h with
  | 0, _ | 1, _ | 2, _ | 3, _ => rfl
theorem jrow_set (h : k < 4) (v : Int) : (jrow c s mn mx f).setIfInBounds (4 + k) (.int .i64 v) = jrow c s mn mx (updI f k v) := by
  match k, h with
  | 0, _ | 1, _ | 2, _ | 3, _ => rfl
theorem ix_h4 (h : k < 4) : (Instr.indexAt 53 (.pointer (some ⟨g, 4, none⟩)) (.int .i64 (k : Nat))).run Tryz.prog w = .ok (.pointer (some ⟨g, 4 + k, none⟩)) w := by
  match k, h with
  | 0, _ | 1, _ | 2, _ | 3, _ => simp [go_sem]
theorem ix_h4z {z : Int} (hz : z = (k : Nat)) (h : k < 4) : (Instr.indexAt 53 (.pointer (some ⟨g, 4, none⟩)) (.int .i64 z)).run Tryz.prog w = .ok (.pointer (some ⟨g, 4 + k, none⟩)) w := by
  subst hz
  exact ix_h4 h
theorem bx_ag {cs : Array Value} : (Instr.box 55 (.agg cs)).run Tryz.prog w = .ok (.pointer (some ⟨w.heap.size, 0, none⟩)) (w.alloc (.cells cs 55)) := by
  simp [go_sem]
theorem al_ag : (Instr.alloc 55 true (.tuple #[])).run Tryz.prog w = .ok (.pointer (some ⟨w.heap.size, 0, none⟩)) (w.alloc (.cells (jrow 0 0 0 0 fun _ => 0) 55)) := by
  simp [go_sem]
  rfl
theorem bd_ag {x y z u : Int} : (Instr.build 55 #[(0, .int .i64 x), (1, .int .i64 y), (2, .int .i64 z), (3, .int .i64 u)]).run Tryz.prog w = .ok (.agg (jrow x y z u fun _ => 0)) w := by
  simp [go_sem]
  rfl
theorem mn_i {ts : Array TypeId} {t : TypeId} {x y : Int} : (Builtin.min_ ts t #[.int .i64 x, .int .i64 y]).run Tryz.prog w = .ok (.int .i64 (mnI x y)) w := by
  unfold mnI
  simp [go_sem]
theorem mx_i {ts : Array TypeId} {t : TypeId} {x y : Int} : (Builtin.max_ ts t #[.int .i64 x, .int .i64 y]).run Tryz.prog w = .ok (.int .i64 (mxI x y)) w := by
  unfold mxI
  simp [go_sem]
theorem arr_jrow (a : A8) : a.arr = jrow a.c a.s a.mn a.mx a.h := rfl
theorem jrow_one : (jrow c s mn mx f).all (·.oneCell') = true := by
  unfold jrow
  simp only [List.all_toArray, List.all_cons, List.all_nil, Bool.and_true]
  rfl
/-- The sums so far. -/
def jsum (a b : A8) (k : Nat) : Nat → Int := fun j => if j < k then plusW (a.h j) (b.h j) else 0
theorem jsum_next {b : A8} : updI (jsum a b k) k (plusW (a.h k) (b.h k)) = jsum a b (k + 1) := by
  funext j
  unfold updI jsum
  by_cases h : j = k
  · rw [if_pos h, if_pos (by omega), h]
  · rw [if_neg h]
    by_cases h2 : j < k
    · rw [if_pos h2, if_pos (by omega)]
    · rw [if_neg h2, if_neg (by omega)]
end
section
variable {W w : World}
set_option maxHeartbeats 1000000 in
theorem join8_any (a b : A8) (W : World) : Calls Tryz.prog 129 #[.agg a.arr, .agg b.arr] W fun e w' => e = .returned (.agg (join8 a b).arr) ∧ Below W.heap.size W w' := by
  have hL := Live.init W
  go_enter Tryz.func129, Tryz.ntmps129
  refine wp_fr (n := 76) (m := [(0, _), (1, _)]) ⟨rfl, rfl, by intro p hp; simp only [List.mem_cons, List.not_mem_nil, or_false] at hp; rcases hp with rfl | rfl <;> rfl⟩ fun a0 H0 => ?_
  repeat (go_not_at_region 0; go_step)
  refine wp_region_lit ?_
  refine uvL 0 H0 rfl bx_ag (hL.alloc _ _) rfl fun _ w1 H1 hL => ?_
  refine uvL 0 H1 rfl bx_ag (hL.alloc _ _) rfl fun _ w2 H2 hL => ?_
  refine uvL 0 H2 rfl al_ag (hL.alloc _ _) rfl fun _ w3 H3 hL => ?_
  refine h_end ?_
  obtain ⟨g4, hg4⟩ : ∃ g, g = w2.heap.size := ⟨_, rfl⟩
  rw [← hg4] at H3 hL
  clear hg4
  obtain ⟨g3, hg3⟩ : ∃ g, g = w1.heap.size := ⟨_, rfl⟩
  rw [← hg3] at H3 hL
  clear hg3
  obtain ⟨g2, hg2⟩ : ∃ g, g = W.heap.size := ⟨_, rfl⟩
  rw [← hg2] at H3 hL
  clear hg2
  repeat (go_not_at_region 1; go_step)
  refine wp_region_held_drew (S := fun w' => w'.heap[g2]? = some (.cells a.arr 55 (0, 0)) ∧ w'.heap[g3]? = some (.cells b.arr 55 (0, 0))) (by kernel_rfl) (⟨hL.drew.mem_at (by simp), hL.drew.mem_at (by simp)⟩) (fun _ => ?_)
  replace hL := hL.drew
  refine auv 2 [0] 1 rfl H3 rfl (by kernel_rfl) ⟨hL.mem_at (by simp), hL.mem_at (by simp)⟩ (fun _ _ _ _ _ h => h) (fun _ hL => (ld1 rfl (cells_at hL.1 0))) rfl fun _ H4 => ?_
  refine auv 2 [2] 3 rfl H4 rfl (by kernel_rfl) ⟨hL.mem_at (by simp), hL.mem_at (by simp)⟩ (fun _ _ _ _ _ h => h) (fun _ hL => (ld1 rfl (cells_at hL.2 0))) rfl fun _ H5 => ?_
  refine auq 1 [] 4 rfl H5 rfl (by kernel_rfl) ⟨hL.mem_at (by simp), hL.mem_at (by simp)⟩ (fun _ _ _ _ _ h => h) (by kernel_rfl) (fun _ hL => (plus_any _ _ _).mono fun _ _ h => ⟨h.1, h.2.symm⟩) rfl fun _ H6 => ?_
  refine auv 2 [5] 6 rfl H6 rfl (by kernel_rfl) ⟨hL.mem_at (by simp), hL.mem_at (by simp)⟩ (fun _ _ _ _ _ h => h) (fun _ hL => (ld1 rfl (cells_at hL.1 1))) rfl fun _ H7 => ?_
  refine auv 2 [7] 8 rfl H7 rfl (by kernel_rfl) ⟨hL.mem_at (by simp), hL.mem_at (by simp)⟩ (fun _ _ _ _ _ h => h) (fun _ hL => (ld1 rfl (cells_at hL.2 1))) rfl fun _ H8 => ?_
  refine auq 1 [] 9 rfl H8 rfl (by kernel_rfl) ⟨hL.mem_at (by simp), hL.mem_at (by simp)⟩ (fun _ _ _ _ _ h => h) (by kernel_rfl) (fun _ hL => (plus_any _ _ _).mono fun _ _ h => ⟨h.1, h.2.symm⟩) rfl fun _ H9 => ?_
  refine auv 2 [10] 11 rfl H9 rfl (by kernel_rfl) ⟨hL.mem_at (by simp), hL.mem_at (by simp)⟩ (fun _ _ _ _ _ h => h) (fun _ hL => (ld1 rfl (cells_at hL.1 2))) rfl fun _ H10 => ?_
  refine auv 2 [12] 13 rfl H10 rfl (by kernel_rfl) ⟨hL.mem_at (by simp), hL.mem_at (by simp)⟩ (fun _ _ _ _ _ h => h) (fun _ hL => (ld1 rfl (cells_at hL.2 2))) rfl fun _ H11 => ?_
  refine auv 1 [] 14 rfl H11 rfl (by kernel_rfl) ⟨hL.mem_at (by simp), hL.mem_at (by simp)⟩ (fun _ _ _ _ _ h => h) (fun _ hL => mn_i) rfl fun _ H12 => ?_
  refine auv 2 [15] 16 rfl H12 rfl (by kernel_rfl) ⟨hL.mem_at (by simp), hL.mem_at (by simp)⟩ (fun _ _ _ _ _ h => h) (fun _ hL => (ld1 rfl (cells_at hL.1 3))) rfl fun _ H13 => ?_
  refine auv 2 [17] 18 rfl H13 rfl (by kernel_rfl) ⟨hL.mem_at (by simp), hL.mem_at (by simp)⟩ (fun _ _ _ _ _ h => h) (fun _ hL => (ld1 rfl (cells_at hL.2 3))) rfl fun _ H14 => ?_
  refine auv 1 [] 19 rfl H14 rfl (by kernel_rfl) ⟨hL.mem_at (by simp), hL.mem_at (by simp)⟩ (fun _ _ _ _ _ h => h) (fun _ hL => mx_i) rfl fun _ H15 => ?_
  refine auv 1 [] 20 rfl H15 rfl (by kernel_rfl) ⟨hL.mem_at (by simp), hL.mem_at (by simp)⟩ (fun _ _ _ _ _ h => h) (fun _ hL => bd_ag) rfl fun _ H16 => ?_
  refine a_all1 21 (by kernel_rfl) ?_
  refine ouL 21 H16 rfl al_ag (hL.alloc _ _) rfl fun _ w17 H17 hL => ⟨⟨hL.mem_at (by simp), hL.mem_at (by simp)⟩, ?_⟩
  refine a_all1 22 (by kernel_rfl) ?_
  refine ostL 22 H17 rfl (strw rfl hL.at_ rfl jrow_one) (hL.rowZ _) fun _ w18 H18 hL => ⟨⟨hL.mem_at (by simp), hL.mem_at (by simp)⟩, ?_⟩
  refine wpAnyH_done (by kernel_rfl) ?_ _
  obtain ⟨g5, hg5⟩ : ∃ g, g = w3.drew.heap.size := ⟨_, rfl⟩
  rw [← hg5] at H18 hL
  clear hg5
  have H19 := H18.kp [2, 3, 4, 5] rfl
  repeat (go_not_at_region 2; go_step)
  refine wp_region_lit ?_
  refine wpList_cut [_, _, _, _, _, _, _, _, _] (R := fun a' w' => Fr a' 76 [(2, .pointer (some ⟨g2, 0, none⟩)), (3, .pointer (some ⟨g3, 0, none⟩)), (4, .pointer (some ⟨g4, 0, none⟩)), (5, .pointer (some ⟨g5, 0, none⟩)), (28, .bool (decide (a.c = 0) && decide (b.c = 0)))] ∧ Live W ((g5, jrow (plusW a.c b.c) (plusW a.s b.s) (mnI a.mn b.mn) (mxI a.mx b.mx) (fun _ => 0), 55) :: (g4, jrow 0 0 0 0 fun _ => 0, 55) :: (g3, b.arr, 55) :: (g2, a.arr, 55) :: []) w') ?_ ?_
  · by_cases ha : a.c = 0
    · by_cases hb : b.c = 0
      · refine uv 1 H19 rfl (ld1 rfl (cells_at (hL.mem_at (g := g2) (A := a.arr) (t := 55) (by simp)) 0)) rfl fun _ H20 => ?_
        refine uv 0 H20 rfl (eq_t ha) rfl fun _ H21 => ?_
        refine uv 2 H21 rfl (ld1 rfl (cells_at (hL.mem_at (g := g3) (A := b.arr) (t := 55) (by simp)) 0)) rfl fun _ H22 => ?_
        refine uv 0 H22 rfl (eq_t hb) rfl fun _ H23 => ?_
        refine us 2 H23 rfl fun _ H24 => ?_
        refine h_end ?_
        
        refine ⟨H24.pick _ ?_, hL⟩
        rw [decide_eq_true ha, decide_eq_true hb, Bool.and_self]
        exact (P5 2 3 4 5 28 rfl rfl rfl rfl rfl)
      · refine uv 1 H19 rfl (ld1 rfl (cells_at (hL.mem_at (g := g2) (A := a.arr) (t := 55) (by simp)) 0)) rfl fun _ H20 => ?_
        refine uv 0 H20 rfl (eq_t ha) rfl fun _ H21 => ?_
        refine uv 2 H21 rfl (ld1 rfl (cells_at (hL.mem_at (g := g3) (A := b.arr) (t := 55) (by simp)) 0)) rfl fun _ H22 => ?_
        refine uv 0 H22 rfl (eq_f hb) rfl fun _ H23 => ?_
        refine us 2 H23 rfl fun _ H24 => ?_
        refine h_end ?_
        
        refine ⟨H24.pick _ ?_, hL⟩
        rw [decide_eq_true ha, decide_eq_false hb, Bool.and_false]
        exact (P5 2 3 4 5 28 rfl rfl rfl rfl rfl)
    · refine uv 1 H19 rfl (ld1 rfl (cells_at (hL.mem_at (g := g2) (A := a.arr) (t := 55) (by simp)) 0)) rfl fun _ H20 => ?_
      refine uv 0 H20 rfl (eq_f ha) rfl fun _ H21 => ?_
      refine us 6 H21 rfl fun _ H22 => ?_
      refine h_end ?_
      
      refine ⟨H22.pick _ ?_, hL⟩
      rw [decide_eq_false ha, Bool.false_and]
      exact (P5 2 3 4 5 28 rfl rfl rfl rfl rfl)
  clear hL
  rintro a9 w9 ⟨H0, hL⟩
  refine h_end ?_
  repeat (go_not_at_region 3; go_step)
  refine wp_cutB (fun a' w' => Fr a' 76 [(2, .pointer (some ⟨g2, 0, none⟩)), (3, .pointer (some ⟨g3, 0, none⟩)), (4, .pointer (some ⟨g4, 0, none⟩)), (5, .pointer (some ⟨g5, 0, none⟩))] ∧ Live W ((g5, jrow (plusW a.c b.c) (plusW a.s b.s) (jmn a.c b.c a.mn b.mn) (jmx a.c b.c a.mx b.mx) (fun _ => 0), 55) :: (g4, jrow 0 0 0 0 fun _ => 0, 55) :: (g3, b.arr, 55) :: (g2, a.arr, 55) :: []) w') ?_ ?_
  rotate_left
  · intro J K' hJ hM
    by_cases ha : a.c = 0
    · by_cases hb : b.c = 0
      · rw [decide_eq_true ha, decide_eq_true hb, Bool.and_self] at H0
        refine wp_cond_true (H0.ev (x := .tmp 28) rfl) ?_
        repeat (go_not_at_region 3; go_step)
        refine wp_region_lit ?_
        refine ustL 1 H0 rfl (st1 rfl hL.at_ (by show 2 < 8; decide) rfl rfl) (hL.put 2 _) fun _ w1 H1 hL => ?_
        refine ustL 1 H1 rfl (st1 rfl hL.at_ (by show 3 < 8; decide) rfl rfl) (hL.put 3 _) fun _ w2 H2 hL => ?_
        refine h_end ?_
        have e1 : jmn a.c b.c a.mn b.mn = 0 := by unfold jmn; rw [if_pos ha, if_pos hb]
        have e2 : jmx a.c b.c a.mx b.mx = 0 := by unfold jmx; rw [if_pos ha, if_pos hb]
        refine hM _ _ (Met.intro (hJ _ _ ⟨H2.pick _ (P4 2 3 4 5 rfl rfl rfl rfl), ?_⟩))
        rw [e1, e2]
        exact hL
      · rw [decide_eq_true ha, decide_eq_false hb, Bool.and_false] at H0
        refine wp_cond_false (H0.ev (x := .tmp 28) rfl) ?_
        repeat (go_not_at_region 4; go_step)
        refine wp_region_lit ?_
        refine uv 1 H0 rfl (ld1 rfl (cells_at (hL.mem_at (g := g2) (A := a.arr) (t := 55) (by simp)) 0)) rfl fun _ H1 => ?_
        refine uv 0 H1 rfl (eq_t ha) rfl fun _ H2 => ?_
        refine us 1 H2 rfl fun _ H3 => ?_
        refine h_end ?_
        repeat (go_not_at_region 5; go_step)
        refine wp_cond_true (H3.ev (x := .tmp 39) rfl) ?_
        repeat (go_not_at_region 5; go_step)
        refine wp_region_held_drew (S := fun w' => w'.heap[g3]? = some (.cells b.arr 55 (0, 0))) (by kernel_rfl) ((hL.drew.mem_at (g := g3) (A := b.arr) (t := 55) (by simp))) (fun _ => ?_)
        replace hL := hL.drew
        refine auv 2 [0] 1 rfl H3 rfl (by kernel_rfl) (hL.mem_at (g := g3) (A := b.arr) (t := 55) (by simp)) (fun _ _ _ _ _ h => h) (fun _ hL => (ld1 rfl (cells_at hL 2))) rfl fun _ H4 => ?_
        refine auv 2 [2] 3 rfl H4 rfl (by kernel_rfl) (hL.mem_at (g := g3) (A := b.arr) (t := 55) (by simp)) (fun _ _ _ _ _ h => h) (fun _ hL => (ld1 rfl (cells_at hL 3))) rfl fun _ H5 => ?_
        refine aus 1 [4] rfl H5 rfl (by kernel_rfl) (hL.mem_at (g := g3) (A := b.arr) (t := 55) (by simp)) (fun _ _ _ _ _ h => h) fun _ H6 => ?_
        refine a_all1 5 (by kernel_rfl) ?_
        refine ostL 5 H6 rfl (st1 rfl hL.at_ (by show 2 < 8; decide) rfl rfl) (hL.put 2 _) fun _ w7 H7 hL => ⟨(hL.mem_at (g := g3) (A := b.arr) (t := 55) (by simp)), ?_⟩
        refine aus 1 [6] rfl H7 rfl (by kernel_rfl) (hL.mem_at (g := g3) (A := b.arr) (t := 55) (by simp)) (fun _ _ _ _ _ h => h) fun _ H8 => ?_
        refine a_all1 7 (by kernel_rfl) ?_
        refine ostL 7 H8 rfl (st1 rfl hL.at_ (by show 3 < 8; decide) rfl rfl) (hL.put 3 _) fun _ w9 H9 hL => ⟨(hL.mem_at (g := g3) (A := b.arr) (t := 55) (by simp)), ?_⟩
        refine wpAnyH_done (by kernel_rfl) ?_ _
        have e1 : jmn a.c b.c a.mn b.mn = b.mn := by unfold jmn; rw [if_pos ha, if_neg hb]
        have e2 : jmx a.c b.c a.mx b.mx = b.mx := by unfold jmx; rw [if_pos ha, if_neg hb]
        refine hM _ _ (Met.intro (hJ _ _ ⟨H9.pick _ (P4 2 3 4 5 rfl rfl rfl rfl), ?_⟩))
        rw [e1, e2]
        exact hL
    · by_cases hb : b.c = 0
      · rw [decide_eq_false ha, Bool.false_and] at H0
        refine wp_cond_false (H0.ev (x := .tmp 28) rfl) ?_
        repeat (go_not_at_region 4; go_step)
        refine wp_region_lit ?_
        refine uv 1 H0 rfl (ld1 rfl (cells_at (hL.mem_at (g := g2) (A := a.arr) (t := 55) (by simp)) 0)) rfl fun _ H1 => ?_
        refine uv 0 H1 rfl (eq_f ha) rfl fun _ H2 => ?_
        refine us 1 H2 rfl fun _ H3 => ?_
        refine h_end ?_
        repeat (go_not_at_region 6; go_step)
        refine wp_cond_false (H3.ev (x := .tmp 39) rfl) ?_
        repeat (go_not_at_region 6; go_step)
        refine wp_region_lit ?_
        refine uv 1 H3 rfl (ld1 rfl (cells_at (hL.mem_at (g := g3) (A := b.arr) (t := 55) (by simp)) 0)) rfl fun _ H4 => ?_
        refine uv 0 H4 rfl (eq_t hb) rfl fun _ H5 => ?_
        refine us 1 H5 rfl fun _ H6 => ?_
        refine h_end ?_
        repeat (go_not_at_region 7; go_step)
        refine wp_cond_true (H6.ev (x := .tmp 49) rfl) ?_
        repeat (go_not_at_region 7; go_step)
        refine wp_region_held_drew (S := fun w' => w'.heap[g2]? = some (.cells a.arr 55 (0, 0))) (by kernel_rfl) ((hL.drew.mem_at (g := g2) (A := a.arr) (t := 55) (by simp))) (fun _ => ?_)
        replace hL := hL.drew
        refine auv 2 [0] 1 rfl H6 rfl (by kernel_rfl) (hL.mem_at (g := g2) (A := a.arr) (t := 55) (by simp)) (fun _ _ _ _ _ h => h) (fun _ hL => (ld1 rfl (cells_at hL 2))) rfl fun _ H7 => ?_
        refine auv 2 [2] 3 rfl H7 rfl (by kernel_rfl) (hL.mem_at (g := g2) (A := a.arr) (t := 55) (by simp)) (fun _ _ _ _ _ h => h) (fun _ hL => (ld1 rfl (cells_at hL 3))) rfl fun _ H8 => ?_
        refine aus 1 [4] rfl H8 rfl (by kernel_rfl) (hL.mem_at (g := g2) (A := a.arr) (t := 55) (by simp)) (fun _ _ _ _ _ h => h) fun _ H9 => ?_
        refine a_all1 5 (by kernel_rfl) ?_
        refine ostL 5 H9 rfl (st1 rfl hL.at_ (by show 2 < 8; decide) rfl rfl) (hL.put 2 _) fun _ w10 H10 hL => ⟨(hL.mem_at (g := g2) (A := a.arr) (t := 55) (by simp)), ?_⟩
        refine aus 1 [6] rfl H10 rfl (by kernel_rfl) (hL.mem_at (g := g2) (A := a.arr) (t := 55) (by simp)) (fun _ _ _ _ _ h => h) fun _ H11 => ?_
        refine a_all1 7 (by kernel_rfl) ?_
        refine ostL 7 H11 rfl (st1 rfl hL.at_ (by show 3 < 8; decide) rfl rfl) (hL.put 3 _) fun _ w12 H12 hL => ⟨(hL.mem_at (g := g2) (A := a.arr) (t := 55) (by simp)), ?_⟩
        refine wpAnyH_done (by kernel_rfl) ?_ _
        have e1 : jmn a.c b.c a.mn b.mn = a.mn := by unfold jmn; rw [if_neg ha, if_pos hb]
        have e2 : jmx a.c b.c a.mx b.mx = a.mx := by unfold jmx; rw [if_neg ha, if_pos hb]
        refine hM _ _ (Met.intro (hJ _ _ ⟨H12.pick _ (P4 2 3 4 5 rfl rfl rfl rfl), ?_⟩))
        rw [e1, e2]
        exact hL
      · rw [decide_eq_false ha, Bool.false_and] at H0
        refine wp_cond_false (H0.ev (x := .tmp 28) rfl) ?_
        repeat (go_not_at_region 4; go_step)
        refine wp_region_lit ?_
        refine uv 1 H0 rfl (ld1 rfl (cells_at (hL.mem_at (g := g2) (A := a.arr) (t := 55) (by simp)) 0)) rfl fun _ H1 => ?_
        refine uv 0 H1 rfl (eq_f ha) rfl fun _ H2 => ?_
        refine us 1 H2 rfl fun _ H3 => ?_
        refine h_end ?_
        repeat (go_not_at_region 6; go_step)
        refine wp_cond_false (H3.ev (x := .tmp 39) rfl) ?_
        repeat (go_not_at_region 6; go_step)
        refine wp_region_lit ?_
        refine uv 1 H3 rfl (ld1 rfl (cells_at (hL.mem_at (g := g3) (A := b.arr) (t := 55) (by simp)) 0)) rfl fun _ H4 => ?_
        refine uv 0 H4 rfl (eq_f hb) rfl fun _ H5 => ?_
        refine us 1 H5 rfl fun _ H6 => ?_
        refine h_end ?_
        repeat (go_not_at_region 8; go_step)
        refine wp_cond_false (H6.ev (x := .tmp 49) rfl) ?_
        refine wp_skip ?_
        have e1 : jmn a.c b.c a.mn b.mn = mnI a.mn b.mn := by unfold jmn; rw [if_neg ha, if_neg hb]
        have e2 : jmx a.c b.c a.mx b.mx = mxI a.mx b.mx := by unfold jmx; rw [if_neg ha, if_neg hb]
        refine hM _ _ (Met.intro (hJ _ _ ⟨H6.pick _ (P4 2 3 4 5 rfl rfl rfl rfl), ?_⟩))
        rw [e1, e2]
        exact hL
  clear hL H0
  intro ac wc hcut
  obtain ⟨H0, hL⟩ := hcut
  repeat (go_not_at_region 8; go_step)
  refine wp_region_lit ?_
  refine us 1 H0 rfl fun _ H1 => ?_
  refine h_end ?_
  have hL : Live W ((g5, jrow (plusW a.c b.c) (plusW a.s b.s) (jmn a.c b.c a.mn b.mn) (jmx a.c b.c a.mx b.mx) (jsum a b 0), 55) :: (g4, jrow 0 0 0 0 fun _ => 0, 55) :: (g3, b.arr, 55) :: (g2, a.arr, 55) :: []) wc := hL
  repeat (go_not_at_region 9; go_step)
  obtain ⟨I, hI⟩ : ∃ I : Nat → Act → World → Prop, ∀ n a' w', I n a' w' ↔ ∃ k : Nat, n = 4 - k ∧ k ≤ 4 ∧ Fr a' 76 [(59, .int .i64 (k : Nat)), (2, .pointer (some ⟨g2, 0, none⟩)), (3, .pointer (some ⟨g3, 0, none⟩)), (4, .pointer (some ⟨g4, 0, none⟩)), (5, .pointer (some ⟨g5, 0, none⟩))] ∧ Live W ((g5, jrow (plusW a.c b.c) (plusW a.s b.s) (jmn a.c b.c a.mn b.mn) (jmx a.c b.c a.mx b.mx) (jsum a b k), 55) :: (g4, jrow 0 0 0 0 fun _ => 0, 55) :: (g3, b.arr, 55) :: (g2, a.arr, 55) :: []) w' := ⟨_, fun _ _ _ => Iff.rfl⟩
  have HI := Lib.hid hI
  clear hI
  refine wp_loop_ghost I 4 ((HI.out _ _ _).2 ⟨0, rfl, Nat.zero_le _, H1.pick _ (P5 59 2 3 4 5 rfl rfl rfl rfl rfl), hL⟩) ?_
  clear hL H1
  intro n a1 wl hi'
  obtain ⟨k, rfl, hk, H0, hL⟩ := (HI.out _ _ _).1 hi'
  clear hi'
  by_cases hk4 : k < 4
  · repeat (go_not_at_region 9; go_step)
    refine wp_region_lit ?_
    refine uv 0 H0 rfl (lt_t (by omega)) rfl fun _ H1 => ?_
    refine h_end ?_
    repeat (go_not_at_region 10; go_step)
    refine wp_cond_true (H1.ev (x := .tmp 60) rfl) ?_
    repeat (go_not_at_region 10; go_step)
    refine wp_region_lit ?_
    refine us 2 H1 rfl fun _ H2 => ?_
    refine h_end ?_
    repeat (go_not_at_region 11; go_step)
    refine wp_region_held_drew (S := fun w' => w'.heap[g2]? = some (.cells a.arr 55 (0, 0)) ∧ w'.heap[g3]? = some (.cells b.arr 55 (0, 0))) (by kernel_rfl) (⟨hL.drew.mem_at (by simp), hL.drew.mem_at (by simp)⟩) (fun _ => ?_)
    replace hL := hL.drew
    refine auv 4 [0, 1, 2] 3 rfl H2 rfl (by kernel_rfl) ⟨hL.mem_at (by simp), hL.mem_at (by simp)⟩ (fun _ _ _ _ _ h => h) (fun _ hL => (ix_h4 hk4)) rfl fun _ H3 => ?_
    refine auv 1 [] 4 rfl H3 rfl (by kernel_rfl) ⟨hL.mem_at (by simp), hL.mem_at (by simp)⟩ (fun _ _ _ _ _ h => h) (fun _ hL => (ld1 rfl ((cells_at hL.1 _).trans (arr_h hk4)))) rfl fun _ H4 => ?_
    refine auv 3 [5, 6] 7 rfl H4 rfl (by kernel_rfl) ⟨hL.mem_at (by simp), hL.mem_at (by simp)⟩ (fun _ _ _ _ _ h => h) (fun _ hL => (ix_h4 hk4)) rfl fun _ H5 => ?_
    refine auv 1 [] 8 rfl H5 rfl (by kernel_rfl) ⟨hL.mem_at (by simp), hL.mem_at (by simp)⟩ (fun _ _ _ _ _ h => h) (fun _ hL => (ld1 rfl ((cells_at hL.2 _).trans (arr_h hk4)))) rfl fun _ H6 => ?_
    refine auq 1 [] 9 rfl H6 rfl (by kernel_rfl) ⟨hL.mem_at (by simp), hL.mem_at (by simp)⟩ (fun _ _ _ _ _ h => h) (by kernel_rfl) (fun _ hL => (plus_any _ _ _).mono fun _ _ h => ⟨h.1, h.2.symm⟩) rfl fun _ H7 => ?_
    refine auv 2 [10] 11 rfl H7 rfl (by kernel_rfl) ⟨hL.mem_at (by simp), hL.mem_at (by simp)⟩ (fun _ _ _ _ _ h => h) (fun _ hL => (ix_h4 hk4)) rfl fun _ H8 => ?_
    refine a_all1 12 (by kernel_rfl) ?_
    refine ostL 12 H8 rfl (st1 rfl hL.at_ (by show 4 + k < 8; omega) rfl rfl) (hL.put (4 + k) _) fun _ w9 H9 hL => ⟨⟨hL.mem_at (by simp), hL.mem_at (by simp)⟩, ?_⟩
    refine wpAnyH_done (by kernel_rfl) ?_ _
    rw [jrow_set hk4, jsum_next] at hL
    repeat (go_not_at_region 12; go_step)
    refine wp_region_lit ?_
    refine uv 0 H9 rfl (add_i (by omega) (by omega)) rfl fun _ H10 => ?_
    refine us 1 H10 rfl fun _ H11 => ?_
    refine h_end ?_
    exact ⟨4 - (k + 1), by omega, (HI.out _ _ _).2 ⟨k + 1, rfl, by omega, H11.pick _ (P5 59 2 3 4 5 rfl rfl rfl rfl rfl), hL⟩⟩
  · obtain rfl : k = 4 := by omega
    repeat (go_not_at_region 9; go_step)
    refine wp_region_lit ?_
    refine uv 0 H0 rfl (lt_f (by omega)) rfl fun _ H1 => ?_
    refine h_end ?_
    repeat (go_not_at_region 13; go_step)
    refine wp_cond_false (H1.ev (x := .tmp 60) rfl) ?_
    repeat (go_not_at_region 13; go_step)
    refine wp_region_lit ?_
    refine uv 0 H1 rfl (ldb rfl hL.at_) rfl fun _ H2 => ?_
    refine ustL 0 H2 rfl (strw rfl hL.swap.at_ rfl jrow_one) (hL.swap.rowZ _) fun _ w3 H3 hL => ?_
    refine h_end ?_
    repeat (go_not_at_region 999; go_step)
    exact H3.retc rfl rfl hL.at_ rfl ⟨rfl, hL.1⟩
/-- One value. -/
def oneI (v : Int) : Nat → Int := fun j => if j = (bucketW v).toNat then 1 else 0
theorem put8_join (a : A8) (v : Int) : put8 a v = join8 a ⟨1, v, v, v, hI v 0, hI v 1, hI v 2, hI v 3⟩ := rfl
theorem one_arr (v : Int) : jrow 1 v v v (updI (fun _ => 0) (bucketW v).toNat 1) = (⟨1, v, v, v, hI v 0, hI v 1, hI v 2, hI v 3⟩ : A8).arr := by
  rw [arr_jrow]
  have e : ∀ k : Nat, k < 4 → updI (fun _ => 0) (bucketW v).toNat 1 k = (⟨1, v, v, v, hI v 0, hI v 1, hI v 2, hI v 3⟩ : A8).h k := by
    intro k hk
    unfold updI hI
    rcases bucket_cases v with h | h | h | h <;> rw [h] <;> match k, hk with
      | 0, _ | 1, _ | 2, _ | 3, _ => rfl
  unfold jrow
  rw [e 0 (by decide), e 1 (by decide), e 2 (by decide), e 3 (by decide)]
set_option maxHeartbeats 1000000 in
theorem put8_any (a : A8) (v : Int) (W : World) : Calls Tryz.prog 115 #[.agg a.arr, .int .i64 v] W fun e w' => e = .returned (.agg (put8 a v).arr) ∧ Below W.heap.size W w' := by
  have hb : ∃ k : Nat, k < 4 ∧ bucketW v = (k : Nat) ∧ (bucketW v).toNat = k := by
    rcases bucket_cases v with h | h | h | h <;> rw [h]
    · exact ⟨0, by decide, rfl, rfl⟩
    · exact ⟨1, by decide, rfl, rfl⟩
    · exact ⟨2, by decide, rfl, rfl⟩
    · exact ⟨3, by decide, rfl, rfl⟩
  obtain ⟨k, hk4, hbk, hbn⟩ := hb
  have hL := Live.init W
  go_enter Tryz.func115, Tryz.ntmps115
  refine wp_fr (n := 17) (m := [(0, _), (1, _)]) ⟨rfl, rfl, by intro p hp; simp only [List.mem_cons, List.not_mem_nil, or_false] at hp; rcases hp with rfl | rfl <;> rfl⟩ fun a0 H0 => ?_
  repeat (go_not_at_region 0; go_step)
  refine wp_region_lit ?_
  refine uvL 0 H0 rfl bx_ag (hL.alloc _ _) rfl fun _ w1 H1 hL => ?_
  refine uvL 0 H1 rfl al_ag (hL.alloc _ _) rfl fun _ w2 H2 hL => ?_
  refine h_end ?_
  obtain ⟨g4, hg4⟩ : ∃ g, g = w1.heap.size := ⟨_, rfl⟩
  rw [← hg4] at H2 hL
  clear hg4
  obtain ⟨g2, hg2⟩ : ∃ g, g = W.heap.size := ⟨_, rfl⟩
  rw [← hg2] at H2 hL
  clear hg2
  repeat (go_not_at_region 1; go_step)
  refine wp_region_lit ?_
  refine uv 3 H2 rfl bd_ag rfl fun _ H3 => ?_
  refine uvL 0 H3 rfl al_ag (hL.alloc _ _) rfl fun _ w4 H4 hL => ?_
  refine ustL 0 H4 rfl (strw rfl hL.at_ rfl jrow_one) (hL.rowZ _) fun _ w5 H5 hL => ?_
  refine h_end ?_
  obtain ⟨g5, hg5⟩ : ∃ g, g = w2.heap.size := ⟨_, rfl⟩
  rw [← hg5] at H5 hL
  clear hg5
  repeat (go_not_at_region 2; go_step)
  refine wp_region_lit ?_
  refine uc 1 H5 rfl (by kernel_rfl) (bucket_any v _) ?_
  rintro e w6 ⟨rfl, rfl⟩
  refine ⟨_, rfl, _, rfl, fun _ H6 => ?_⟩
  refine uv 1 H6 rfl (ix_h4z hbk hk4) rfl fun _ H7 => ?_
  refine ustL 0 H7 rfl (st1 rfl hL.at_ (by show 4 + k < 8; omega) rfl rfl) (hL.put (4 + k) _) fun _ w8 H8 hL => ?_
  refine h_end ?_
  rw [jrow_set hk4, ← hbn, one_arr] at hL
  repeat (go_not_at_region 3; go_step)
  refine wp_region_lit ?_
  refine uv 0 H8 rfl (ldb rfl (hL.mem_at (g := g2) (A := a.arr) (t := 55) (by simp))) rfl fun _ H9 => ?_
  refine uv 0 H9 rfl (ldb rfl hL.at_) rfl fun _ H10 => ?_
  refine uc 0 H10 rfl (by kernel_rfl) (join8_any a _ _) ?_
  rintro e w11 ⟨rfl, hb⟩
  replace hL := hL.call hb
  refine ⟨_, rfl, _, rfl, fun _ H11 => ?_⟩
  refine ustL 0 H11 rfl (strw rfl hL.swap.at_ rfl (by rw [arr_jrow]; exact jrow_one)) (hL.swap.rowZ _) fun _ w12 H12 hL => ?_
  refine h_end ?_
  repeat (go_not_at_region 999; go_step)
  exact H12.retc rfl rfl hL.at_ rfl ⟨rfl, hL.1⟩
end
end Go.Proofs.YtnjfjdfjheiocaaGreat
