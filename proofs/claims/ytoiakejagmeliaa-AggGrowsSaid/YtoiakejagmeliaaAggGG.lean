/-
  The law AggGrows: the walk. Printed by genGrows.py.
-/
import Derived.Test.YtoiakejagmeliaaAggSt
import Derived.Test.YtoiakejagmeliaaAggPure
import Derived.Test.YtoiakejagmeliaaMemT
import Derived.Deep.RegionHeld3
import Derived.Deep.QuietTactic
import Derived.BigQuiet
import Derived.Deep.DeepCutAuto
import Derived.IntWalk
set_option linter.unusedSimpArgs false
set_option linter.unusedVariables false
namespace Go.Proofs.Ytoiakejagmeliaa
open Go.RowKit

theorem quiet_left' {P : Program} {f : FuncId} {args : Array Value} {w : World} {n : Nat} {v : Value} (h : Calls P f args (w.drewN n) fun e w' => e = .returned v ∧ w.drewN n = w') : Calls P f args (w.drewN n) fun e w'' => e = .returned v ∧ ∃ m, w'' = w.drewN m :=
  h.mono fun _ _ ⟨he, hm⟩ => ⟨he, n, hm.symm⟩
theorem below_drewN' {B : Nat} {a w : World} (h : Below B a w) (n : Nat) : Below B a (w.drewN n) := ⟨h.os, h.tape, h.output, h.size, h.block⟩
/-- What one more value does, but for the buckets. -/
def Grown1 (a b : A8) (v : Int) : Prop :=
  b.c = a.c + 1 ∧ 0 ≤ a.c ∧ a.c < 9223372036854775000 ∧ b.mn ≤ v ∧ v ≤ b.mx ∧ (0 < a.c → b.mn ≤ a.mn ∧ a.mx ≤ b.mx) ∧ b.s = plusW a.s v ∧ (b.mn = v ∨ (0 < a.c ∧ b.mn = a.mn)) ∧ (b.mx = v ∨ (0 < a.c ∧ b.mx = a.mx))
theorem grown1 {l : List Int} {a b : A8} {v : Int} (hl : l.length ≤ 300) (ha : of8 l = a) (hb : put8 a v = b) : Grown1 a b v := by
  have Ia : IsOf l a := ha ▸ isOf_of8 l (by omega)
  have hc := Ia.1
  have e1 : b.c = plusW a.c 1 := by rw [← hb]; rfl
  have e2 : b.mn = jmn a.c 1 a.mn v := by rw [← hb]; rfl
  have e3 : b.mx = jmx a.c 1 a.mx v := by rw [← hb]; rfl
  have e4 : b.s = plusW a.s v := by rw [← hb]; rfl
  rw [plusW_small (by omega) (by omega) (by omega)] at e1
  unfold jmn mnI at e2
  unfold jmx mxI at e3
  unfold Grown1
  by_cases h0 : a.c = 0
  · rw [if_pos h0, if_neg (by decide)] at e2 e3
    refine ⟨e1, by omega, by omega, by omega, by omega, by omega, e4, .inl e2, .inl e3⟩
  · rw [if_neg h0, if_neg (by decide)] at e2 e3
    refine ⟨e1, by omega, by omega, ?_, ?_, ?_, e4, ?_, ?_⟩
    · split at e2 <;> omega
    · split at e3 <;> omega
    · intro; split at e2 <;> split at e3 <;> omega
    · split at e2
      · exact .inl e2
      · exact .inr ⟨by omega, e2⟩
    · split at e3
      · exact .inl e3
      · exact .inr ⟨by omega, e3⟩
/-- What becomes of a bucket. -/
theorem grown_h {l : List Int} {a b : A8} {v : Int} (hl : l.length ≤ 300) (ha : of8 l = a) (hb : put8 a v = b) :
    (0 ≤ a.h0 ∧ a.h0 ≤ 300 ∧ b.h0 = a.h0 + hI v 0) ∧ (0 ≤ a.h1 ∧ a.h1 ≤ 300 ∧ b.h1 = a.h1 + hI v 1) ∧ (0 ≤ a.h2 ∧ a.h2 ≤ 300 ∧ b.h2 = a.h2 + hI v 2) ∧ (0 ≤ a.h3 ∧ a.h3 ≤ 300 ∧ b.h3 = a.h3 + hI v 3) := by
  have Ia : IsOf l a := ha ▸ isOf_of8 l (by omega)
  obtain ⟨_, a2, a3, a4, a5, _, _⟩ := Ia
  have hI01 : ∀ k, 0 ≤ hI v k ∧ hI v k ≤ 1 := fun k => by unfold hI; split <;> omega
  have i0 := hI01 0
  have i1 := hI01 1
  have i2 := hI01 2
  have i3 := hI01 3
  have c0 := cntB_le 0 l
  have c1 := cntB_le 1 l
  have c2 := cntB_le 2 l
  have c3 := cntB_le 3 l
  have e0 : b.h0 = plusW a.h0 (hI v 0) := by rw [← hb]; rfl
  have e1 : b.h1 = plusW a.h1 (hI v 1) := by rw [← hb]; rfl
  have e2 : b.h2 = plusW a.h2 (hI v 2) := by rw [← hb]; rfl
  have e3 : b.h3 = plusW a.h3 (hI v 3) := by rw [← hb]; rfl
  rw [plusW_small (by omega) (by omega) (by omega)] at e0 e1 e2 e3
  omega


set_option maxRecDepth 100000 in
set_option maxHeartbeats 2000000 in
theorem grows_0 (v0 : Value) (l : List Int) (v : Int) (W0 : World) (h0 : SliceOf W0 v0 l) (l0 : l.length ≤ 300) (hk : bucketW v = 0) :
    Calls Try.prog 5 #[v0, .int .i64 v] W0 fun e w' => e = .returned (.bool true) ∧ Below W0.heap.size W0 w' := by
  obtain ⟨s0, c0, hv⟩ := h0.form
  subst hv
  have HS := Lib.hid h0
  have Hk := Lib.hid hk
  obtain ⟨a, Ha⟩ : ∃ a : A8, Hid (of8 l = a) := ⟨_, rfl⟩
  obtain ⟨b, Hb⟩ : ∃ b : A8, Hid (put8 a v = b) := ⟨_, rfl⟩
  have HG := Lib.hid (grown1 l0 Ha.out Hb.out)
  have HH := Lib.hid (grown_h l0 Ha.out Hb.out)
  have HST := Lib.hid (St.init W0)
  clear h0 hk
  go_enter Try.func5, Try.ntmps5
  go_wp2_with fail
  refine (of_list (HST.out.list HS.out) (by omega)).mono ?_
  rintro e u0 ⟨rfl, hb⟩
  rw [Ha.out]
  have hST := (HST.out.call hb).alloc #[.int .i64 a.c, .int .i64 a.s, .int .i64 a.mn, .int .i64 a.mx, .int .i64 a.h0, .int .i64 a.h1, .int .i64 a.h2, .int .i64 a.h3]
  clear HST hb
  have HST := Lib.hid hST
  clear hST
  unfold A8.arr
  dsimp only
  go_wp2_with fail
  refine (put_8 a v _).mono ?_
  rintro e u1 ⟨rfl, hb⟩
  rw [Hb.out]
  have hST := (HST.out.call hb).alloc #[.int .i64 b.c, .int .i64 b.s, .int .i64 b.mn, .int .i64 b.mx, .int .i64 b.h0, .int .i64 b.h1, .int .i64 b.h2, .int .i64 b.h3]
  clear HST hb
  have HST := Lib.hid hST
  clear hST
  unfold A8.arr
  dsimp only
  go_wp2_with fail
  refine (bucket_any v _).mono ?_
  rintro e w1 ⟨rfl, rfl⟩
  rw [Hk.out]
  generalize hV : World.alloc u1 _ = V0 at HST
  clear hV
  go_wp2_with fail
  have hca := HST.out.cells u0.heap.size #[.int .i64 a.c, .int .i64 a.s, .int .i64 a.mn, .int .i64 a.mx, .int .i64 a.h0, .int .i64 a.h1, .int .i64 a.h2, .int .i64 a.h3] (by simp)
  have hcb := HST.out.cells u1.heap.size #[.int .i64 b.c, .int .i64 b.s, .int .i64 b.mn, .int .i64 b.mx, .int .i64 b.h0, .int .i64 b.h1, .int .i64 b.h2, .int .i64 b.h3] (by simp)
  obtain ⟨g1, g2, g3, g4, g5, g6, g7, g8, g9⟩ := HG.out
  have e1 : IntKind.i64.wrap (a.c + 1) = a.c + 1 := IntWalk.i64_in _ (by omega)
  have e2 : (b.c != a.c + 1) = false := by rw [g1]; simp
  have e3 : decide (v < b.mn) = false := by simpa using g4
  have e4 : decide (b.mx < v) = false := by simpa using g5
  have e5 : (b.s != plusW a.s v) = false := by rw [g7]; simp
  have e9 : (0 < a.c ∧ b.mn ≤ a.mn ∧ a.mx ≤ b.mx) ∨ (a.c ≤ 0 ∧ b.mn = v ∧ b.mx = v) := by
    by_cases hp : 0 < a.c
    · exact .inl ⟨hp, g6 hp⟩
    · rcases g8 with g8 | g8 <;> rcases g9 with g9 | g9 <;> first | exact .inr ⟨by omega, g8, g9⟩ | omega
  have HE9 := Lib.hid e9
  have HG8 := Lib.hid (And.intro g8 g9)
  clear g1 g2 g3 g4 g5 g6 g7 g8 g9 e9
  rcases HE9.out with ⟨hp, hq1, hq2⟩ | ⟨hp, hq1, hq2⟩
  · have HQ := Lib.hid hp
    have e6 : decide (0 < a.c) = true := by simpa using hp
    have e7 : decide (a.mn < b.mn) = false := by simpa using hq1
    have e8 : decide (b.mx < a.mx) = false := by simpa using hq2
    clear hp hq1 hq2
    go_quiet ((go_at_call 10; exact quiet_left' (plus_any _ _ _)))
    clear e7 e8
    clear e1 e2 e3 e4 e5
    obtain ⟨⟨p1, p2, p3⟩, ⟨p4, p5, p6⟩, ⟨p7, p8, p9⟩, ⟨p10, p11, p12⟩⟩ := HH.out
    have i0 : hI v 0 = 1 := by unfold hI; rw [Hk.out]; rfl
    rw [i0] at p3
    have i1 : hI v 1 = 0 := by unfold hI; rw [Hk.out]; rfl
    rw [i1] at p6
    rw [Int.add_zero] at p6
    have i2 : hI v 2 = 0 := by unfold hI; rw [Hk.out]; rfl
    rw [i2] at p9
    rw [Int.add_zero] at p9
    have i3 : hI v 3 = 0 := by unfold hI; rw [Hk.out]; rfl
    rw [i3] at p12
    rw [Int.add_zero] at p12
    clear i0 i1 i2 i3
    go_wp2_with fail
    refine wp_loop_rounds 5 ?_
    rw [rounds_succ]
    go_wp2_with (go_at_call 18; refine (wakes_any _).mono ?_; rintro e w9 ⟨rfl, hb9⟩; have hbel := ((below_drewN' HST.out.1 _).trans (hb9.mono HST.out.1.size)); clear hb9)
    rw [rounds_succ]
    go_wp2_with (go_at_call 18; refine (wakes_any _).mono ?_; rintro e w9 ⟨rfl, hb9⟩; have hbel := ((below_drewN' HST.out.1 _).trans (hb9.mono HST.out.1.size)); clear hb9)
    rw [rounds_succ]
    go_wp2_with (go_at_call 18; refine (wakes_any _).mono ?_; rintro e w9 ⟨rfl, hb9⟩; have hbel := ((below_drewN' HST.out.1 _).trans (hb9.mono HST.out.1.size)); clear hb9)
    rw [rounds_succ]
    go_wp2_with (go_at_call 18; refine (wakes_any _).mono ?_; rintro e w9 ⟨rfl, hb9⟩; have hbel := ((below_drewN' HST.out.1 _).trans (hb9.mono HST.out.1.size)); clear hb9)
    rw [rounds_succ]
    go_wp2_with (go_at_call 18; refine (wakes_any _).mono ?_; rintro e w9 ⟨rfl, hb9⟩; have hbel := ((below_drewN' HST.out.1 _).trans (hb9.mono HST.out.1.size)); clear hb9)
    all_goals first
      | (exfalso; have hx := HG8.out; have hy := HQ.out; omega)
      | (go_ret; exact ⟨rfl, hbel⟩)
  · have HQ := Lib.hid (And.intro hp (And.intro hq1 hq2))
    have e6 : decide (0 < a.c) = false := by simpa using hp
    clear hp hq1 hq2
    go_quiet ((go_at_call 10; exact quiet_left' (plus_any _ _ _)))
    clear e1 e2 e3 e4 e5
    obtain ⟨⟨p1, p2, p3⟩, ⟨p4, p5, p6⟩, ⟨p7, p8, p9⟩, ⟨p10, p11, p12⟩⟩ := HH.out
    have i0 : hI v 0 = 1 := by unfold hI; rw [Hk.out]; rfl
    rw [i0] at p3
    have i1 : hI v 1 = 0 := by unfold hI; rw [Hk.out]; rfl
    rw [i1] at p6
    rw [Int.add_zero] at p6
    have i2 : hI v 2 = 0 := by unfold hI; rw [Hk.out]; rfl
    rw [i2] at p9
    rw [Int.add_zero] at p9
    have i3 : hI v 3 = 0 := by unfold hI; rw [Hk.out]; rfl
    rw [i3] at p12
    rw [Int.add_zero] at p12
    clear i0 i1 i2 i3
    go_wp2_with fail
    refine wp_loop_rounds 5 ?_
    rw [rounds_succ]
    go_wp2_with (go_at_call 18; refine (wakes_any _).mono ?_; rintro e w9 ⟨rfl, hb9⟩; have hbel := ((below_drewN' HST.out.1 _).trans (hb9.mono HST.out.1.size)); clear hb9)
    rw [rounds_succ]
    go_wp2_with (go_at_call 18; refine (wakes_any _).mono ?_; rintro e w9 ⟨rfl, hb9⟩; have hbel := ((below_drewN' HST.out.1 _).trans (hb9.mono HST.out.1.size)); clear hb9)
    rw [rounds_succ]
    go_wp2_with (go_at_call 18; refine (wakes_any _).mono ?_; rintro e w9 ⟨rfl, hb9⟩; have hbel := ((below_drewN' HST.out.1 _).trans (hb9.mono HST.out.1.size)); clear hb9)
    rw [rounds_succ]
    go_wp2_with (go_at_call 18; refine (wakes_any _).mono ?_; rintro e w9 ⟨rfl, hb9⟩; have hbel := ((below_drewN' HST.out.1 _).trans (hb9.mono HST.out.1.size)); clear hb9)
    rw [rounds_succ]
    go_wp2_with (go_at_call 18; refine (wakes_any _).mono ?_; rintro e w9 ⟨rfl, hb9⟩; have hbel := ((below_drewN' HST.out.1 _).trans (hb9.mono HST.out.1.size)); clear hb9)
    all_goals first
      | (exfalso; have hx := HG8.out; have hy := HQ.out; omega)
      | (go_ret; exact ⟨rfl, hbel⟩)

set_option maxRecDepth 100000 in
set_option maxHeartbeats 2000000 in
theorem grows_1 (v0 : Value) (l : List Int) (v : Int) (W0 : World) (h0 : SliceOf W0 v0 l) (l0 : l.length ≤ 300) (hk : bucketW v = 1) :
    Calls Try.prog 5 #[v0, .int .i64 v] W0 fun e w' => e = .returned (.bool true) ∧ Below W0.heap.size W0 w' := by
  obtain ⟨s0, c0, hv⟩ := h0.form
  subst hv
  have HS := Lib.hid h0
  have Hk := Lib.hid hk
  obtain ⟨a, Ha⟩ : ∃ a : A8, Hid (of8 l = a) := ⟨_, rfl⟩
  obtain ⟨b, Hb⟩ : ∃ b : A8, Hid (put8 a v = b) := ⟨_, rfl⟩
  have HG := Lib.hid (grown1 l0 Ha.out Hb.out)
  have HH := Lib.hid (grown_h l0 Ha.out Hb.out)
  have HST := Lib.hid (St.init W0)
  clear h0 hk
  go_enter Try.func5, Try.ntmps5
  go_wp2_with fail
  refine (of_list (HST.out.list HS.out) (by omega)).mono ?_
  rintro e u0 ⟨rfl, hb⟩
  rw [Ha.out]
  have hST := (HST.out.call hb).alloc #[.int .i64 a.c, .int .i64 a.s, .int .i64 a.mn, .int .i64 a.mx, .int .i64 a.h0, .int .i64 a.h1, .int .i64 a.h2, .int .i64 a.h3]
  clear HST hb
  have HST := Lib.hid hST
  clear hST
  unfold A8.arr
  dsimp only
  go_wp2_with fail
  refine (put_8 a v _).mono ?_
  rintro e u1 ⟨rfl, hb⟩
  rw [Hb.out]
  have hST := (HST.out.call hb).alloc #[.int .i64 b.c, .int .i64 b.s, .int .i64 b.mn, .int .i64 b.mx, .int .i64 b.h0, .int .i64 b.h1, .int .i64 b.h2, .int .i64 b.h3]
  clear HST hb
  have HST := Lib.hid hST
  clear hST
  unfold A8.arr
  dsimp only
  go_wp2_with fail
  refine (bucket_any v _).mono ?_
  rintro e w1 ⟨rfl, rfl⟩
  rw [Hk.out]
  generalize hV : World.alloc u1 _ = V0 at HST
  clear hV
  go_wp2_with fail
  have hca := HST.out.cells u0.heap.size #[.int .i64 a.c, .int .i64 a.s, .int .i64 a.mn, .int .i64 a.mx, .int .i64 a.h0, .int .i64 a.h1, .int .i64 a.h2, .int .i64 a.h3] (by simp)
  have hcb := HST.out.cells u1.heap.size #[.int .i64 b.c, .int .i64 b.s, .int .i64 b.mn, .int .i64 b.mx, .int .i64 b.h0, .int .i64 b.h1, .int .i64 b.h2, .int .i64 b.h3] (by simp)
  obtain ⟨g1, g2, g3, g4, g5, g6, g7, g8, g9⟩ := HG.out
  have e1 : IntKind.i64.wrap (a.c + 1) = a.c + 1 := IntWalk.i64_in _ (by omega)
  have e2 : (b.c != a.c + 1) = false := by rw [g1]; simp
  have e3 : decide (v < b.mn) = false := by simpa using g4
  have e4 : decide (b.mx < v) = false := by simpa using g5
  have e5 : (b.s != plusW a.s v) = false := by rw [g7]; simp
  have e9 : (0 < a.c ∧ b.mn ≤ a.mn ∧ a.mx ≤ b.mx) ∨ (a.c ≤ 0 ∧ b.mn = v ∧ b.mx = v) := by
    by_cases hp : 0 < a.c
    · exact .inl ⟨hp, g6 hp⟩
    · rcases g8 with g8 | g8 <;> rcases g9 with g9 | g9 <;> first | exact .inr ⟨by omega, g8, g9⟩ | omega
  have HE9 := Lib.hid e9
  have HG8 := Lib.hid (And.intro g8 g9)
  clear g1 g2 g3 g4 g5 g6 g7 g8 g9 e9
  rcases HE9.out with ⟨hp, hq1, hq2⟩ | ⟨hp, hq1, hq2⟩
  · have HQ := Lib.hid hp
    have e6 : decide (0 < a.c) = true := by simpa using hp
    have e7 : decide (a.mn < b.mn) = false := by simpa using hq1
    have e8 : decide (b.mx < a.mx) = false := by simpa using hq2
    clear hp hq1 hq2
    go_quiet ((go_at_call 10; exact quiet_left' (plus_any _ _ _)))
    clear e7 e8
    clear e1 e2 e3 e4 e5
    obtain ⟨⟨p1, p2, p3⟩, ⟨p4, p5, p6⟩, ⟨p7, p8, p9⟩, ⟨p10, p11, p12⟩⟩ := HH.out
    have i0 : hI v 0 = 0 := by unfold hI; rw [Hk.out]; rfl
    rw [i0] at p3
    rw [Int.add_zero] at p3
    have i1 : hI v 1 = 1 := by unfold hI; rw [Hk.out]; rfl
    rw [i1] at p6
    have i2 : hI v 2 = 0 := by unfold hI; rw [Hk.out]; rfl
    rw [i2] at p9
    rw [Int.add_zero] at p9
    have i3 : hI v 3 = 0 := by unfold hI; rw [Hk.out]; rfl
    rw [i3] at p12
    rw [Int.add_zero] at p12
    clear i0 i1 i2 i3
    go_wp2_with fail
    refine wp_loop_rounds 5 ?_
    rw [rounds_succ]
    go_wp2_with (go_at_call 18; refine (wakes_any _).mono ?_; rintro e w9 ⟨rfl, hb9⟩; have hbel := ((below_drewN' HST.out.1 _).trans (hb9.mono HST.out.1.size)); clear hb9)
    rw [rounds_succ]
    go_wp2_with (go_at_call 18; refine (wakes_any _).mono ?_; rintro e w9 ⟨rfl, hb9⟩; have hbel := ((below_drewN' HST.out.1 _).trans (hb9.mono HST.out.1.size)); clear hb9)
    rw [rounds_succ]
    go_wp2_with (go_at_call 18; refine (wakes_any _).mono ?_; rintro e w9 ⟨rfl, hb9⟩; have hbel := ((below_drewN' HST.out.1 _).trans (hb9.mono HST.out.1.size)); clear hb9)
    rw [rounds_succ]
    go_wp2_with (go_at_call 18; refine (wakes_any _).mono ?_; rintro e w9 ⟨rfl, hb9⟩; have hbel := ((below_drewN' HST.out.1 _).trans (hb9.mono HST.out.1.size)); clear hb9)
    rw [rounds_succ]
    go_wp2_with (go_at_call 18; refine (wakes_any _).mono ?_; rintro e w9 ⟨rfl, hb9⟩; have hbel := ((below_drewN' HST.out.1 _).trans (hb9.mono HST.out.1.size)); clear hb9)
    all_goals first
      | (exfalso; have hx := HG8.out; have hy := HQ.out; omega)
      | (go_ret; exact ⟨rfl, hbel⟩)
  · have HQ := Lib.hid (And.intro hp (And.intro hq1 hq2))
    have e6 : decide (0 < a.c) = false := by simpa using hp
    clear hp hq1 hq2
    go_quiet ((go_at_call 10; exact quiet_left' (plus_any _ _ _)))
    clear e1 e2 e3 e4 e5
    obtain ⟨⟨p1, p2, p3⟩, ⟨p4, p5, p6⟩, ⟨p7, p8, p9⟩, ⟨p10, p11, p12⟩⟩ := HH.out
    have i0 : hI v 0 = 0 := by unfold hI; rw [Hk.out]; rfl
    rw [i0] at p3
    rw [Int.add_zero] at p3
    have i1 : hI v 1 = 1 := by unfold hI; rw [Hk.out]; rfl
    rw [i1] at p6
    have i2 : hI v 2 = 0 := by unfold hI; rw [Hk.out]; rfl
    rw [i2] at p9
    rw [Int.add_zero] at p9
    have i3 : hI v 3 = 0 := by unfold hI; rw [Hk.out]; rfl
    rw [i3] at p12
    rw [Int.add_zero] at p12
    clear i0 i1 i2 i3
    go_wp2_with fail
    refine wp_loop_rounds 5 ?_
    rw [rounds_succ]
    go_wp2_with (go_at_call 18; refine (wakes_any _).mono ?_; rintro e w9 ⟨rfl, hb9⟩; have hbel := ((below_drewN' HST.out.1 _).trans (hb9.mono HST.out.1.size)); clear hb9)
    rw [rounds_succ]
    go_wp2_with (go_at_call 18; refine (wakes_any _).mono ?_; rintro e w9 ⟨rfl, hb9⟩; have hbel := ((below_drewN' HST.out.1 _).trans (hb9.mono HST.out.1.size)); clear hb9)
    rw [rounds_succ]
    go_wp2_with (go_at_call 18; refine (wakes_any _).mono ?_; rintro e w9 ⟨rfl, hb9⟩; have hbel := ((below_drewN' HST.out.1 _).trans (hb9.mono HST.out.1.size)); clear hb9)
    rw [rounds_succ]
    go_wp2_with (go_at_call 18; refine (wakes_any _).mono ?_; rintro e w9 ⟨rfl, hb9⟩; have hbel := ((below_drewN' HST.out.1 _).trans (hb9.mono HST.out.1.size)); clear hb9)
    rw [rounds_succ]
    go_wp2_with (go_at_call 18; refine (wakes_any _).mono ?_; rintro e w9 ⟨rfl, hb9⟩; have hbel := ((below_drewN' HST.out.1 _).trans (hb9.mono HST.out.1.size)); clear hb9)
    all_goals first
      | (exfalso; have hx := HG8.out; have hy := HQ.out; omega)
      | (go_ret; exact ⟨rfl, hbel⟩)

set_option maxRecDepth 100000 in
set_option maxHeartbeats 2000000 in
theorem grows_2 (v0 : Value) (l : List Int) (v : Int) (W0 : World) (h0 : SliceOf W0 v0 l) (l0 : l.length ≤ 300) (hk : bucketW v = 2) :
    Calls Try.prog 5 #[v0, .int .i64 v] W0 fun e w' => e = .returned (.bool true) ∧ Below W0.heap.size W0 w' := by
  obtain ⟨s0, c0, hv⟩ := h0.form
  subst hv
  have HS := Lib.hid h0
  have Hk := Lib.hid hk
  obtain ⟨a, Ha⟩ : ∃ a : A8, Hid (of8 l = a) := ⟨_, rfl⟩
  obtain ⟨b, Hb⟩ : ∃ b : A8, Hid (put8 a v = b) := ⟨_, rfl⟩
  have HG := Lib.hid (grown1 l0 Ha.out Hb.out)
  have HH := Lib.hid (grown_h l0 Ha.out Hb.out)
  have HST := Lib.hid (St.init W0)
  clear h0 hk
  go_enter Try.func5, Try.ntmps5
  go_wp2_with fail
  refine (of_list (HST.out.list HS.out) (by omega)).mono ?_
  rintro e u0 ⟨rfl, hb⟩
  rw [Ha.out]
  have hST := (HST.out.call hb).alloc #[.int .i64 a.c, .int .i64 a.s, .int .i64 a.mn, .int .i64 a.mx, .int .i64 a.h0, .int .i64 a.h1, .int .i64 a.h2, .int .i64 a.h3]
  clear HST hb
  have HST := Lib.hid hST
  clear hST
  unfold A8.arr
  dsimp only
  go_wp2_with fail
  refine (put_8 a v _).mono ?_
  rintro e u1 ⟨rfl, hb⟩
  rw [Hb.out]
  have hST := (HST.out.call hb).alloc #[.int .i64 b.c, .int .i64 b.s, .int .i64 b.mn, .int .i64 b.mx, .int .i64 b.h0, .int .i64 b.h1, .int .i64 b.h2, .int .i64 b.h3]
  clear HST hb
  have HST := Lib.hid hST
  clear hST
  unfold A8.arr
  dsimp only
  go_wp2_with fail
  refine (bucket_any v _).mono ?_
  rintro e w1 ⟨rfl, rfl⟩
  rw [Hk.out]
  generalize hV : World.alloc u1 _ = V0 at HST
  clear hV
  go_wp2_with fail
  have hca := HST.out.cells u0.heap.size #[.int .i64 a.c, .int .i64 a.s, .int .i64 a.mn, .int .i64 a.mx, .int .i64 a.h0, .int .i64 a.h1, .int .i64 a.h2, .int .i64 a.h3] (by simp)
  have hcb := HST.out.cells u1.heap.size #[.int .i64 b.c, .int .i64 b.s, .int .i64 b.mn, .int .i64 b.mx, .int .i64 b.h0, .int .i64 b.h1, .int .i64 b.h2, .int .i64 b.h3] (by simp)
  obtain ⟨g1, g2, g3, g4, g5, g6, g7, g8, g9⟩ := HG.out
  have e1 : IntKind.i64.wrap (a.c + 1) = a.c + 1 := IntWalk.i64_in _ (by omega)
  have e2 : (b.c != a.c + 1) = false := by rw [g1]; simp
  have e3 : decide (v < b.mn) = false := by simpa using g4
  have e4 : decide (b.mx < v) = false := by simpa using g5
  have e5 : (b.s != plusW a.s v) = false := by rw [g7]; simp
  have e9 : (0 < a.c ∧ b.mn ≤ a.mn ∧ a.mx ≤ b.mx) ∨ (a.c ≤ 0 ∧ b.mn = v ∧ b.mx = v) := by
    by_cases hp : 0 < a.c
    · exact .inl ⟨hp, g6 hp⟩
    · rcases g8 with g8 | g8 <;> rcases g9 with g9 | g9 <;> first | exact .inr ⟨by omega, g8, g9⟩ | omega
  have HE9 := Lib.hid e9
  have HG8 := Lib.hid (And.intro g8 g9)
  clear g1 g2 g3 g4 g5 g6 g7 g8 g9 e9
  rcases HE9.out with ⟨hp, hq1, hq2⟩ | ⟨hp, hq1, hq2⟩
  · have HQ := Lib.hid hp
    have e6 : decide (0 < a.c) = true := by simpa using hp
    have e7 : decide (a.mn < b.mn) = false := by simpa using hq1
    have e8 : decide (b.mx < a.mx) = false := by simpa using hq2
    clear hp hq1 hq2
    go_quiet ((go_at_call 10; exact quiet_left' (plus_any _ _ _)))
    clear e7 e8
    clear e1 e2 e3 e4 e5
    obtain ⟨⟨p1, p2, p3⟩, ⟨p4, p5, p6⟩, ⟨p7, p8, p9⟩, ⟨p10, p11, p12⟩⟩ := HH.out
    have i0 : hI v 0 = 0 := by unfold hI; rw [Hk.out]; rfl
    rw [i0] at p3
    rw [Int.add_zero] at p3
    have i1 : hI v 1 = 0 := by unfold hI; rw [Hk.out]; rfl
    rw [i1] at p6
    rw [Int.add_zero] at p6
    have i2 : hI v 2 = 1 := by unfold hI; rw [Hk.out]; rfl
    rw [i2] at p9
    have i3 : hI v 3 = 0 := by unfold hI; rw [Hk.out]; rfl
    rw [i3] at p12
    rw [Int.add_zero] at p12
    clear i0 i1 i2 i3
    go_wp2_with fail
    refine wp_loop_rounds 5 ?_
    rw [rounds_succ]
    go_wp2_with (go_at_call 18; refine (wakes_any _).mono ?_; rintro e w9 ⟨rfl, hb9⟩; have hbel := ((below_drewN' HST.out.1 _).trans (hb9.mono HST.out.1.size)); clear hb9)
    rw [rounds_succ]
    go_wp2_with (go_at_call 18; refine (wakes_any _).mono ?_; rintro e w9 ⟨rfl, hb9⟩; have hbel := ((below_drewN' HST.out.1 _).trans (hb9.mono HST.out.1.size)); clear hb9)
    rw [rounds_succ]
    go_wp2_with (go_at_call 18; refine (wakes_any _).mono ?_; rintro e w9 ⟨rfl, hb9⟩; have hbel := ((below_drewN' HST.out.1 _).trans (hb9.mono HST.out.1.size)); clear hb9)
    rw [rounds_succ]
    go_wp2_with (go_at_call 18; refine (wakes_any _).mono ?_; rintro e w9 ⟨rfl, hb9⟩; have hbel := ((below_drewN' HST.out.1 _).trans (hb9.mono HST.out.1.size)); clear hb9)
    rw [rounds_succ]
    go_wp2_with (go_at_call 18; refine (wakes_any _).mono ?_; rintro e w9 ⟨rfl, hb9⟩; have hbel := ((below_drewN' HST.out.1 _).trans (hb9.mono HST.out.1.size)); clear hb9)
    all_goals first
      | (exfalso; have hx := HG8.out; have hy := HQ.out; omega)
      | (go_ret; exact ⟨rfl, hbel⟩)
  · have HQ := Lib.hid (And.intro hp (And.intro hq1 hq2))
    have e6 : decide (0 < a.c) = false := by simpa using hp
    clear hp hq1 hq2
    go_quiet ((go_at_call 10; exact quiet_left' (plus_any _ _ _)))
    clear e1 e2 e3 e4 e5
    obtain ⟨⟨p1, p2, p3⟩, ⟨p4, p5, p6⟩, ⟨p7, p8, p9⟩, ⟨p10, p11, p12⟩⟩ := HH.out
    have i0 : hI v 0 = 0 := by unfold hI; rw [Hk.out]; rfl
    rw [i0] at p3
    rw [Int.add_zero] at p3
    have i1 : hI v 1 = 0 := by unfold hI; rw [Hk.out]; rfl
    rw [i1] at p6
    rw [Int.add_zero] at p6
    have i2 : hI v 2 = 1 := by unfold hI; rw [Hk.out]; rfl
    rw [i2] at p9
    have i3 : hI v 3 = 0 := by unfold hI; rw [Hk.out]; rfl
    rw [i3] at p12
    rw [Int.add_zero] at p12
    clear i0 i1 i2 i3
    go_wp2_with fail
    refine wp_loop_rounds 5 ?_
    rw [rounds_succ]
    go_wp2_with (go_at_call 18; refine (wakes_any _).mono ?_; rintro e w9 ⟨rfl, hb9⟩; have hbel := ((below_drewN' HST.out.1 _).trans (hb9.mono HST.out.1.size)); clear hb9)
    rw [rounds_succ]
    go_wp2_with (go_at_call 18; refine (wakes_any _).mono ?_; rintro e w9 ⟨rfl, hb9⟩; have hbel := ((below_drewN' HST.out.1 _).trans (hb9.mono HST.out.1.size)); clear hb9)
    rw [rounds_succ]
    go_wp2_with (go_at_call 18; refine (wakes_any _).mono ?_; rintro e w9 ⟨rfl, hb9⟩; have hbel := ((below_drewN' HST.out.1 _).trans (hb9.mono HST.out.1.size)); clear hb9)
    rw [rounds_succ]
    go_wp2_with (go_at_call 18; refine (wakes_any _).mono ?_; rintro e w9 ⟨rfl, hb9⟩; have hbel := ((below_drewN' HST.out.1 _).trans (hb9.mono HST.out.1.size)); clear hb9)
    rw [rounds_succ]
    go_wp2_with (go_at_call 18; refine (wakes_any _).mono ?_; rintro e w9 ⟨rfl, hb9⟩; have hbel := ((below_drewN' HST.out.1 _).trans (hb9.mono HST.out.1.size)); clear hb9)
    all_goals first
      | (exfalso; have hx := HG8.out; have hy := HQ.out; omega)
      | (go_ret; exact ⟨rfl, hbel⟩)

set_option maxRecDepth 100000 in
set_option maxHeartbeats 2000000 in
theorem grows_3 (v0 : Value) (l : List Int) (v : Int) (W0 : World) (h0 : SliceOf W0 v0 l) (l0 : l.length ≤ 300) (hk : bucketW v = 3) :
    Calls Try.prog 5 #[v0, .int .i64 v] W0 fun e w' => e = .returned (.bool true) ∧ Below W0.heap.size W0 w' := by
  obtain ⟨s0, c0, hv⟩ := h0.form
  subst hv
  have HS := Lib.hid h0
  have Hk := Lib.hid hk
  obtain ⟨a, Ha⟩ : ∃ a : A8, Hid (of8 l = a) := ⟨_, rfl⟩
  obtain ⟨b, Hb⟩ : ∃ b : A8, Hid (put8 a v = b) := ⟨_, rfl⟩
  have HG := Lib.hid (grown1 l0 Ha.out Hb.out)
  have HH := Lib.hid (grown_h l0 Ha.out Hb.out)
  have HST := Lib.hid (St.init W0)
  clear h0 hk
  go_enter Try.func5, Try.ntmps5
  go_wp2_with fail
  refine (of_list (HST.out.list HS.out) (by omega)).mono ?_
  rintro e u0 ⟨rfl, hb⟩
  rw [Ha.out]
  have hST := (HST.out.call hb).alloc #[.int .i64 a.c, .int .i64 a.s, .int .i64 a.mn, .int .i64 a.mx, .int .i64 a.h0, .int .i64 a.h1, .int .i64 a.h2, .int .i64 a.h3]
  clear HST hb
  have HST := Lib.hid hST
  clear hST
  unfold A8.arr
  dsimp only
  go_wp2_with fail
  refine (put_8 a v _).mono ?_
  rintro e u1 ⟨rfl, hb⟩
  rw [Hb.out]
  have hST := (HST.out.call hb).alloc #[.int .i64 b.c, .int .i64 b.s, .int .i64 b.mn, .int .i64 b.mx, .int .i64 b.h0, .int .i64 b.h1, .int .i64 b.h2, .int .i64 b.h3]
  clear HST hb
  have HST := Lib.hid hST
  clear hST
  unfold A8.arr
  dsimp only
  go_wp2_with fail
  refine (bucket_any v _).mono ?_
  rintro e w1 ⟨rfl, rfl⟩
  rw [Hk.out]
  generalize hV : World.alloc u1 _ = V0 at HST
  clear hV
  go_wp2_with fail
  have hca := HST.out.cells u0.heap.size #[.int .i64 a.c, .int .i64 a.s, .int .i64 a.mn, .int .i64 a.mx, .int .i64 a.h0, .int .i64 a.h1, .int .i64 a.h2, .int .i64 a.h3] (by simp)
  have hcb := HST.out.cells u1.heap.size #[.int .i64 b.c, .int .i64 b.s, .int .i64 b.mn, .int .i64 b.mx, .int .i64 b.h0, .int .i64 b.h1, .int .i64 b.h2, .int .i64 b.h3] (by simp)
  obtain ⟨g1, g2, g3, g4, g5, g6, g7, g8, g9⟩ := HG.out
  have e1 : IntKind.i64.wrap (a.c + 1) = a.c + 1 := IntWalk.i64_in _ (by omega)
  have e2 : (b.c != a.c + 1) = false := by rw [g1]; simp
  have e3 : decide (v < b.mn) = false := by simpa using g4
  have e4 : decide (b.mx < v) = false := by simpa using g5
  have e5 : (b.s != plusW a.s v) = false := by rw [g7]; simp
  have e9 : (0 < a.c ∧ b.mn ≤ a.mn ∧ a.mx ≤ b.mx) ∨ (a.c ≤ 0 ∧ b.mn = v ∧ b.mx = v) := by
    by_cases hp : 0 < a.c
    · exact .inl ⟨hp, g6 hp⟩
    · rcases g8 with g8 | g8 <;> rcases g9 with g9 | g9 <;> first | exact .inr ⟨by omega, g8, g9⟩ | omega
  have HE9 := Lib.hid e9
  have HG8 := Lib.hid (And.intro g8 g9)
  clear g1 g2 g3 g4 g5 g6 g7 g8 g9 e9
  rcases HE9.out with ⟨hp, hq1, hq2⟩ | ⟨hp, hq1, hq2⟩
  · have HQ := Lib.hid hp
    have e6 : decide (0 < a.c) = true := by simpa using hp
    have e7 : decide (a.mn < b.mn) = false := by simpa using hq1
    have e8 : decide (b.mx < a.mx) = false := by simpa using hq2
    clear hp hq1 hq2
    go_quiet ((go_at_call 10; exact quiet_left' (plus_any _ _ _)))
    clear e7 e8
    clear e1 e2 e3 e4 e5
    obtain ⟨⟨p1, p2, p3⟩, ⟨p4, p5, p6⟩, ⟨p7, p8, p9⟩, ⟨p10, p11, p12⟩⟩ := HH.out
    have i0 : hI v 0 = 0 := by unfold hI; rw [Hk.out]; rfl
    rw [i0] at p3
    rw [Int.add_zero] at p3
    have i1 : hI v 1 = 0 := by unfold hI; rw [Hk.out]; rfl
    rw [i1] at p6
    rw [Int.add_zero] at p6
    have i2 : hI v 2 = 0 := by unfold hI; rw [Hk.out]; rfl
    rw [i2] at p9
    rw [Int.add_zero] at p9
    have i3 : hI v 3 = 1 := by unfold hI; rw [Hk.out]; rfl
    rw [i3] at p12
    clear i0 i1 i2 i3
    go_wp2_with fail
    refine wp_loop_rounds 5 ?_
    rw [rounds_succ]
    go_wp2_with (go_at_call 18; refine (wakes_any _).mono ?_; rintro e w9 ⟨rfl, hb9⟩; have hbel := ((below_drewN' HST.out.1 _).trans (hb9.mono HST.out.1.size)); clear hb9)
    rw [rounds_succ]
    go_wp2_with (go_at_call 18; refine (wakes_any _).mono ?_; rintro e w9 ⟨rfl, hb9⟩; have hbel := ((below_drewN' HST.out.1 _).trans (hb9.mono HST.out.1.size)); clear hb9)
    rw [rounds_succ]
    go_wp2_with (go_at_call 18; refine (wakes_any _).mono ?_; rintro e w9 ⟨rfl, hb9⟩; have hbel := ((below_drewN' HST.out.1 _).trans (hb9.mono HST.out.1.size)); clear hb9)
    rw [rounds_succ]
    go_wp2_with (go_at_call 18; refine (wakes_any _).mono ?_; rintro e w9 ⟨rfl, hb9⟩; have hbel := ((below_drewN' HST.out.1 _).trans (hb9.mono HST.out.1.size)); clear hb9)
    rw [rounds_succ]
    go_wp2_with (go_at_call 18; refine (wakes_any _).mono ?_; rintro e w9 ⟨rfl, hb9⟩; have hbel := ((below_drewN' HST.out.1 _).trans (hb9.mono HST.out.1.size)); clear hb9)
    all_goals first
      | (exfalso; have hx := HG8.out; have hy := HQ.out; omega)
      | (go_ret; exact ⟨rfl, hbel⟩)
  · have HQ := Lib.hid (And.intro hp (And.intro hq1 hq2))
    have e6 : decide (0 < a.c) = false := by simpa using hp
    clear hp hq1 hq2
    go_quiet ((go_at_call 10; exact quiet_left' (plus_any _ _ _)))
    clear e1 e2 e3 e4 e5
    obtain ⟨⟨p1, p2, p3⟩, ⟨p4, p5, p6⟩, ⟨p7, p8, p9⟩, ⟨p10, p11, p12⟩⟩ := HH.out
    have i0 : hI v 0 = 0 := by unfold hI; rw [Hk.out]; rfl
    rw [i0] at p3
    rw [Int.add_zero] at p3
    have i1 : hI v 1 = 0 := by unfold hI; rw [Hk.out]; rfl
    rw [i1] at p6
    rw [Int.add_zero] at p6
    have i2 : hI v 2 = 0 := by unfold hI; rw [Hk.out]; rfl
    rw [i2] at p9
    rw [Int.add_zero] at p9
    have i3 : hI v 3 = 1 := by unfold hI; rw [Hk.out]; rfl
    rw [i3] at p12
    clear i0 i1 i2 i3
    go_wp2_with fail
    refine wp_loop_rounds 5 ?_
    rw [rounds_succ]
    go_wp2_with (go_at_call 18; refine (wakes_any _).mono ?_; rintro e w9 ⟨rfl, hb9⟩; have hbel := ((below_drewN' HST.out.1 _).trans (hb9.mono HST.out.1.size)); clear hb9)
    rw [rounds_succ]
    go_wp2_with (go_at_call 18; refine (wakes_any _).mono ?_; rintro e w9 ⟨rfl, hb9⟩; have hbel := ((below_drewN' HST.out.1 _).trans (hb9.mono HST.out.1.size)); clear hb9)
    rw [rounds_succ]
    go_wp2_with (go_at_call 18; refine (wakes_any _).mono ?_; rintro e w9 ⟨rfl, hb9⟩; have hbel := ((below_drewN' HST.out.1 _).trans (hb9.mono HST.out.1.size)); clear hb9)
    rw [rounds_succ]
    go_wp2_with (go_at_call 18; refine (wakes_any _).mono ?_; rintro e w9 ⟨rfl, hb9⟩; have hbel := ((below_drewN' HST.out.1 _).trans (hb9.mono HST.out.1.size)); clear hb9)
    rw [rounds_succ]
    go_wp2_with (go_at_call 18; refine (wakes_any _).mono ?_; rintro e w9 ⟨rfl, hb9⟩; have hbel := ((below_drewN' HST.out.1 _).trans (hb9.mono HST.out.1.size)); clear hb9)
    all_goals first
      | (exfalso; have hx := HG8.out; have hy := HQ.out; omega)
      | (go_ret; exact ⟨rfl, hbel⟩)

set_option maxHeartbeats 1000000 in
theorem grows_law (v0 : Value) (l : List Int) (v : Int) (W0 : World) (h0 : SliceOf W0 v0 l) (_hl : l.length ≤ maxLen) (_hr : ∀ x, x ∈ l → R64 x) (_hv : R64 v) :
    Calls Try.prog 5 #[v0, .int .i64 v] W0 fun e w' => e = .returned (.bool true) ∧ Below W0.heap.size W0 w' := by
  by_cases hb : l.length ≤ 300
  · rcases bucket_cases v with h | h | h | h
    · exact grows_0 v0 l v W0 h0 hb h
    · exact grows_1 v0 l v W0 h0 hb h
    · exact grows_2 v0 l v W0 h0 hb h
    · exact grows_3 v0 l v W0 h0 hb h
  · obtain ⟨s0, c0, hv⟩ := h0.form
    subst hv
    unfold maxLen at _hl
    have hb' : 300 < l.length := by omega
    clear hb _hr _hv h0
    go_enter Try.func5, Try.ntmps5
    go_wp2_with (go_at_call 18; refine (wakes_any _).mono ?_; rintro e w1 ⟨rfl, hbel⟩)
    go_ret
    exact ⟨rfl, hbel⟩
end Go.Proofs.Ytoiakejagmeliaa
