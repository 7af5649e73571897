/-
  seen.All.
-/
import Derived.Test.YtnjfjdfjheiocaaGreatShR
set_option linter.unusedSimpArgs false
set_option linter.unusedVariables false
namespace Go.Proofs.YtnjfjdfjheiocaaGreat
open Go.RowKit
/-- Codes that rise, within bounds. -/
structure CdOk (l : Cods) : Prop where
  rise : l.Pairwise fun p q => p.1 < q.1
  len : l.length < 100000
  lo : ∀ p ∈ l, 0 ≤ p.1 ∧ p.1 ≤ 1099511627776
def rowsE (i : Nat) (l : Cods) : List (Int × Int × Int) := l.map fun p => ((i : Int), p.1, p.2)
def upE (cd : Nat → Cods) : Nat → List (Int × Int × Int)
  | 0 => []
  | j + 1 => upE cd j ++ rowsE j (cd j)
abbrev enC (q : Int × Int × Int) : List Value := [.int .i64 q.1, .int .i64 q.2.1, .int .i64 q.2.2]
def enF (l : List (Int × Int × Int)) : List Value := l.flatMap enC
theorem enF_app (l : List (Int × Int × Int)) (q : Int × Int × Int) : enF (l ++ [q]) = enF l ++ enC q := by
  unfold enF
  simp
theorem upE_len {cd : Nat → Cods} (h : ∀ i, (cd i).length < 100000) : ∀ j, (upE cd j).length ≤ j * 100000
  | 0 => Nat.zero_le _
  | j + 1 => by
    unfold upE rowsE
    rw [List.length_append, List.length_map]
    have := upE_len h j
    have := h j
    omega
theorem lookC_at {l : Cods} (h : l.Pairwise fun p q => p.1 < q.1) {k : Nat} (hk : k < l.length) : lookC l (l[k]).1 = some (l[k]).2 := by
  induction l generalizing k with
  | nil => simp at hk
  | cons x r ih =>
    obtain ⟨h1, h2⟩ := List.pairwise_cons.1 h
    unfold lookC
    rw [List.find?_cons]
    cases k with
    | zero => simp
    | succ k =>
      have hk2 : k < r.length := by simpa using hk
      have h3 := h1 _ (List.getElem_mem hk2)
      have h4 : (x.1 == ((x :: r)[k + 1]).1) = false := beq_eq_false_iff_ne.2 (by simp only [List.getElem_cons_succ]; omega)
      rw [h4]
      have := ih h2 hk2
      unfold lookC at this
      simpa using this
section
variable {w0 W W' w : World} {L X : List Thg} {lo : Nat → Int} {bs : Nat → Nat} {cd : Nat → Cods} {pn g : Nat} {v : Value}
abbrev mpA (bs : Nat → Nat) : Array Value := #[.map (some (bs 0)), .map (some (bs 1)), .map (some (bs 2)), .map (some (bs 3))]
theorem infoMA : (Tryz.prog.info? 113).map (·.size) = some 4 := by kernel_rfl
theorem ld_maps (h : w.heap[g]? = some (.cells (snC lo bs) 115 (0, 0))) : (Instr.loadAt 113 (.pointer (some ⟨g, 4, none⟩))).run Tryz.prog w = .ok (.agg (mpA bs)) w :=
  ld_rowA (cs := mpA bs) (fun k u hu => by
    have h1 : k < 4 := (Array.getElem?_eq_some_iff.1 hu).1
    have e1 : (⟨g, 4, none⟩ : Addr).add k = ⟨g, 4 + k, none⟩ := by cases k <;> simp [Addr.add]
    rw [e1, cells_at h, snP_mp h1]
    match k, h1 with
    | 0, _ | 1, _ | 2, _ | 3, _ => simpa using hu) Tryz.underlying113 rfl infoMA
theorem ix_maps {j : Nat} (h : j < 4) : (Instr.index 113 (.agg (mpA bs)) (.int .i64 (j : Nat))).run Tryz.prog w = .ok (.map (some (bs j))) w := by
  match j, h with
  | 0, _ | 1, _ | 2, _ | 3, _ =>
    unfold Instr.index
    simp [go_sem, part]
theorem bd_en {a b c : Int} : (Instr.build 93 #[(0, .int .i64 a), (1, .int .i64 b), (2, .int .i64 c)]).run Tryz.prog w = .ok (.agg (enC (a, b, c)).toArray) w := by
  simp [go_sem]
theorem bs_en {q : Int × Int × Int} : (Instr.buildSlice 61 1 #[(0, .agg (enC q).toArray)]).run Tryz.prog w = .ok (.slice (some ⟨w.heap.size, 0, none⟩) 1 1) (w.alloc (.cells (enC q).toArray 93)) := by
  simp [go_sem]
theorem infoEn : (Tryz.prog.info? 93).map (fun i => (i.zero, i.size, i.bytes)) = some (some (.agg #[.int .i64 0, .int .i64 0, .int .i64 0]), 3, 24) := by kernel_rfl
theorem enC_one (q : Int × Int × Int) : ∀ u ∈ enC q, u.oneCell' = true := fun u hu => by
  simp only [enC, List.mem_cons, List.not_mem_nil, or_false] at hu
  rcases hu with rfl | rfl | rfl <;> rfl
set_option maxRecDepth 100000 in
theorem sall_any (hL : LV w0 (bk pn (snC lo bs) 115 :: (snT bs cd ++ L)) W) (hcd : ∀ i, CdOk (cd i)) : Calls Tryz.prog 58 #[.pointer (some ⟨pn, 0, none⟩)] W fun e W' => ∃ v X, e = .returned v ∧ PRow 93 3 v (upE cd 4).length (enF (upE cd 4)) X ∧ LV w0 (X ++ (bk pn (snC lo bs) 115 :: (snT bs cd ++ L))) W' := by
  obtain ⟨i0, hi, hz0, hz1, hz2⟩ := info_parts infoEn
  have hup := upE_len fun i => (hcd i).len
  go_enter Tryz.func58, Tryz.ntmps58
  refine wp_fr (n := 38) (m := [(0, _)]) ⟨rfl, rfl, by intro p hp; simp only [List.mem_cons, List.not_mem_nil, or_false] at hp; rcases hp with rfl <;> rfl⟩ fun a0 H0 => ?_
  repeat (go_not_at_region 0; go_step)
  refine wp_region_lit ?_
  refine h_op H0 rfl (wn rfl) (R_as H0 rfl rfl) rfl (P1 0 rfl) fun a1 H1 => ?_
  clear H0
  refine h_end ?_
  repeat (go_not_at_region 1; go_step)
  refine wp_region_lit ?_
  refine h_op H1 rfl (wn rfl) (R_mv H1 rfl rfl) rfl (P2 8 0 rfl rfl) fun a2 H2 => ?_
  clear H1
  refine h_op H2 rfl (wn rfl) (R_bin H2 rfl rfl rfl B_pn) rfl (P2 9 0 rfl rfl) fun a3 H3 => ?_
  clear H2
  refine h_end ?_
  repeat (go_not_at_region 3; go_step)
  refine wp_cond_false (H3.ev (x := .tmp 9) rfl) ?_
  repeat (go_not_at_region 3; go_step)
  refine wp_region_lit ?_
  refine h_op H3 rfl (wn rfl) (R_as H3 rfl rfl) rfl (P2 3 0 rfl rfl) fun a4 H4 => ?_
  clear H3
  refine h_end ?_
  repeat (go_not_at_region 4; go_step)
  refine wp_region_lit ?_
  refine h_op H4 rfl (wn rfl) (R_mv H4 rfl rfl) rfl (P2 10 3 rfl rfl) fun a5 H5 => ?_
  clear H4
  refine h_op H5 rfl (wn rfl) (R_nc H5 rfl rfl) rfl (P2 11 3 rfl rfl) fun a6 H6 => ?_
  clear H5
  refine h_op H6 rfl (wn rfl) (R_fa H6 rfl rfl fs_s1) rfl (P2 12 3 rfl rfl) fun a7 H7 => ?_
  clear H6
  refine h_op H7 rfl (wn rfl) (R_ld H7 rfl rfl (ld_maps hL.at_)) rfl (P2 13 3 rfl rfl) fun a8 H8 => ?_
  clear H7
  refine h_op H8 rfl (wn rfl) (R_mv H8 rfl rfl) rfl (P3 14 13 3 rfl rfl rfl) fun a9 H9 => ?_
  clear H8
  refine h_end ?_
  repeat (go_not_at_region 5; go_step)
  obtain ⟨I, hI⟩ : ∃ I : Nat → Act → World → Prop, ∀ n a' w', I n a' w' ↔ ∃ (j : Nat) (vl : Value) (X : List Thg), n = 4 - j ∧ j ≤ 4 ∧ Fr a' 38 [(3, vl), (13, .agg (mpA bs)), (14, .int .i64 (j : Nat))] ∧ PRow 93 3 vl (upE cd j).length (enF (upE cd j)) X ∧ LV w0 (X ++ (bk pn (snC lo bs) 115 :: (snT bs cd ++ L))) w' := ⟨_, fun _ _ _ => Iff.rfl⟩
  have HI := Lib.hid hI
  clear hI
  refine wp_loop_ghost I 4 ((HI.out _ _ _).2 ⟨0, _, [], rfl, by omega, H9.pick _ (P3 3 13 14 rfl rfl rfl), PRow.nil, hL⟩) ?_
  clear hL H9
  intro n a1 wl hi'
  obtain ⟨j, vl, X, rfl, hj, H0, hr, hL⟩ := (HI.out _ _ _).1 hi'
  clear hi'
  by_cases hjl : j < 4
  · repeat (go_not_at_region 5; go_step)
    refine wp_region_lit ?_
    refine h_op H0 rfl (wn rfl) (R_bin H0 rfl rfl rfl (B_to (y := true) (B_lt Tryz.underlying3 _ _) (decide_eq_true (by omega)))) rfl (P4 15 3 13 14 rfl rfl rfl rfl) fun a1 H1 => ?_
    clear H0
    refine h_end ?_
    repeat (go_not_at_region 6; go_step)
    refine wp_cond_true (H1.ev (x := .tmp 15) rfl) ?_
    repeat (go_not_at_region 6; go_step)
    refine wp_region_lit ?_
    refine h_op H1 rfl (wn rfl) (R_mv H1 rfl rfl) rfl (P4 16 3 13 14 rfl rfl rfl rfl) fun a2 H2 => ?_
    clear H1
    refine h_op H2 rfl (wn rfl) (R_ix H2 rfl rfl rfl (ix_maps hjl)) rfl (P5 17 16 3 13 14 rfl rfl rfl rfl rfl) fun a3 H3 => ?_
    clear H2
    refine h_op H3 rfl (wn rfl) (R_as H3 rfl rfl) rfl (P5 4 17 3 13 14 rfl rfl rfl rfl rfl) fun a4 H4 => ?_
    clear H3
    refine h_op H4 rfl (wn rfl) (R_as H4 rfl rfl) rfl (P5 5 4 3 13 14 rfl rfl rfl rfl rfl) fun a5 H5 => ?_
    clear H4
    refine h_end ?_
    repeat (go_not_at_region 7; go_step)
    refine wp_region_lit ?_
    refine h_op H5 rfl (wn rfl) (R_mv H5 rfl rfl) rfl (P6 18 5 4 3 13 14 rfl rfl rfl rfl rfl rfl) fun a6 H6 => ?_
    clear H5
    refine h_call H6 rfl (wn rfl) (R_call1 H6 rfl rfl (fun w => by simp [go_sem])) rfl ?_
    refine (keys_call (b := bs j)).mono ?_
    rintro e w7 ⟨rfl, rfl⟩
    have hL2 := hL.alloc #[.map (some (bs j))] KTY
    refine ⟨_, rfl, fun a7 HH => ?_⟩
    have H7 := HH _ (P6 19 5 4 3 13 14 rfl rfl rfl rfl rfl rfl)
    clear HH H6
    refine h_call H7 rfl (wn rfl) (R_call1 H7 rfl rfl (fun w => by simp [go_sem])) rfl ?_
    refine (sorted_any (l := entC (cd j)) hL2 (List.mem_append.2 (.inr (List.mem_cons_of_mem _ (snT_mem hjl)))) (List.pairwise_map.2 (hcd j).rise) (by rw [entC_len]; have := (hcd j).len; omega)).mono ?_
    rintro e w8 ⟨vk, Xk, rfl, hrk, hL3⟩
    clear hL hL2
    have hL := (hL3.perm (List.perm_append_comm_assoc Xk [_] _)).tail
    clear hL3
    rw [entC_len] at hrk
    have hks : (entC (cd j)).map (·.1) = (cd j).map (·.1) := by unfold entC; rw [List.map_map]; rfl
    rw [hks] at hrk
    have hsl : ∃ q cc, vk = .slice q (cd j).length cc := by
      rcases hrk.2 with ⟨rfl, h0, _⟩ | ⟨g, cap, cur, rfl, _⟩
      · exact ⟨none, 0, by rw [h0]⟩
      · exact ⟨_, _, rfl⟩
    obtain ⟨qk, ck, rfl⟩ := hsl
    refine ⟨_, rfl, fun a8 HH => ?_⟩
    have H8 := HH _ (P6 20 5 4 3 13 14 rfl rfl rfl rfl rfl rfl)
    clear HH H7
    refine h_op H8 rfl (wn rfl) (R_lenS H8 rfl rfl Tryz.underlying52) rfl (P7 21 20 5 4 3 13 14 rfl rfl rfl rfl rfl rfl rfl) fun a9 H9 => ?_
    clear H8
    refine h_op H9 rfl (wn rfl) (R_mv H9 rfl rfl) rfl (P8 22 21 20 5 4 3 13 14 rfl rfl rfl rfl rfl rfl rfl rfl) fun a10 H10 => ?_
    clear H9
    refine h_end ?_
    replace hL := hL.perm (List.perm_append_comm_assoc Xk X _)
    have hkey : ∀ (w : World) (X : List Thg), LV w0 (X ++ (Xk ++ (bk pn (snC lo bs) 115 :: (snT bs cd ++ L)))) w → ∀ k (hk : k < (cd j).length), ∃ ad, qk = some ad ∧ w.cell? (ad.add k) = some (.int .i64 ((cd j)[k]).1) := by
      intro w X h k hk
      replace h := h.dropl
      rcases hrk.2 with ⟨h1, h0, _⟩ | ⟨g, cap, cur, h1, h2, h3, h4, h5, h6⟩
      · omega
      · cases h1
        subst h2
        refine ⟨_, rfl, ?_⟩
        have e1 : (⟨g, 0, none⟩ : Addr).add k = ⟨g, k, none⟩ := by cases k <;> simp [Addr.add]
        rw [e1, LV.cell h k]
        have h7 : (cur.toList.take ((cd j).length * 1))[k]? = (((cd j).map (·.1)).map encZ)[k]? := by rw [h6]
        rw [List.getElem?_take, if_pos (by omega), Array.getElem?_toList] at h7
        rw [h7]
        simp [hk]
    repeat (go_not_at_region 8; go_step)
    obtain ⟨J, hJ⟩ : ∃ J : Nat → Act → World → Prop, ∀ n a' w', J n a' w' ↔ ∃ (k : Nat) (vl : Value) (X : List Thg), n = (cd j).length - k ∧ k ≤ (cd j).length ∧ Fr a' 38 [(3, vl), (4, .int .i64 (j : Nat)), (5, .map (some (bs j))), (13, .agg (mpA bs)), (14, .int .i64 (j : Nat)), (20, .slice qk (cd j).length ck), (21, .int .i64 ((cd j).length : Nat)), (22, .int .i64 (k : Nat))] ∧ PRow 93 3 vl (upE cd j ++ rowsE j ((cd j).take k)).length (enF (upE cd j ++ rowsE j ((cd j).take k))) X ∧ LV w0 (X ++ (Xk ++ (bk pn (snC lo bs) 115 :: (snT bs cd ++ L)))) w' := ⟨_, fun _ _ _ => Iff.rfl⟩
    have HJ := Lib.hid hJ
    clear hJ
    refine wp_loop_ghost J (cd j).length ((HJ.out _ _ _).2 ⟨0, _, X, rfl, Nat.zero_le _, H10.pick _ (P8 3 4 5 13 14 20 21 22 rfl rfl rfl rfl rfl rfl rfl rfl), by simpa [rowsE] using hr, hL⟩) ?_
    clear hL hr hrk H10
    intro n a2 wm hi'
    obtain ⟨k, vl, X, rfl, hk, H0, hr, hL⟩ := (HJ.out _ _ _).1 hi'
    clear hi'
    have hlj := (hcd j).len
    have huj := hup j
    by_cases hkl : k < (cd j).length
    · repeat (go_not_at_region 8; go_step)
      refine wp_region_lit ?_
      refine h_op H0 rfl (wn rfl) (R_bin H0 rfl rfl rfl (B_to (y := true) (B_lt Tryz.underlying3 _ _) (decide_eq_true (by omega)))) rfl (P9 23 3 4 5 13 14 20 21 22 rfl rfl rfl rfl rfl rfl rfl rfl rfl) fun a1 H1 => ?_
      clear H0
      refine h_end ?_
      repeat (go_not_at_region 9; go_step)
      refine wp_cond_true (H1.ev (x := .tmp 23) rfl) ?_
      obtain ⟨ad, hqk, hck⟩ := hkey wm X hL k hkl
      have hlk := lookC_at (hcd j).rise hkl
      have hb := (hcd j).lo _ (List.getElem_mem hkl)
      subst hqk
      have hlr : ∀ w, LV w0 (X ++ (Xk ++ (bk pn (snC lo bs) 115 :: (snT bs cd ++ L)))) w → (Instr.lookup 112 (.map (some (bs j))) (.int .i64 ((cd j)[k]).1) false).run Tryz.prog w = .ok (.int .i64 ((cd j)[k]).2) w := by
        intro w h
        have h2 := lookC_run1 (k := ((cd j)[k]).1) (l := cd j) (by omega) (by omega) ((h.dropl).dropl.tail.mem_map (snT_mem (cd := cd) (L := L) hjl))
        rw [h2, hlk]
        rfl
      repeat (go_not_at_region 9; go_step)
      refine wp_region_lit ?_
      refine h_op H1 rfl (wn rfl) (R_ixa H1 rfl rfl rfl (ix_two hkl)) rfl (P9 24 3 4 5 13 14 20 21 22 rfl rfl rfl rfl rfl rfl rfl rfl rfl) fun a2 H2 => ?_
      clear H1
      refine h_op H2 rfl (wn rfl) (R_ld H2 rfl rfl (ld_inn hck)) rfl (P9 25 3 4 5 13 14 20 21 22 rfl rfl rfl rfl rfl rfl rfl rfl rfl) fun a3 H3 => ?_
      clear H2
      refine h_op H3 rfl (wn rfl) (R_as H3 rfl rfl) rfl (P9 7 3 4 5 13 14 20 21 22 rfl rfl rfl rfl rfl rfl rfl rfl rfl) fun a4 H4 => ?_
      clear H3
      refine h_end ?_
      repeat (go_not_at_region 10; go_step)
      refine wp_region_lit ?_
      refine h_op H4 rfl (wn rfl) (R_mv H4 rfl rfl) rfl (P10 26 7 3 4 5 13 14 20 21 22 rfl rfl rfl rfl rfl rfl rfl rfl rfl rfl) fun a5 H5 => ?_
      clear H4
      refine h_op H5 rfl (wn rfl) (R_mv H5 rfl rfl) rfl (P11 27 26 7 3 4 5 13 14 20 21 22 rfl rfl rfl rfl rfl rfl rfl rfl rfl rfl rfl) fun a6 H6 => ?_
      clear H5
      refine h_op H6 rfl (wn rfl) (R_mv H6 rfl rfl) rfl (P12 28 27 26 7 3 4 5 13 14 20 21 22 rfl rfl rfl rfl rfl rfl rfl rfl rfl rfl rfl rfl) fun a7 H7 => ?_
      clear H6
      refine h_op H7 rfl (wn rfl) (R_mv H7 rfl rfl) rfl (.cons (d := 29) rfl (.cons (d := 28) rfl (.cons (d := 27) rfl (.cons (d := 26) rfl (.cons (d := 7) rfl (.cons (d := 3) rfl (.cons (d := 4) rfl (.cons (d := 5) rfl (.cons (d := 13) rfl (.cons (d := 14) rfl (.cons (d := 20) rfl (.cons (d := 21) rfl (.cons (d := 22) rfl .nil))))))))))))) fun a8 H8 => ?_
      clear H7
      refine h_op H8 rfl (wn rfl) (R_mv H8 rfl rfl) rfl (.cons (d := 30) rfl (.cons (d := 29) rfl (.cons (d := 28) rfl (.cons (d := 27) rfl (.cons (d := 26) rfl (.cons (d := 3) rfl (.cons (d := 4) rfl (.cons (d := 5) rfl (.cons (d := 13) rfl (.cons (d := 14) rfl (.cons (d := 20) rfl (.cons (d := 21) rfl (.cons (d := 22) rfl .nil))))))))))))) fun a9 H9 => ?_
      clear H8
      refine h_op H9 rfl (wn rfl) (R_lk H9 rfl rfl rfl (hlr _ hL)) rfl (P12 31 28 27 26 3 4 5 13 14 20 21 22 rfl rfl rfl rfl rfl rfl rfl rfl rfl rfl rfl rfl) fun a10 H10 => ?_
      clear H9
      refine h_op H10 rfl (wn rfl) (R_bd3 H10 rfl rfl rfl rfl bd_en) rfl (P10 32 26 3 4 5 13 14 20 21 22 rfl rfl rfl rfl rfl rfl rfl rfl rfl rfl) fun a11 H11 => ?_
      clear H10
      refine h_opS (bk wm.heap.size (enC ((j : Int), (cd j)[k].1, (cd j)[k].2)).toArray 93 :: (X ++ (Xk ++ (bk pn (snC lo bs) 115 :: (snT bs cd ++ L))))) H11 rfl (wn rfl) (R_bs1 H11 rfl rfl (bs_en (q := ((j : Int), (cd j)[k].1, (cd j)[k].2)))) (hL.alloc _ _) rfl (P10 33 26 3 4 5 13 14 20 21 22 rfl rfl rfl rfl rfl rfl rfl rfl rfl rfl) fun a12 w12 H12 hL' => ?_
      replace hL := hL'
      clear H11 hL'
      obtain ⟨v2, W2, X2, hrun2, hr2, hL2⟩ := app_run (cn := 1) (m := 1) hr hL.fr1 List.mem_cons_self rfl Tryz.underlying61 hi hz0 hz1 hz2 rfl (by decide) rfl (enC_one _) (by rw [List.length_append, rowsE, List.length_map, List.length_take]; omega) (by decide) 61
      refine h_opS (X2 ++ (bk wm.heap.size (enC ((j : Int), (cd j)[k].1, (cd j)[k].2)).toArray 93 :: (Xk ++ (bk pn (snC lo bs) 115 :: (snT bs cd ++ L))))) H12 rfl (wn rfl) (R_app H12 rfl rfl rfl hrun2) (hL2) rfl (P9 34 3 4 5 13 14 20 21 22 rfl rfl rfl rfl rfl rfl rfl rfl rfl) fun a13 w13 H13 hL' => ?_
      replace hL := hL'
      clear H12 hL'
      refine h_op H13 rfl (wn rfl) (R_as H13 rfl rfl) rfl (P8 3 4 5 13 14 20 21 22 rfl rfl rfl rfl rfl rfl rfl rfl) fun a14 H14 => ?_
      clear H13
      refine h_end ?_
      repeat (go_not_at_region 11; go_step)
      refine wp_region_lit ?_
      refine h_op H14 rfl (wn rfl) (R_bin H14 rfl rfl rfl (B_add Tryz.underlying3 _ _ (by omega) (by omega))) rfl (P9 35 3 4 5 13 14 20 21 22 rfl rfl rfl rfl rfl rfl rfl rfl rfl) fun a15 H15 => ?_
      clear H14
      refine h_op H15 rfl (wn rfl) (R_mv H15 rfl rfl) rfl (P8 22 3 4 5 13 14 20 21 rfl rfl rfl rfl rfl rfl rfl rfl) fun a16 H16 => ?_
      clear H15
      refine h_end ?_
      have e1 : upE cd j ++ rowsE j ((cd j).take (k + 1)) = (upE cd j ++ rowsE j ((cd j).take k)) ++ [((j : Int), (cd j)[k].1, (cd j)[k].2)] := by
        unfold rowsE
        rw [List.take_succ_eq_append_getElem hkl, List.map_append, List.append_assoc]
        rfl
      have hr3 := hr2
      rw [← enF_app, ← e1] at hr3
      exact ⟨(cd j).length - (k + 1), by omega, (HJ.out _ _ _).2 ⟨k + 1, v2, X2, rfl, by omega, H16.pick _ (P8 3 4 5 13 14 20 21 22 rfl rfl rfl rfl rfl rfl rfl rfl), by rw [show (upE cd j ++ rowsE j ((cd j).take (k + 1))).length = (upE cd j ++ rowsE j ((cd j).take k)).length + 1 from by rw [e1, List.length_append]; rfl]; exact hr3, hL.bk1.tail⟩⟩
    · repeat (go_not_at_region 8; go_step)
      refine wp_region_lit ?_
      refine h_op H0 rfl (wn rfl) (R_bin H0 rfl rfl rfl (B_to (y := false) (B_lt Tryz.underlying3 _ _) (decide_eq_false (by omega)))) rfl (P9 23 3 4 5 13 14 20 21 22 rfl rfl rfl rfl rfl rfl rfl rfl rfl) fun a1 H1 => ?_
      clear H0
      refine h_end ?_
      repeat (go_not_at_region 12; go_step)
      refine wp_cond_false (H1.ev (x := .tmp 23) rfl) ?_
      have ek : k = (cd j).length := by omega
      subst ek
      rw [List.take_length] at hr
      repeat (go_not_at_region 12; go_step)
      refine wp_region_lit ?_
      refine h_op H1 rfl (wn rfl) (R_bin H1 rfl rfl rfl (B_add Tryz.underlying3 _ _ (by omega) (by omega))) rfl (P4 36 3 13 14 rfl rfl rfl rfl) fun a2 H2 => ?_
      clear H1
      refine h_op H2 rfl (wn rfl) (R_mv H2 rfl rfl) rfl (P3 14 3 13 rfl rfl rfl) fun a3 H3 => ?_
      clear H2
      refine h_end ?_
      exact ⟨4 - (j + 1), by omega, (HI.out _ _ _).2 ⟨j + 1, _, X, rfl, by omega, H3.pick _ (P3 3 13 14 rfl rfl rfl), hr, (hL.perm (List.perm_append_comm_assoc X Xk _)).dropl⟩⟩
  · repeat (go_not_at_region 5; go_step)
    refine wp_region_lit ?_
    refine h_op H0 rfl (wn rfl) (R_bin H0 rfl rfl rfl (B_to (y := false) (B_lt Tryz.underlying3 _ _) (decide_eq_false (by omega)))) rfl (P4 15 3 13 14 rfl rfl rfl rfl) fun a1 H1 => ?_
    clear H0
    refine h_end ?_
    repeat (go_not_at_region 13; go_step)
    refine wp_cond_false (H1.ev (x := .tmp 15) rfl) ?_
    have ej : j = 4 := by omega
    subst ej
    repeat (go_not_at_region 13; go_step)
    refine wp_region_lit ?_
    refine h_op H1 rfl (wn rfl) (R_mv H1 rfl rfl) rfl (P1 37 rfl) fun a2 H2 => ?_
    clear H1
    refine h_op H2 rfl (wn rfl) (R_as H2 rfl rfl) rfl (P1 2 rfl) fun a3 H3 => ?_
    clear H2
    refine h_end ?_
    repeat (go_not_at_region 999; go_step)
    exact H3.ret1 rfl rfl ⟨_, X, rfl, hr, hL⟩
set_option maxRecDepth 100000 in
theorem shans_any {A : Adr} {S : PSt} (hL : LV w0 (stT A S L) W) (hcd : ∀ i, CdOk (S.cd i)) : Calls Tryz.prog 30 #[.pointer (some ⟨A.g, 0, none⟩)] W fun e W' => ∃ v X, e = .returned v ∧ PRow 93 3 v (upE S.cd 4).length (enF (upE S.cd 4)) X ∧ LV w0 (X ++ stT A S L) W' := by
  go_enter Tryz.func30, Tryz.ntmps30
  refine wp_fr (n := 10) (m := [(0, _)]) ⟨rfl, rfl, by intro p hp; simp only [List.mem_cons, List.not_mem_nil, or_false] at hp; rcases hp with rfl <;> rfl⟩ fun a0 H0 => ?_
  repeat (go_not_at_region 0; go_step)
  refine wp_region_lit ?_
  refine h_op H0 rfl (wn rfl) (R_as H0 rfl rfl) rfl (P1 0 rfl) fun a1 H1 => ?_
  clear H0
  refine h_end ?_
  repeat (go_not_at_region 1; go_step)
  refine wp_region_lit ?_
  refine h_op H1 rfl (wn rfl) (R_mv H1 rfl rfl) rfl (P2 3 0 rfl rfl) fun a2 H2 => ?_
  clear H1
  refine h_call H2 rfl (wn rfl) (R_call1 H2 rfl rfl (fun w => by simp [go_sem])) rfl ?_
  refine (shnone_any hL.at_).mono ?_
  rintro e w3 ⟨rfl, hw⟩
  replace hL := hL.eqw hw
  clear hw
  refine ⟨_, rfl, fun a3 HH => ?_⟩
  have H3 := HH _ (P2 4 0 rfl rfl)
  clear HH H2
  refine h_end ?_
  repeat (go_not_at_region 3; go_step)
  refine wp_cond_false (H3.ev (x := .tmp 4) rfl) ?_
  repeat (go_not_at_region 3; go_step)
  refine wp_region_lit ?_
  refine h_op H3 rfl (wn rfl) (R_mv H3 rfl rfl) rfl (P1 5 rfl) fun a4 H4 => ?_
  clear H3
  refine h_op H4 rfl (wn rfl) (R_nc H4 rfl rfl) rfl (P1 6 rfl) fun a5 H5 => ?_
  clear H4
  refine h_op H5 rfl (wn rfl) (R_fa H5 rfl rfl fa_sh1) rfl (P1 7 rfl) fun a6 H6 => ?_
  clear H5
  refine h_op H6 rfl (wn rfl) (R_ld H6 rfl rfl (ld_psn (hL.cell 1))) rfl (P1 8 rfl) fun a7 H7 => ?_
  clear H6
  refine h_call H7 rfl (wn rfl) (R_call1 H7 rfl rfl (fun w => by simp [go_sem])) rfl ?_
  refine (sall_any (LV.bkS (X := [_, _, _, _]) hL) hcd).mono ?_
  rintro e w8 ⟨v2, X2, rfl, hr2, hL2⟩
  refine ⟨_, rfl, fun a8 HH => ?_⟩
  have H8 := HH _ (P1 9 rfl)
  clear HH H7
  refine h_op H8 rfl (wn rfl) (R_as H8 rfl rfl) rfl (P1 2 rfl) fun a9 H9 => ?_
  clear H8
  refine h_end ?_
  repeat (go_not_at_region 999; go_step)
  exact H9.ret1 rfl rfl ⟨v2, X2, rfl, hr2, hL2.perm ((List.perm_append_comm_assoc (bk A.pn (snC S.lo A.bs) 115 :: snT A.bs S.cd) [bk A.g (shC A.pl A.pn) 78, bk A.pl (lnC A.ps S.mark) 111, bk A.ps (stC A.b) 151, mw A.b S.M] L).append_left X2)⟩
end
end Go.Proofs.YtnjfjdfjheiocaaGreat
