/-
  snap.Pack: the walk.
-/
import Derived.Test.YtnjfjdfjheiocaaGreatSnA
set_option linter.unusedSimpArgs false
set_option linter.unusedVariables false
namespace Go.Proofs.YtnjfjdfjheiocaaGreat
open Go.RowKit
theorem vbytes_lt : ∀ (x : Nat), ∀ b ∈ vbytes x, b < 256 := by
  intro x
  induction x using Nat.strongRecOn with
  | _ x ih =>
    intro b hb
    by_cases h : x < 128
    · rw [vbytes_small h] at hb
      simp at hb
      omega
    · rw [vbytes_big (by omega)] at hb
      rcases List.mem_cons.1 hb with rfl | hb
      · omega
      · exact ih (x / 128) (by omega) b hb
theorem packM_lt (S : PSt) : ∀ b ∈ packM S, b < 256 := by
  intro b hb
  unfold packM at hb
  simp only [List.mem_append, List.mem_flatMap, List.mem_singleton] at hb
  rcases hb with (((((rfl | hb) | hb) | ⟨p, _, hb⟩) | ⟨z, _, hb⟩) | hb) | ⟨q, _, hb⟩
  · decide
  · exact vbytes_lt _ b hb
  · exact vbytes_lt _ b hb
  · unfold winB at hb
    simp only [List.mem_append, List.mem_flatMap] at hb
    rcases hb with (((hb | hb | hb) | hb) | ⟨z, _, hb⟩) | ⟨z, _, hb⟩
    · exact vbytes_lt _ b hb
    · exact vbytes_lt _ b hb
    · exact bytesOf_lt b hb
    · exact vbytes_lt _ b hb
    · exact vbytes_lt _ b hb
    · exact vbytes_lt _ b hb
  · exact vbytes_lt _ b hb
  · exact vbytes_lt _ b hb
  · unfold enB at hb
    simp only [List.mem_append, List.mem_singleton] at hb
    rcases hb with (hb | hb) | rfl
    · exact vbytes_lt _ b hb
    · exact vbytes_lt _ b hb
    · unfold codN
      omega
section
variable {w0 W w : World} {L R Y : List Thg} {A : Adr} {g : Nat} {p : Win × A8}
theorem hist_cells (h : w.heap[g]? = some (.cells (outA p) 57 (0, 0))) : ∀ (j : Nat) u, (#[.int .i64 p.2.h0, .int .i64 p.2.h1, .int .i64 p.2.h2, .int .i64 p.2.h3] : Array Value)[j]? = some u → w.cell? ((⟨g, 6, none⟩ : Addr).add j) = some u := by
  intro j u hu
  rw [show (⟨g, 6, none⟩ : Addr).add j = ⟨g, 6 + j, none⟩ from by unfold Addr.add; by_cases hk : j = 0 <;> simp [hk], cells_at h]
  have hj : j < 4 := by
    have := (Array.getElem?_eq_some_iff.1 hu).1
    simpa using this
  match j, hj with
  | 0, _ | 1, _ | 2, _ | 3, _ => exact hu
theorem al_en : (Instr.alloc 93 true (.tuple #[])).run Tryz.prog w = .ok (.pointer (some ⟨w.heap.size, 0, none⟩)) (w.alloc (.cells (enC (0, 0, 0)).toArray 93)) := by
  simp [go_sem]
theorem en_one (q : Int × Int × Int) : (enC q).toArray.all (·.oneCell') = true := by
  unfold enC
  simp only [List.all_toArray, List.all_cons, List.all_nil, Bool.and_true]
  rfl
end
section
variable {w0 W w : World} {L R Y : List Thg} {A : Adr} {S : PSt} {go : Nat} {xs : List Nat} {v : Value}
set_option maxRecDepth 100000 in
set_option maxHeartbeats 4000000 in
theorem pack_any (hok : POk S) (hL : LV w0 (stT A S L) W) : Calls Tryz.prog 44 #[.pointer (some ⟨A.g, 0, none⟩)] W fun e W' => e = .returned (.tuple #[.string (txt (packM S)), .int .i64 0]) ∧ LV w0 (stT A S L) W' := by
  have hml := hok.ml
  have hkey := hok.key
  have hag := hok.agg
  have hcd := hok.cd
  have hwl : ∀ p ∈ S.M, (winB p).length ≤ 200 := fun p hp => winB_le (hkey p hp) (hag p hp)
  have hul : (upE S.cd 4).length ≤ 4 * 1000 := by
    have h : ∀ j, (upE S.cd j).length ≤ j * 1000 := by
      intro j
      induction j with
      | zero => exact Nat.zero_le _
      | succ j ih =>
        unfold upE rowsE
        rw [List.length_append, List.length_map]
        have := hok.cl j
        omega
    exact h 4
  have hel : ∀ q ∈ upE S.cd 4, (enB q).length ≤ 21 := fun q _ => by
    unfold enB
    have h1 := vb_le q.1
    have h2 := vb_le q.2.1
    simp only [List.length_append, List.length_cons, List.length_nil]
    omega
  have hll : ∀ z ∈ loL S.lo, (vbytes (u64N z)).length ≤ 10 := fun z _ => vb_le z
  have v1 := vb_le S.mark
  have v2 := vbytes_le (x := S.M.length) (by omega)
  have v3 := vbytes_le (x := (upE S.cd 4).length) (by omega)
  have v4 := flat_len hll
  have v5 := flat_len hwl
  have v6 := flat_len hel
  have v7 : (loL S.lo).length = 4 := rfl
  go_enter Tryz.func44, Tryz.ntmps44
  refine wp_fr (n := 131) (m := [(0, _)]) ⟨rfl, rfl, by intro p hp; simp only [List.mem_cons, List.not_mem_nil, or_false] at hp; rcases hp with rfl <;> rfl⟩ fun a0 H0 => ?_
  repeat (go_not_at_region 0; go_step)
  refine wp_region_lit ?_
  refine us 2 H0 rfl fun _ H1 => ?_
  refine h_end ?_
  repeat (go_not_at_region 1; go_step)
  refine wp_region_lit ?_
  refine uc 1 H1 rfl (by kernel_rfl) (shlows_any hL) ?_
  rintro e w2 ⟨vl, X1, rfl, hrl, hL⟩
  obtain ⟨ql, cl, rfl, hcl⟩ := prow_rdm (M := loL S.lo) (enc := inE) (fun _ => rfl) hrl
  obtain ⟨al, rfl⟩ : ∃ a, ql = some a := by
    obtain ⟨ad, h, _⟩ := hcl w0 _ _ (fun p hp => List.mem_append_left _ hp) hL 0 (by show 0 < 4; decide)
    exact ⟨ad, h⟩
  refine ⟨_, rfl, _, rfl, fun _ H2 => ?_⟩
  refine us 1 H2 rfl fun _ H3 => ?_
  refine h_end ?_
  repeat (go_not_at_region 2; go_step)
  refine wp_region_lit ?_
  refine uv 1 H3 rfl B_sln rfl fun _ H4 => ?_
  refine h_end ?_
  repeat (go_not_at_region 4; go_step)
  refine wp_cond_false (H4.ev (x := .tmp 21) rfl) ?_
  repeat (go_not_at_region 4; go_step)
  refine wp_region_lit ?_
  refine uv 0 H4 rfl bd_ou rfl fun _ H5 => ?_
  refine uvS 0 H5 rfl bx_ou (hL.alloc _ _) rfl fun _ w6 H6 hL => ?_
  refine us 1 H6 rfl fun _ H7 => ?_
  refine h_end ?_
  obtain ⟨go, hgo⟩ : ∃ g, g = w2.heap.size := ⟨_, rfl⟩
  rw [← hgo] at H7 hL
  clear hgo
  replace hL : LV w0 (stT A S (bk go #[.slice none 0 0] 134 :: (X1 ++ L))) w6 := hL.perm ((List.perm_append_comm_assoc (bk go #[.slice none 0 0] 134 :: X1) (stT A S []) L))
  have hO : OutT go [] w0 (stT A S (X1 ++ L)) w6 := OutT.of (Y := []) (X := []) PRow.nil hL
  clear hL
  repeat (go_not_at_region 5; go_step)
  refine wp_region_lit ?_
  refine uc 1 H7 rfl (by kernel_rfl) (obyte_any (x := 1) (by decide) hO) ?_
  rintro e w8 ⟨rfl, hO⟩
  refine ⟨_, rfl, _, rfl, fun _ H8 => ?_⟩
  refine h_end ?_
  obtain ⟨u1, Z1, hu1, hL⟩ := hO.st
  clear hO
  repeat (go_not_at_region 6; go_step)
  refine wp_region_lit ?_
  refine uc 2 H8 rfl (by kernel_rfl) (shmark_any hL) ?_
  rintro e w9 ⟨rfl, hL⟩
  have hO := OutT.of (Y := []) hu1 hL
  clear hL hu1
  refine ⟨_, rfl, _, rfl, fun _ H9 => ?_⟩
  refine uv 0 H9 rfl (cv_u _) rfl fun _ H10 => ?_
  refine uc 0 H10 rfl (by kernel_rfl) (onum_any (u64N_lt _) (by simp only [List.length_append, List.length_cons, List.length_nil]; omega) hO) ?_
  rintro e w11 ⟨rfl, hO⟩
  refine ⟨_, rfl, _, rfl, fun _ H11 => ?_⟩
  refine h_end ?_
  obtain ⟨u2, Z2, hu2, hL⟩ := hO.st
  clear hO
  repeat (go_not_at_region 7; go_step)
  refine wp_region_lit ?_
  refine uc 1 H11 rfl (by kernel_rfl) (shopen_any hL (by omega)) ?_
  rintro e w12 ⟨vo, X2, rfl, hro, hL⟩
  have hO := OutT.of (Y := X2) hu2 hL
  clear hL hu2
  obtain ⟨qo, co, rfl, hco⟩ := prow_rdm (M := S.M) (enc := outE) (fun _ => rfl) hro
  refine ⟨_, rfl, _, rfl, fun _ H12 => ?_⟩
  refine us 1 H12 rfl fun _ H13 => ?_
  refine h_end ?_
  repeat (go_not_at_region 8; go_step)
  refine wp_region_lit ?_
  refine uv 3 H13 rfl (cv_nu (by omega)) rfl fun _ H14 => ?_
  refine uc 0 H14 rfl (by kernel_rfl) (onum_any (by omega) (by simp only [List.length_append, List.length_cons, List.length_nil]; omega) hO) ?_
  rintro e w15 ⟨rfl, hO⟩
  refine ⟨_, rfl, _, rfl, fun _ H15 => ?_⟩
  refine h_end ?_
  repeat (go_not_at_region 9; go_step)
  refine wp_region_lit ?_
  refine us 3 H15 rfl fun _ H16 => ?_
  refine h_end ?_
  have H17 := H16.kp [0, 4, 5, 6, 38, 39, 40] rfl
  obtain ⟨P1, hP1⟩ : ∃ P1, P1 = [1] ++ vbytes (u64N S.mark) ++ vbytes S.M.length := ⟨_, rfl⟩
  replace hO : OutT go P1 w0 (stT A S (X2 ++ (X1 ++ L))) w15 := by rw [hP1]; exact hO
  have hp1 : P1.length ≤ 21 := by rw [hP1]; simp only [List.length_append, List.length_cons, List.length_nil]; omega
  repeat (go_not_at_region 10; go_step)
  obtain ⟨I, hI⟩ : ∃ I : Nat → Act → World → Prop, ∀ n a' w', I n a' w' ↔ ∃ j : Nat, n = S.M.length - j ∧ j ≤ S.M.length ∧ Fr a' 131 [(0, .pointer (some ⟨A.g, 0, none⟩)), (4, .slice (some al) 4 cl), (5, .pointer (some ⟨go, 0, none⟩)), (6, .slice qo S.M.length co), (38, .slice qo S.M.length co), (39, .int .i64 (S.M.length : Nat)), (40, .int .i64 (j : Nat))] ∧ OutT go (P1 ++ (S.M.take j).flatMap winB) w0 (stT A S (X2 ++ (X1 ++ L))) w' := ⟨_, fun _ _ _ => Iff.rfl⟩
  have HI := Lib.hid hI
  clear hI
  refine wp_loop_ghost I S.M.length ((HI.out _ _ _).2 ⟨0, rfl, Nat.zero_le _, H17.pick _ (P7 0 4 5 6 38 39 40 rfl rfl rfl rfl rfl rfl rfl), by simpa using hO⟩) ?_
  clear hO
  intro n a1 wl hi'
  obtain ⟨j, rfl, hj, H0, hO⟩ := (HI.out _ _ _).1 hi'
  clear hi'
  by_cases hjl : j < S.M.length
  · obtain ⟨p, hp⟩ : ∃ p, p = S.M[j] := ⟨_, rfl⟩
    have hpm : p ∈ S.M := hp ▸ List.getElem_mem hjl
    have hpl := hwl p hpm
    have hpk := hkey p hpm
    have hpa := hag p hpm
    have hps := hok.st p hpm
    have hfl := flat_take_len hwl j
    obtain ⟨ad, hqo, hcell⟩ := hco w0 _ _ (fun q hq => List.mem_append_right (stT A S []) (List.mem_append_left _ hq)) hO.lv j hjl
    rw [← hp] at hcell
    have hexp : winB p = vbytes (u64N (p.1.1.tdiv 10)) ++ (vbytes p.1.2.size ++ bytesOf p.1.2) ++ vbytes (u64N p.2.c) ++ p.2.z3.flatMap (fun z => vbytes (zig z)) ++ p.2.h4.flatMap (fun z => vbytes (u64N z)) := rfl
    have hlen2 : (bytesOf p.1.2).length = p.1.2.size := bytesOf_len
    have w1 := vb_le (p.1.1.tdiv 10)
    have w2 := vbytes_le (x := p.1.2.size) (by omega)
    have w3 := vb_le p.2.c
    repeat (go_not_at_region 10; go_step)
    refine wp_region_lit ?_
    refine uv 0 H0 rfl (lt_t (by omega)) rfl fun _ H1 => ?_
    refine h_end ?_
    repeat (go_not_at_region 11; go_step)
    refine wp_cond_true (H1.ev (x := .tmp 41) rfl) ?_
    repeat (go_not_at_region 11; go_step)
    refine wp_region_lit ?_
    refine uv 0 H1 rfl (by rw [hqo]; exact ix_out rfl hjl) rfl fun _ H2 => ?_
    refine uv 0 H2 rfl (ld_outA hcell) rfl fun _ H3 => ?_
    refine uv 0 H3 rfl al_out rfl fun _ H4 => ?_
    replace hO := hO.box (fun L' hL => hL.alloc (outA outZ) 57)
    refine ust 0 H4 rfl (strw rfl (hO.lv.at_) rfl (out_one p)) fun _ H5 => ?_
    replace hO := hO.turn (fun L' hL => hL.row (outA p))
    refine h_end ?_
    obtain ⟨gw, hgw⟩ : ∃ g, g = wl.heap.size := ⟨_, rfl⟩
    rw [← hgw] at H5 hO ⊢
    generalize hww : (wl.alloc (.cells (outA outZ) 57)).setRow gw (outA p) = wb at hO ⊢
    clear hww hgw
    repeat (go_not_at_region 12; go_step)
    refine wp_region_lit ?_
    refine uv 2 H5 rfl (ld1 rfl ((cells_at hO.lv.at_ 1))) rfl fun _ H6 => ?_
    refine uv 0 H6 rfl (quo_10 hps.1 hps.2) rfl fun _ H7 => ?_
    refine uv 0 H7 rfl (cv_u _) rfl fun _ H8 => ?_
    refine uc 0 H8 rfl (by kernel_rfl) (onum_any (u64N_lt _) (by simp only [List.length_append] at *; omega) hO) ?_
    rintro e w9 ⟨rfl, hO⟩
    refine ⟨_, rfl, _, rfl, fun _ H9 => ?_⟩
    refine h_end ?_
    repeat (go_not_at_region 13; go_step)
    refine wp_region_lit ?_
    refine uv 2 H9 rfl (ld1 rfl ((cells_at hO.lv.at_ 0))) rfl fun _ H10 => ?_
    refine uc 0 H10 rfl (by kernel_rfl) (otext_any (s := p.1.2) (by omega) (by simp only [List.length_append] at *; omega) hO) ?_
    rintro e w11 ⟨rfl, hO⟩
    refine ⟨_, rfl, _, rfl, fun _ H11 => ?_⟩
    refine h_end ?_
    repeat (go_not_at_region 14; go_step)
    refine wp_region_lit ?_
    refine uv 3 H11 rfl (ld1 rfl ((cells_at hO.lv.at_ 2))) rfl fun _ H12 => ?_
    refine uv 0 H12 rfl (cv_u _) rfl fun _ H13 => ?_
    refine uc 0 H13 rfl (by kernel_rfl) (onum_any (u64N_lt _) (by simp only [List.length_append] at *; omega) hO) ?_
    rintro e w14 ⟨rfl, hO⟩
    refine ⟨_, rfl, _, rfl, fun _ H14 => ?_⟩
    refine h_end ?_
    repeat (go_not_at_region 15; go_step)
    refine wp_region_lit ?_
    refine uv 2 H14 rfl (ld1 rfl ((cells_at hO.lv.at_ 3))) rfl fun _ H15 => ?_
    refine uv 2 H15 rfl (ld1 rfl ((cells_at hO.lv.at_ 4))) rfl fun _ H16 => ?_
    refine uv 2 H16 rfl (ld1 rfl ((cells_at hO.lv.at_ 5))) rfl fun _ H17 => ?_
    refine uv 0 H17 rfl bd_3 rfl fun _ H18 => ?_
    refine us 1 H18 rfl fun _ H19 => ?_
    refine h_end ?_
    have H20 := H19.kp [0, 4, 5, 6, 8, 38, 39, 40, 69, 70] rfl
    obtain ⟨P2, hP2⟩ : ∃ P2, P2 = P1 ++ (S.M.take j).flatMap winB ++ vbytes (u64N (p.1.1.tdiv 10)) ++ (vbytes p.1.2.size ++ bytesOf p.1.2) ++ vbytes (u64N p.2.c) := ⟨_, rfl⟩
    rw [← hP2] at hO
    have hp2 : P2.length ≤ P1.length + S.M.length * 200 + 130 := by rw [hP2]; simp only [List.length_append] at *; omega
    have hz3 : p.2.z3.length = 3 := rfl
    repeat (go_not_at_region 16; go_step)
    obtain ⟨J, hJ⟩ : ∃ I : Nat → Act → World → Prop, ∀ n a' w', I n a' w' ↔ ∃ k : Nat, n = 3 - k ∧ k ≤ 3 ∧ Fr a' 131 [(0, .pointer (some ⟨A.g, 0, none⟩)), (4, .slice (some al) 4 cl), (5, .pointer (some ⟨go, 0, none⟩)), (6, .slice qo S.M.length co), (38, .slice qo S.M.length co), (39, .int .i64 (S.M.length : Nat)), (40, .int .i64 (j : Nat)), (8, .pointer (some ⟨gw, 0, none⟩)), (69, .agg #[.int .i64 p.2.s, .int .i64 p.2.mn, .int .i64 p.2.mx]), (70, .int .i64 (k : Nat))] ∧ OutT go (P2 ++ (p.2.z3.take k).flatMap fun z => vbytes (zig z)) w0 (bk gw (outA p) 57 :: stT A S (X2 ++ (X1 ++ L))) w' := ⟨_, fun _ _ _ => Iff.rfl⟩
    have HJ := Lib.hid hJ
    clear hJ
    refine wp_loop_ghost J 3 ((HJ.out _ _ _).2 ⟨0, rfl, Nat.zero_le _, H20.pick _ (P10 0 4 5 6 38 39 40 8 69 70 rfl rfl rfl rfl rfl rfl rfl rfl rfl rfl), by simpa using hO⟩) ?_
    clear hO
    intro n a2 wm hi'
    obtain ⟨k, rfl, hk, H0, hO⟩ := (HJ.out _ _ _).1 hi'
    clear hi'
    by_cases hk3 : k < 3
    · have hzr : -9223372036854775808 ≤ p.2.z3[k] ∧ p.2.z3[k] < 9223372036854775808 := by
        obtain ⟨r1, r2, r3⟩ := hpa
        match k, hk3 with
        | 0, _ => exact r1
        | 1, _ => exact r2
        | 2, _ => exact r3
      have hvz : ∀ z ∈ p.2.z3, (vbytes (zig z)).length ≤ 10 := fun z hz => by
        obtain ⟨r1, r2, r3⟩ := hpa
        unfold A8.z3 at hz
        simp only [List.mem_cons, List.not_mem_nil, or_false] at hz
        rcases hz with rfl | rfl | rfl
        · exact vbytes_le (zig_lt r1.1 r1.2)
        · exact vbytes_le (zig_lt r2.1 r2.2)
        · exact vbytes_le (zig_lt r3.1 r3.2)
      have hft := flat_take_len hvz k
      repeat (go_not_at_region 16; go_step)
      refine wp_region_lit ?_
      refine uv 0 H0 rfl (lt_t (by omega)) rfl fun _ H1 => ?_
      refine h_end ?_
      repeat (go_not_at_region 17; go_step)
      refine wp_cond_true (H1.ev (x := .tmp 71) rfl) ?_
      repeat (go_not_at_region 17; go_step)
      refine wp_region_lit ?_
      refine uv 0 H1 rfl (ix3 hk3) rfl fun _ H2 => ?_
      refine us 1 H2 rfl fun _ H3 => ?_
      refine h_end ?_
      rw [show [p.2.s, p.2.mn, p.2.mx][k] = p.2.z3[k] from rfl] at H3
      repeat (go_not_at_region 18; go_step)
      refine wp_region_lit ?_
      refine uc 2 H3 rfl (by kernel_rfl) (oint_any hzr.1 hzr.2 (by simp only [List.length_append] at *; omega) hO) ?_
      rintro e w4 ⟨rfl, hO⟩
      refine ⟨_, rfl, _, rfl, fun _ H4 => ?_⟩
      refine h_end ?_
      repeat (go_not_at_region 19; go_step)
      refine wp_region_lit ?_
      refine uv 0 H4 rfl (add_i (by omega) (by omega)) rfl fun _ H5 => ?_
      refine us 1 H5 rfl fun _ H6 => ?_
      refine h_end ?_
      rw [List.append_assoc, ← flat_take (f := fun z => vbytes (zig z)) (l := p.2.z3) hk3] at hO
      exact ⟨3 - (k + 1), by omega, (HJ.out _ _ _).2 ⟨k + 1, rfl, by omega, H6.pick _ (P10 0 4 5 6 38 39 40 8 69 70 rfl rfl rfl rfl rfl rfl rfl rfl rfl rfl), hO⟩⟩
    · obtain rfl : k = 3 := by omega
      rw [show p.2.z3.take 3 = p.2.z3 from rfl] at hO
      repeat (go_not_at_region 16; go_step)
      refine wp_region_lit ?_
      refine uv 0 H0 rfl (lt_f (by omega)) rfl fun _ H1 => ?_
      refine h_end ?_
      repeat (go_not_at_region 20; go_step)
      refine wp_cond_false (H1.ev (x := .tmp 71) rfl) ?_
      repeat (go_not_at_region 20; go_step)
      refine wp_region_lit ?_
      refine uv 2 H1 rfl (by exact ldr rfl (hist_cells hO.lv.at_)) rfl fun _ H2 => ?_
      refine us 1 H2 rfl fun _ H3 => ?_
      refine h_end ?_
      obtain ⟨P3, hP3⟩ : ∃ P3, P3 = P2 ++ p.2.z3.flatMap fun z => vbytes (zig z) := ⟨_, rfl⟩
      rw [← hP3] at hO
      have hp3 : P3.length ≤ P2.length + 30 := by
        have hvz : ∀ z ∈ p.2.z3, (vbytes (zig z)).length ≤ 10 := fun z hz => by
          obtain ⟨r1, r2, r3⟩ := hpa
          unfold A8.z3 at hz
          simp only [List.mem_cons, List.not_mem_nil, or_false] at hz
          rcases hz with rfl | rfl | rfl
          · exact vbytes_le (zig_lt r1.1 r1.2)
          · exact vbytes_le (zig_lt r2.1 r2.2)
          · exact vbytes_le (zig_lt r3.1 r3.2)
        have h := flat_len hvz
        rw [hP3, List.length_append]
        omega
      repeat (go_not_at_region 21; go_step)
      obtain ⟨I4, hI4⟩ : ∃ I : Nat → Act → World → Prop, ∀ n a' w', I n a' w' ↔ ∃ k : Nat, n = 4 - k ∧ k ≤ 4 ∧ Fr a' 131 [(0, .pointer (some ⟨A.g, 0, none⟩)), (4, .slice (some al) 4 cl), (5, .pointer (some ⟨go, 0, none⟩)), (6, .slice qo S.M.length co), (38, .slice qo S.M.length co), (39, .int .i64 (S.M.length : Nat)), (40, .int .i64 (j : Nat)), (8, .pointer (some ⟨gw, 0, none⟩)), (79, .agg #[.int .i64 p.2.h0, .int .i64 p.2.h1, .int .i64 p.2.h2, .int .i64 p.2.h3]), (80, .int .i64 (k : Nat))] ∧ OutT go (P3 ++ (p.2.h4.take k).flatMap fun z => vbytes (u64N z)) w0 (bk gw (outA p) 57 :: stT A S (X2 ++ (X1 ++ L))) w' := ⟨_, fun _ _ _ => Iff.rfl⟩
      have HI4 := Lib.hid hI4
      clear hI4
      refine wp_loop_ghost I4 4 ((HI4.out _ _ _).2 ⟨0, rfl, Nat.zero_le _, H3.pick _ (P10 0 4 5 6 38 39 40 8 79 80 rfl rfl rfl rfl rfl rfl rfl rfl rfl rfl), by simpa using hO⟩) ?_
      clear hO
      intro n a3 wn hi'
      obtain ⟨k, rfl, hk, H0, hO⟩ := (HI4.out _ _ _).1 hi'
      clear hi'
      by_cases hk4 : k < 4
      · have hft := flat_take_len (l := p.2.h4) (f := fun z => vbytes (u64N z)) (fun z _ => vb_le z) k
        have h4l : p.2.h4.length = 4 := rfl
        repeat (go_not_at_region 21; go_step)
        refine wp_region_lit ?_
        refine uv 0 H0 rfl (lt_t (by omega)) rfl fun _ H1 => ?_
        refine h_end ?_
        repeat (go_not_at_region 22; go_step)
        refine wp_cond_true (H1.ev (x := .tmp 81) rfl) ?_
        repeat (go_not_at_region 22; go_step)
        refine wp_region_lit ?_
        refine uv 0 H1 rfl (ix4 hk4) rfl fun _ H2 => ?_
        refine us 1 H2 rfl fun _ H3 => ?_
        refine h_end ?_
        rw [show [p.2.h0, p.2.h1, p.2.h2, p.2.h3][k] = p.2.h4[k] from rfl] at H3
        repeat (go_not_at_region 23; go_step)
        refine wp_region_lit ?_
        refine uv 2 H3 rfl (cv_u _) rfl fun _ H4 => ?_
        refine uc 0 H4 rfl (by kernel_rfl) (onum_any (u64N_lt _) (by simp only [List.length_append] at *; omega) hO) ?_
        rintro e w5 ⟨rfl, hO⟩
        refine ⟨_, rfl, _, rfl, fun _ H5 => ?_⟩
        refine h_end ?_
        repeat (go_not_at_region 24; go_step)
        refine wp_region_lit ?_
        refine uv 0 H5 rfl (add_i (by omega) (by omega)) rfl fun _ H6 => ?_
        refine us 1 H6 rfl fun _ H7 => ?_
        refine h_end ?_
        rw [List.append_assoc, ← flat_take (f := fun z => vbytes (u64N z)) (l := p.2.h4) hk4] at hO
        exact ⟨4 - (k + 1), by omega, (HI4.out _ _ _).2 ⟨k + 1, rfl, by omega, H7.pick _ (P10 0 4 5 6 38 39 40 8 79 80 rfl rfl rfl rfl rfl rfl rfl rfl rfl rfl), hO⟩⟩
      · obtain rfl : k = 4 := by omega
        rw [show p.2.h4.take 4 = p.2.h4 from rfl, hP3, hP2] at hO
        repeat (go_not_at_region 21; go_step)
        refine wp_region_lit ?_
        refine uv 0 H0 rfl (lt_f (by omega)) rfl fun _ H1 => ?_
        refine h_end ?_
        repeat (go_not_at_region 25; go_step)
        refine wp_cond_false (H1.ev (x := .tmp 81) rfl) ?_
        repeat (go_not_at_region 25; go_step)
        refine wp_region_lit ?_
        refine uv 0 H1 rfl (add_i (by omega) (by omega)) rfl fun _ H2 => ?_
        refine us 1 H2 rfl fun _ H3 => ?_
        refine h_end ?_
        replace hO := hO.unbox
        refine ⟨S.M.length - (j + 1), by omega, (HI.out _ _ _).2 ⟨j + 1, rfl, by omega, H3.pick _ (P7 0 4 5 6 38 39 40 rfl rfl rfl rfl rfl rfl rfl), ?_⟩⟩
        rw [flat_take hjl, ← hp, hexp]
        simp only [List.append_assoc] at hO ⊢
        exact hO
  · obtain rfl : j = S.M.length := by omega
    rw [List.take_length] at hO
    repeat (go_not_at_region 10; go_step)
    refine wp_region_lit ?_
    refine uv 0 H0 rfl (lt_f (by omega)) rfl fun _ H1 => ?_
    refine h_end ?_
    repeat (go_not_at_region 26; go_step)
    refine wp_cond_false (H1.ev (x := .tmp 41) rfl) ?_
    repeat (go_not_at_region 26; go_step)
    refine wp_region_lit ?_
    refine us 3 H1 rfl fun _ H2 => ?_
    refine h_end ?_
    obtain ⟨Q1, hQ1⟩ : ∃ Q1, Q1 = P1 ++ S.M.flatMap winB := ⟨_, rfl⟩
    rw [← hQ1] at hO
    have hq1 : Q1.length ≤ 21 + 200000 := by rw [hQ1, List.length_append]; omega
    repeat (go_not_at_region 27; go_step)
    obtain ⟨I5, hI5⟩ : ∃ I : Nat → Act → World → Prop, ∀ n a' w', I n a' w' ↔ ∃ k : Nat, n = 4 - k ∧ k ≤ 4 ∧ Fr a' 131 [(0, .pointer (some ⟨A.g, 0, none⟩)), (4, .slice (some al) 4 cl), (5, .pointer (some ⟨go, 0, none⟩)), (6, .slice qo S.M.length co), (89, .slice (some al) 4 cl), (90, .int .i64 4), (91, .int .i64 (k : Nat))] ∧ OutT go (Q1 ++ ((loL S.lo).take k).flatMap fun z => vbytes (u64N z)) w0 (stT A S (X2 ++ (X1 ++ L))) w' := ⟨_, fun _ _ _ => Iff.rfl⟩
    have HI5 := Lib.hid hI5
    clear hI5
    refine wp_loop_ghost I5 4 ((HI5.out _ _ _).2 ⟨0, rfl, Nat.zero_le _, H2.pick _ (P7 0 4 5 6 89 90 91 rfl rfl rfl rfl rfl rfl rfl), by simpa using hO⟩) ?_
    clear hO
    intro n a4 wp hi'
    obtain ⟨k, rfl, hk, H0, hO⟩ := (HI5.out _ _ _).1 hi'
    clear hi'
    have hft := flat_take_len hll k
    by_cases hk4 : k < 4
    · obtain ⟨ad, hqo, hcell⟩ := hcl w0 _ _ (fun q hq => List.mem_append_right (stT A S []) (List.mem_append_right X2 (List.mem_append_left _ hq))) hO.lv k hk4
      cases hqo
      repeat (go_not_at_region 27; go_step)
      refine wp_region_lit ?_
      refine uv 0 H0 rfl (lt_t (by omega)) rfl fun _ H1 => ?_
      refine h_end ?_
      repeat (go_not_at_region 28; go_step)
      refine wp_cond_true (H1.ev (x := .tmp 92) rfl) ?_
      repeat (go_not_at_region 28; go_step)
      refine wp_region_lit ?_
      refine uv 0 H1 rfl (ix_in rfl hk4) rfl fun _ H2 => ?_
      refine uv 0 H2 rfl (ld_inA hcell) rfl fun _ H3 => ?_
      refine us 1 H3 rfl fun _ H4 => ?_
      refine h_end ?_
      repeat (go_not_at_region 29; go_step)
      refine wp_region_lit ?_
      refine uv 2 H4 rfl (cv_un _) rfl fun _ H5 => ?_
      refine uc 0 H5 rfl (by kernel_rfl) (onum_any (u64N_lt _) (by simp only [List.length_append] at *; omega) hO) ?_
      rintro e w6 ⟨rfl, hO⟩
      refine ⟨_, rfl, _, rfl, fun _ H6 => ?_⟩
      refine h_end ?_
      repeat (go_not_at_region 30; go_step)
      refine wp_region_lit ?_
      refine uv 0 H6 rfl (add_i (by omega) (by omega)) rfl fun _ H7 => ?_
      refine us 1 H7 rfl fun _ H8 => ?_
      refine h_end ?_
      rw [List.append_assoc, ← flat_take (f := fun z => vbytes (u64N z)) (l := loL S.lo) hk4] at hO
      exact ⟨4 - (k + 1), by omega, (HI5.out _ _ _).2 ⟨k + 1, rfl, by omega, H8.pick _ (P7 0 4 5 6 89 90 91 rfl rfl rfl rfl rfl rfl rfl), hO⟩⟩
    · obtain rfl : k = 4 := by omega
      rw [show (loL S.lo).take 4 = loL S.lo from rfl] at hO
      repeat (go_not_at_region 27; go_step)
      refine wp_region_lit ?_
      refine uv 0 H0 rfl (lt_f (by omega)) rfl fun _ H1 => ?_
      refine h_end ?_
      repeat (go_not_at_region 31; go_step)
      refine wp_cond_false (H1.ev (x := .tmp 92) rfl) ?_
      obtain ⟨u3, Z3, hu3, hL⟩ := hO.st
      clear hO
      repeat (go_not_at_region 31; go_step)
      refine wp_region_lit ?_
      refine uc 1 H1 rfl (by kernel_rfl) (shans_any hL hcd) ?_
      rintro e w2 ⟨va, X3, rfl, hra, hL⟩
      have hO := OutT.of (Y := X3) hu3 hL
      clear hL hu3
      obtain ⟨qa, ca, rfl, hca⟩ := prow_rdm (M := upE S.cd 4) (enc := enC) (fun _ => rfl) hra
      refine ⟨_, rfl, _, rfl, fun _ H2 => ?_⟩
      refine us 1 H2 rfl fun _ H3 => ?_
      refine h_end ?_
      repeat (go_not_at_region 32; go_step)
      refine wp_region_lit ?_
      refine uv 3 H3 rfl (cv_nu (by omega)) rfl fun _ H4 => ?_
      refine uc 0 H4 rfl (by kernel_rfl) (onum_any (by omega) (by simp only [List.length_append] at *; omega) hO) ?_
      rintro e w5 ⟨rfl, hO⟩
      refine ⟨_, rfl, _, rfl, fun _ H5 => ?_⟩
      refine h_end ?_
      repeat (go_not_at_region 33; go_step)
      refine wp_region_lit ?_
      refine us 3 H5 rfl fun _ H6 => ?_
      refine h_end ?_
      obtain ⟨Q2, hQ2⟩ : ∃ Q2, Q2 = Q1 ++ (loL S.lo).flatMap (fun z => vbytes (u64N z)) ++ vbytes (upE S.cd 4).length := ⟨_, rfl⟩
      rw [← hQ2] at hO
      have hq2 : Q2.length ≤ 21 + 200000 + 60 := by rw [hQ2]; simp only [List.length_append] at *; omega
      repeat (go_not_at_region 34; go_step)
      obtain ⟨I6, hI6⟩ : ∃ I : Nat → Act → World → Prop, ∀ n a' w', I n a' w' ↔ ∃ j : Nat, n = (upE S.cd 4).length - j ∧ j ≤ (upE S.cd 4).length ∧ Fr a' 131 [(0, .pointer (some ⟨A.g, 0, none⟩)), (5, .pointer (some ⟨go, 0, none⟩)), (15, .slice qa (upE S.cd 4).length ca), (107, .slice qa (upE S.cd 4).length ca), (108, .int .i64 ((upE S.cd 4).length : Nat)), (109, .int .i64 (j : Nat))] ∧ OutT go (Q2 ++ ((upE S.cd 4).take j).flatMap enB) w0 (stT A S (X3 ++ (X2 ++ (X1 ++ L)))) w' := ⟨_, fun _ _ _ => Iff.rfl⟩
      have HI6 := Lib.hid hI6
      clear hI6
      refine wp_loop_ghost I6 (upE S.cd 4).length ((HI6.out _ _ _).2 ⟨0, rfl, Nat.zero_le _, H6.pick _ (P6 0 5 15 107 108 109 rfl rfl rfl rfl rfl rfl), by simpa using hO⟩) ?_
      clear hO
      intro n a4 wq hi'
      obtain ⟨j, rfl, hj, H0, hO⟩ := (HI6.out _ _ _).1 hi'
      clear hi'
      have hft := flat_take_len hel j
      by_cases hjl : j < (upE S.cd 4).length
      · obtain ⟨q, hq⟩ : ∃ q, q = (upE S.cd 4)[j] := ⟨_, rfl⟩
        obtain ⟨ad, hqo, hcell⟩ := hca w0 _ _ (fun q hq => List.mem_append_right (stT A S []) (List.mem_append_left _ hq)) hO.lv j hjl
        rw [← hq] at hcell
        have w1 := vb_le q.1
        have w2 := vb_le q.2.1
        repeat (go_not_at_region 34; go_step)
        refine wp_region_lit ?_
        refine uv 0 H0 rfl (lt_t (by omega)) rfl fun _ H1 => ?_
        refine h_end ?_
        repeat (go_not_at_region 35; go_step)
        refine wp_cond_true (H1.ev (x := .tmp 110) rfl) ?_
        repeat (go_not_at_region 35; go_step)
        refine wp_region_lit ?_
        refine uv 0 H1 rfl (by rw [hqo]; exact ix_en rfl hjl) rfl fun _ H2 => ?_
        refine uv 0 H2 rfl (ld_enA hcell) rfl fun _ H3 => ?_
        refine uv 0 H3 rfl al_en rfl fun _ H4 => ?_
        replace hO := hO.box (fun L' hL => hL.alloc (enC (0, 0, 0)).toArray 93)
        refine ust 0 H4 rfl (strw rfl (hO.lv.at_) rfl (en_one q)) fun _ H5 => ?_
        replace hO := hO.turn (fun L' hL => hL.row (enC q).toArray)
        refine h_end ?_
        obtain ⟨gw, hgw⟩ : ∃ g, g = wq.heap.size := ⟨_, rfl⟩
        rw [← hgw] at H5 hO ⊢
        generalize hww : (wq.alloc (.cells (enC (0, 0, 0)).toArray 93)).setRow gw (enC q).toArray = wb at hO ⊢
        clear hww hgw
        repeat (go_not_at_region 36; go_step)
        refine wp_region_lit ?_
        refine uv 2 H5 rfl (ld1 rfl ((cells_at hO.lv.at_ 0))) rfl fun _ H6 => ?_
        refine uv 0 H6 rfl (cv_un _) rfl fun _ H7 => ?_
        refine uc 0 H7 rfl (by kernel_rfl) (onum_any (u64N_lt _) (by simp only [List.length_append] at *; omega) hO) ?_
        rintro e w8 ⟨rfl, hO⟩
        refine ⟨_, rfl, _, rfl, fun _ H8 => ?_⟩
        refine h_end ?_
        repeat (go_not_at_region 37; go_step)
        refine wp_region_lit ?_
        refine uv 2 H8 rfl (ld1 rfl ((cells_at hO.lv.at_ 1))) rfl fun _ H9 => ?_
        refine uv 0 H9 rfl (cv_un _) rfl fun _ H10 => ?_
        refine uc 0 H10 rfl (by kernel_rfl) (onum_any (u64N_lt _) (by simp only [List.length_append] at *; omega) hO) ?_
        rintro e w11 ⟨rfl, hO⟩
        refine ⟨_, rfl, _, rfl, fun _ H11 => ?_⟩
        refine h_end ?_
        repeat (go_not_at_region 38; go_step)
        refine wp_region_lit ?_
        refine uv 2 H11 rfl (ld1 rfl ((cells_at hO.lv.at_ 2))) rfl fun _ H12 => ?_
        refine uv 0 H12 rfl (cv_ub _) rfl fun _ H13 => ?_
        refine uc 0 H13 rfl (by kernel_rfl) (obyte_any (x := codN q.2.2) (by simp only [List.length_append] at *; omega) hO) ?_
        rintro e w14 ⟨rfl, hO⟩
        refine ⟨_, rfl, _, rfl, fun _ H14 => ?_⟩
        refine h_end ?_
        repeat (go_not_at_region 39; go_step)
        refine wp_region_lit ?_
        refine uv 0 H14 rfl (add_i (by omega) (by omega)) rfl fun _ H15 => ?_
        refine us 1 H15 rfl fun _ H16 => ?_
        refine h_end ?_
        replace hO := hO.unbox
        refine ⟨(upE S.cd 4).length - (j + 1), by omega, (HI6.out _ _ _).2 ⟨j + 1, rfl, by omega, H16.pick _ (P6 0 5 15 107 108 109 rfl rfl rfl rfl rfl rfl), ?_⟩⟩
        rw [flat_take hjl, ← hq, show enB q = vbytes (u64N q.1) ++ vbytes (u64N q.2.1) ++ [codN q.2.2] from rfl]
        simp only [List.append_assoc] at hO ⊢
        exact hO
      · obtain rfl : j = (upE S.cd 4).length := by omega
        rw [List.take_length] at hO
        have hpk : Q2 ++ (upE S.cd 4).flatMap enB = packM S := by
          unfold packM
          rw [hQ2, hQ1, hP1]
        rw [hpk] at hO
        repeat (go_not_at_region 34; go_step)
        refine wp_region_lit ?_
        refine uv 0 H0 rfl (lt_f (by omega)) rfl fun _ H1 => ?_
        refine h_end ?_
        repeat (go_not_at_region 40; go_step)
        refine wp_cond_false (H1.ev (x := .tmp 110) rfl) ?_
        repeat (go_not_at_region 40; go_step)
        refine wp_region_lit ?_
        refine uc 1 H1 rfl (by kernel_rfl) (ostring_any (packM_lt S) hO) ?_
        rintro e w2 ⟨rfl, rfl⟩
        refine ⟨_, rfl, _, rfl, fun _ H2 => ?_⟩
        refine us 2 H2 rfl fun _ H3 => ?_
        refine h_end ?_
        repeat (go_not_at_region 999; go_step)
        refine H3.ret2 rfl rfl rfl ⟨rfl, ?_⟩
        have h := hO.lv.perm (List.perm_append_comm_assoc (stT A S []) X3 _)
        have h2 := h.dropl.perm (List.perm_append_comm_assoc (stT A S []) X2 _)
        have h3 := h2.dropl.perm (List.perm_append_comm_assoc (stT A S []) X1 _)
        exact h3.dropl
end
end Go.Proofs.YtnjfjdfjheiocaaGreat
