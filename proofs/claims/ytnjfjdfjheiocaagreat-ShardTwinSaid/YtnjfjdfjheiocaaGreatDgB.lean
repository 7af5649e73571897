/-
  digest: Of, Agree, of a state and of none; the chapter's example.
-/
import Derived.Test.YtnjfjdfjheiocaaGreatSnB
import Derived.Test.YtnjfjdfjheiocaaGreatShSv
import Derived.Test.YtnjfjdfjheiocaaGreatShNi
set_option linter.unusedSimpArgs false
set_option linter.unusedVariables false
namespace Go.Proofs.YtnjfjdfjheiocaaGreat
open Go.RowKit
theorem upE_le {cd : Nat → Cods} {m : Nat} (h : ∀ i, (cd i).length ≤ m) : ∀ j, (upE cd j).length ≤ j * m
  | 0 => Nat.zero_le _
  | j + 1 => by
    unfold upE rowsE
    rw [List.length_append, List.length_map, Nat.add_mul]
    have := upE_le h j
    have := h j
    omega
theorem packM_len {S : PSt} (hok : POk S) : (packM S).length ≤ 300000 := by
  have hwl : ∀ p ∈ S.M, (winB p).length ≤ 200 := fun p hp => winB_le (hok.key p hp) (hok.agg p hp)
  have hul := upE_le hok.cl 4
  have hel : ∀ q ∈ upE S.cd 4, (enB q).length ≤ 21 := fun q _ => by
    unfold enB
    have h1 := vb_le q.1
    have h2 := vb_le q.2.1
    simp only [List.length_append, List.length_cons, List.length_nil]
    omega
  have hll : ∀ z ∈ loL S.lo, (vbytes (u64N z)).length ≤ 10 := fun z _ => vb_le z
  have hml := hok.ml
  have v1 := vb_le S.mark
  have v2 := vbytes_le (x := S.M.length) (by omega)
  have v3 := vbytes_le (x := (upE S.cd 4).length) (by omega)
  have v4 := flat_len hll
  have v5 := flat_len hwl
  have v6 := flat_len hel
  have v7 : (loL S.lo).length = 4 := rfl
  unfold packM
  simp only [List.length_append, List.length_cons, List.length_nil]
  omega
theorem txt_size (xs : List Nat) : (txt xs).size = xs.length := by
  unfold txt ByteArray.size
  simp
theorem bytesOf_txt {xs : List Nat} (h : ∀ x ∈ xs, x < 256) : bytesOf (txt xs) = xs := by
  unfold bytesOf txt
  simp only [List.map_map]
  conv => rhs; rw [← List.map_id xs]
  refine List.map_congr_left fun x hx => ?_
  simp only [Function.comp_apply, id]
  exact UInt8.toNat_ofNat_of_lt' (h x hx)
/-- A state's digest. -/
def dgN (S : PSt) : Nat := prN (packM S)
theorem SV.pok {n : Nat} {S : PSt} (h : SV n S) (hk : SOk n S) (hn : n ≤ 1000) : POk S := by
  refine ⟨by have := h.room; omega, fun i => Nat.le_trans (hk.cl i) hn, fun i => hk.cd (by omega) i, fun p hp => ?_, fun p hp => ?_, fun p hp => (h.win p hp).in_⟩
  · have := (h.win p hp).key
    unfold keyB at this
    simp only [Bool.and_eq_true, decide_eq_true_eq] at this
    omega
  · have := h.win p hp
    have := this.st0
    have := (h.win p hp).st1
    omega
theorem pok_new : POk newM := sv_new.pok sok_new (by decide)
theorem pack_new : packM newM = [1, 0, 0, 1, 1, 1, 1, 0] := by
  have v0 : vbytes 0 = [0] := vbytes_small (by decide)
  have v1 : vbytes 1 = [1] := vbytes_small (by decide)
  have u0 : u64N 0 = 0 := rfl
  have u1 : u64N 1 = 1 := rfl
  have e1 : packM newM = [1] ++ vbytes (u64N 0) ++ vbytes 0 ++ [] ++ (vbytes (u64N 1) ++ (vbytes (u64N 1) ++ (vbytes (u64N 1) ++ (vbytes (u64N 1) ++ [])))) ++ vbytes 0 ++ [] := rfl
  rw [e1, u0, u1, v0, v1]
  rfl
theorem dg_new : dgN newM ≠ 0 := by
  unfold dgN
  rw [pack_new]
  decide +kernel
section
variable {w0 W w : World} {L R Y : List Thg} {A : Adr} {S : PSt}
theorem B_slnn {A B : Operand} : (EOp.bin .eql 52 A B (.slice none 0 0) (.slice none 0 0)).run.run Tryz.prog w = .ok (.bool true) w := by
  have e : (binOp .eql 52 (.slice none 0 0) (.slice none 0 0)).run Tryz.prog w = .ok (.bool true) w := Lib.run_eql_slice_nil w 52 _ none 0 0 0 0 Tryz.underlying52
  simp [eqGuard, e]
set_option maxRecDepth 100000 in
theorem pack_nil (W : World) : Calls Tryz.prog 44 #[.pointer none] W fun e W' => e = .returned (.tuple #[.string .empty, .int .i64 2]) ∧ W' = W := by
  go_enter Tryz.func44, Tryz.ntmps44
  refine wp_fr (n := 131) (m := [(0, _)]) ⟨rfl, rfl, by intro p hp; simp only [List.mem_cons, List.not_mem_nil, or_false] at hp; rcases hp with rfl <;> rfl⟩ fun a0 H0 => ?_
  repeat (go_not_at_region 0; go_step)
  refine wp_region_lit ?_
  refine us 2 H0 rfl fun _ H1 => ?_
  refine h_end ?_
  repeat (go_not_at_region 1; go_step)
  refine wp_region_lit ?_
  refine uc 1 H1 rfl (by kernel_rfl) (shlows_nil) ?_
  rintro e w2 ⟨rfl, rfl⟩
  refine ⟨_, rfl, _, rfl, fun _ H2 => ?_⟩
  refine us 1 H2 rfl fun _ H3 => ?_
  refine h_end ?_
  repeat (go_not_at_region 2; go_step)
  refine wp_region_lit ?_
  refine uv 1 H3 rfl B_slnn rfl fun _ H4 => ?_
  refine h_end ?_
  repeat (go_not_at_region 3; go_step)
  refine wp_cond_true (H4.ev (x := .tmp 21) rfl) ?_
  repeat (go_not_at_region 3; go_step)
  refine wp_region_lit ?_
  refine us 2 H4 rfl fun _ H5 => ?_
  refine h_end ?_
  repeat (go_not_at_region 999; go_step)
  exact H5.ret2 rfl rfl rfl ⟨rfl, rfl⟩
set_option maxRecDepth 100000 in
theorem digest_nil (W : World) : Calls Tryz.prog 19 #[.pointer none] W fun e W' => e = .returned (.int .u64 0) ∧ W' = W := by
  go_enter Tryz.func19, Tryz.ntmps19
  refine wp_fr (n := 14) (m := [(0, _)]) ⟨rfl, rfl, by intro p hp; simp only [List.mem_cons, List.not_mem_nil, or_false] at hp; rcases hp with rfl <;> rfl⟩ fun a0 H0 => ?_
  repeat (go_not_at_region 0; go_step)
  refine wp_region_lit ?_
  refine us 1 H0 rfl fun _ H1 => ?_
  refine h_end ?_
  repeat (go_not_at_region 1; go_step)
  refine wp_region_lit ?_
  refine uc 1 H1 rfl (by kernel_rfl) (pack_nil _) ?_
  rintro e w2 ⟨rfl, rfl⟩
  refine ⟨_, rfl, _, rfl, fun _ H2 => ?_⟩
  refine us 5 H2 rfl fun _ H3 => ?_
  refine h_end ?_
  repeat (go_not_at_region 2; go_step)
  refine wp_region_lit ?_
  refine us 2 H3 rfl fun _ H4 => ?_
  refine h_end ?_
  repeat (go_not_at_region 3; go_step)
  refine wp_cond_true (H4.ev (x := .tmp 11) rfl) ?_
  repeat (go_not_at_region 3; go_step)
  refine wp_region_lit ?_
  refine us 1 H4 rfl fun _ H5 => ?_
  refine h_end ?_
  repeat (go_not_at_region 999; go_step)
  exact H5.ret1 rfl rfl ⟨rfl, rfl⟩
set_option maxRecDepth 100000 in
theorem digest_any (hok : POk S) (hL : LV w0 (stT A S L) W) : Calls Tryz.prog 19 #[.pointer (some ⟨A.g, 0, none⟩)] W fun e W' => e = .returned (.int .u64 (dgN S : Nat)) ∧ LV w0 (stT A S L) W' := by
  have hsz := packM_len hok
  go_enter Tryz.func19, Tryz.ntmps19
  refine wp_fr (n := 14) (m := [(0, _)]) ⟨rfl, rfl, by intro p hp; simp only [List.mem_cons, List.not_mem_nil, or_false] at hp; rcases hp with rfl <;> rfl⟩ fun a0 H0 => ?_
  repeat (go_not_at_region 0; go_step)
  refine wp_region_lit ?_
  refine us 1 H0 rfl fun _ H1 => ?_
  refine h_end ?_
  repeat (go_not_at_region 1; go_step)
  refine wp_region_lit ?_
  refine uc 1 H1 rfl (by kernel_rfl) (pack_any hok hL) ?_
  rintro e w2 ⟨rfl, hL⟩
  refine ⟨_, rfl, _, rfl, fun _ H2 => ?_⟩
  refine us 5 H2 rfl fun _ H3 => ?_
  refine h_end ?_
  repeat (go_not_at_region 2; go_step)
  refine wp_region_lit ?_
  refine us 2 H3 rfl fun _ H4 => ?_
  refine h_end ?_
  repeat (go_not_at_region 4; go_step)
  refine wp_cond_false (H4.ev (x := .tmp 11) rfl) ?_
  repeat (go_not_at_region 4; go_step)
  refine wp_region_lit ?_
  refine uc 1 H4 rfl (by kernel_rfl) (print_any (by rw [txt_size]; omega) _) ?_
  rintro e w5 ⟨rfl, rfl⟩
  rw [bytesOf_txt (packM_lt S)]
  refine ⟨_, rfl, _, rfl, fun _ H5 => ?_⟩
  refine us 1 H5 rfl fun _ H6 => ?_
  refine h_end ?_
  repeat (go_not_at_region 999; go_step)
  exact H6.ret1 rfl rfl ⟨rfl, hL⟩
set_option maxRecDepth 100000 in
theorem agree_nil (n : Nat) (m : Int) (W : World) : Calls Tryz.prog 20 #[.pointer none, .int .u64 (n : Nat), .int .i64 m] W fun e W' => e = .returned (.bool false) ∧ W' = W := by
  go_enter Tryz.func20, Tryz.ntmps20
  refine wp_fr (n := 28) (m := [(0, _), (1, _), (2, _)]) ⟨rfl, rfl, by intro p hp; simp only [List.mem_cons, List.not_mem_nil, or_false] at hp; rcases hp with rfl | rfl | rfl <;> rfl⟩ fun a0 H0 => ?_
  repeat (go_not_at_region 0; go_step)
  refine wp_region_lit ?_
  refine us 1 H0 rfl fun _ H1 => ?_
  refine h_end ?_
  repeat (go_not_at_region 1; go_step)
  refine wp_region_lit ?_
  refine uc 1 H1 rfl (by kernel_rfl) (pack_nil _) ?_
  rintro e w2 ⟨rfl, rfl⟩
  refine ⟨_, rfl, _, rfl, fun _ H2 => ?_⟩
  refine us 5 H2 rfl fun _ H3 => ?_
  refine h_end ?_
  repeat (go_not_at_region 2; go_step)
  refine wp_region_lit ?_
  refine us 15 H3 rfl fun _ H4 => ?_
  refine h_end ?_
  repeat (go_not_at_region 999; go_step)
  exact H4.ret1 rfl rfl ⟨rfl, rfl⟩
set_option maxRecDepth 100000 in
theorem agree_any (n : Nat) (m : Int) (hok : POk S) (hL : LV w0 (stT A S L) W) : Calls Tryz.prog 20 #[.pointer (some ⟨A.g, 0, none⟩), .int .u64 (n : Nat), .int .i64 m] W fun e W' => e = .returned (.bool (decide (dgN S = n) && decide (S.mark = m))) ∧ LV w0 (stT A S L) W' := by
  go_enter Tryz.func20, Tryz.ntmps20
  refine wp_fr (n := 28) (m := [(0, _), (1, _), (2, _)]) ⟨rfl, rfl, by intro p hp; simp only [List.mem_cons, List.not_mem_nil, or_false] at hp; rcases hp with rfl | rfl | rfl <;> rfl⟩ fun a0 H0 => ?_
  repeat (go_not_at_region 0; go_step)
  refine wp_region_lit ?_
  refine us 1 H0 rfl fun _ H1 => ?_
  refine h_end ?_
  repeat (go_not_at_region 1; go_step)
  refine wp_region_lit ?_
  refine uc 1 H1 rfl (by kernel_rfl) (pack_any hok hL) ?_
  rintro e w2 ⟨rfl, hL⟩
  refine ⟨_, rfl, _, rfl, fun _ H2 => ?_⟩
  refine us 5 H2 rfl fun _ H3 => ?_
  refine h_end ?_
  repeat (go_not_at_region 2; go_step)
  refine wp_region_lit ?_
  by_cases hd : dgN S = n
  · refine uc 4 H3 rfl (by kernel_rfl) (digest_any hok hL) ?_
    rintro e w4 ⟨rfl, hL⟩
    refine ⟨_, rfl, _, rfl, fun _ H4 => ?_⟩
    refine uv 1 H4 rfl (eq_t (by rw [hd])) rfl fun _ H5 => ?_
    refine uc 3 H5 rfl (by kernel_rfl) (shmark_any hL) ?_
    rintro e w6 ⟨rfl, hL⟩
    refine ⟨_, rfl, _, rfl, fun _ H6 => ?_⟩
    refine us 1 H6 rfl fun _ H7 => ?_
    by_cases hm : S.mark = m
    · refine uv 0 H7 rfl (eq_t hm) rfl fun _ H8 => ?_
      refine us 2 H8 rfl fun _ H9 => ?_
      refine h_end ?_
      repeat (go_not_at_region 999; go_step)
      exact H9.ret1 rfl rfl ⟨by rw [decide_eq_true hd, decide_eq_true hm]; rfl, hL⟩
    · refine uv 0 H7 rfl (eq_f hm) rfl fun _ H8 => ?_
      refine us 2 H8 rfl fun _ H9 => ?_
      refine h_end ?_
      repeat (go_not_at_region 999; go_step)
      exact H9.ret1 rfl rfl ⟨by rw [decide_eq_true hd, decide_eq_false hm]; rfl, hL⟩
  · refine uc 4 H3 rfl (by kernel_rfl) (digest_any hok hL) ?_
    rintro e w4 ⟨rfl, hL⟩
    refine ⟨_, rfl, _, rfl, fun _ H4 => ?_⟩
    refine uv 1 H4 rfl (eq_f (by omega)) rfl fun _ H5 => ?_
    refine us 8 H5 rfl fun _ H6 => ?_
    refine h_end ?_
    repeat (go_not_at_region 999; go_step)
    exact H6.ret1 rfl rfl ⟨by rw [decide_eq_false hd]; rfl, hL⟩
set_option maxRecDepth 100000 in
theorem dwakes_ok : Calls Tryz.prog 17 #[] W fun e W' => e = .returned (.bool true) ∧ Below W.heap.size W W' := by
  have hL := LV.init W
  go_enter Tryz.func17, Tryz.ntmps17
  refine wp_fr (n := 27) (m := []) ⟨rfl, rfl, by intro p hp; cases hp⟩ fun a0 H0 => ?_
  repeat (go_not_at_region 0; go_step)
  refine wp_region_lit ?_
  refine us 1 H0 rfl fun _ H1 => ?_
  refine h_end ?_
  repeat (go_not_at_region 1; go_step)
  refine wp_region_lit ?_
  refine uc 0 H1 rfl (by kernel_rfl) (shnew_any hL) ?_
  rintro e w2 ⟨A, rfl, hL⟩
  refine ⟨_, rfl, _, rfl, fun _ H2 => ?_⟩
  refine us 1 H2 rfl fun _ H3 => ?_
  refine h_end ?_
  repeat (go_not_at_region 2; go_step)
  refine wp_region_lit ?_
  refine uc 1 H3 rfl (by kernel_rfl) (digest_any pok_new hL) ?_
  rintro e w4 ⟨rfl, hL⟩
  refine ⟨_, rfl, _, rfl, fun _ H4 => ?_⟩
  refine us 1 H4 rfl fun _ H5 => ?_
  refine h_end ?_
  have hne := dg_new
  repeat (go_not_at_region 3; go_step)
  refine wp_region_lit ?_
  refine uv 1 H5 rfl (ne_t (by omega)) rfl fun _ H6 => ?_
  refine uc 3 H6 rfl (by kernel_rfl) (agree_any (dgN newM) 0 pok_new hL) ?_
  rintro e w7 ⟨he, hL⟩
  rw [decide_eq_true rfl, decide_eq_true (show newM.mark = 0 from rfl)] at he
  subst he
  refine ⟨_, rfl, _, rfl, fun _ H7 => ?_⟩
  refine uc 4 H7 rfl (by kernel_rfl) (agree_any (dgN newM) 1 pok_new hL) ?_
  rintro e w8 ⟨he, hL⟩
  rw [decide_eq_true rfl, decide_eq_false (show ¬ newM.mark = 1 by show ¬ (0 : Int) = 1; decide)] at he
  subst he
  refine ⟨_, rfl, _, rfl, fun _ H8 => ?_⟩
  refine uc 3 H8 rfl (by kernel_rfl) (digest_nil _) ?_
  rintro e w9 ⟨rfl, rfl⟩
  refine ⟨_, rfl, _, rfl, fun _ H9 => ?_⟩
  refine uc 3 H9 rfl (by kernel_rfl) (agree_nil 0 0 _) ?_
  rintro e w10 ⟨rfl, rfl⟩
  refine ⟨_, rfl, _, rfl, fun _ H10 => ?_⟩
  refine us 3 H10 rfl fun _ H11 => ?_
  refine h_end ?_
  repeat (go_not_at_region 999; go_step)
  exact H11.ret1 rfl rfl ⟨rfl, hL.1⟩
end
end Go.Proofs.YtnjfjdfjheiocaaGreat
