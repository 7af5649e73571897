/-
  Twins: of a store, a line, a table, a state.
-/
import Derived.Test.YtnjfjdfjheiocaaGreatShX
import Derived.Test.YtnjfjdfjheiocaaGreatTabL
set_option linter.unusedSimpArgs false
set_option linter.unusedVariables false
namespace Go.Proofs.YtnjfjdfjheiocaaGreat
open Go.RowKit
section
variable {w W w0 : World} {L : List Thg} {b pl ps pn : Nat} {M : Wins} {l : Cods} {mark : Int} {lo : Nat → Int} {bs : Nat → Nat} {cd : Nat → Cods} {A : Adr} {S : PSt}
theorem wclone_any (hL : LV w0 L W) (hm : mw b M ∈ L) : Calls Tryz.prog 104 #[.map (some b)] W fun e W' => ∃ b', e = .returned (.map (some b')) ∧ LV w0 (mw b' M :: L) W' := by
  obtain ⟨D, hD, hown⟩ := hL.mem_win hm
  refine (AnyW.maps_Clone_owns Tryz.cloneW 162 heldE b M.length D W hown).mono ?_
  rintro e w' ⟨rfl, h1, _, hB⟩
  exact ⟨_, rfl, (hL.call hB).cons hL.1.size (fun q hq => hL.ne_new q hq) ⟨D, hD, h1⟩⟩
theorem iclone_any (hL : LV w0 L W) (hm : mp b (entC l) ∈ L) : Calls Tryz.prog 84 #[.map (some b)] W fun e W' => ∃ b', e = .returned (.map (some b')) ∧ LV w0 (mp b' (entC l) :: L) W' := by
  refine (AnyW.maps_Clone_owns Tryz.cloneI 3 heldE b _ _ W (hL.mem_map hm)).mono ?_
  rintro e w' ⟨rfl, h1, _, hB⟩
  exact ⟨_, rfl, (hL.call hB).cons hL.1.size (fun q hq => hL.ne_new q hq) h1⟩
set_option maxRecDepth 100000 in
theorem sttwin_any (hL : LV w0 L W) (h1 : bk ps (stC b) 151 ∈ L) (h2 : mw b M ∈ L) : Calls Tryz.prog 83 #[.pointer (some ⟨ps, 0, none⟩)] W fun e W' => ∃ p b', e = .returned (.pointer (some ⟨p, 0, none⟩)) ∧ LV w0 (bk p (stC b') 151 :: mw b' M :: L) W' := by
  go_enter Tryz.func83, Tryz.ntmps83
  refine wp_fr (n := 12) (m := [(0, _)]) ⟨rfl, rfl, by intro p hp; simp only [List.mem_cons, List.not_mem_nil, or_false] at hp; rcases hp with rfl <;> rfl⟩ fun a0 H0 => ?_
  repeat (go_not_at_region 0; go_step)
  refine wp_region_lit ?_
  refine us 1 H0 rfl fun _ H1 => ?_
  refine h_end ?_
  repeat (go_not_at_region 1; go_step)
  refine wp_region_lit ?_
  refine us 2 H1 rfl fun _ H2 => ?_
  refine h_end ?_
  repeat (go_not_at_region 3; go_step)
  refine wp_cond_false (H2.ev (x := .tmp 4) rfl) ?_
  repeat (go_not_at_region 3; go_step)
  refine wp_region_lit ?_
  refine uv 3 H2 rfl (ld_mpw (hL.cl h1 0)) rfl fun _ H3 => ?_
  refine uc 0 H3 rfl (by kernel_rfl) (wclone_any hL h2) ?_
  rintro e w4 ⟨b', rfl, hL⟩
  refine ⟨_, rfl, _, rfl, fun _ H4 => ?_⟩
  refine uv 0 H4 rfl bd_st rfl fun _ H5 => ?_
  refine uvS 0 H5 rfl bx_st (hL.alloc _ _) rfl fun _ w6 H6 hL => ?_
  refine us 1 H6 rfl fun _ H7 => ?_
  refine h_end ?_
  repeat (go_not_at_region 999; go_step)
  exact H7.ret1 rfl rfl ⟨_, _, rfl, hL⟩
set_option maxRecDepth 100000 in
theorem ltwin_any (hL : LV w0 L W) (h0 : bk pl (lnC ps mark) 111 ∈ L) (h1 : bk ps (stC b) 151 ∈ L) (h2 : mw b M ∈ L) : Calls Tryz.prog 50 #[.pointer (some ⟨pl, 0, none⟩)] W fun e W' => ∃ p q b', e = .returned (.pointer (some ⟨p, 0, none⟩)) ∧ LV w0 (bk p (lnC q mark) 111 :: bk q (stC b') 151 :: mw b' M :: L) W' := by
  go_enter Tryz.func50, Tryz.ntmps50
  refine wp_fr (n := 16) (m := [(0, _)]) ⟨rfl, rfl, by intro p hp; simp only [List.mem_cons, List.not_mem_nil, or_false] at hp; rcases hp with rfl <;> rfl⟩ fun a0 H0 => ?_
  repeat (go_not_at_region 0; go_step)
  refine wp_region_lit ?_
  refine us 1 H0 rfl fun _ H1 => ?_
  refine h_end ?_
  repeat (go_not_at_region 1; go_step)
  refine wp_region_lit ?_
  refine uc 1 H1 rfl (by kernel_rfl) (lnone_any (hL.cl h0 0)) ?_
  rintro e w2 ⟨rfl, rfl⟩
  refine ⟨_, rfl, _, rfl, fun _ H2 => ?_⟩
  refine h_end ?_
  repeat (go_not_at_region 3; go_step)
  refine wp_cond_false (H2.ev (x := .tmp 4) rfl) ?_
  repeat (go_not_at_region 3; go_step)
  refine wp_region_held_drew (S := fun w' => LV w0 L w') (by kernel_rfl) (hL.drew) (fun _ => ?_)
  replace hL := hL.drew
  refine auv 4 [0, 1, 2] 3 rfl H2 rfl (by kernel_rfl) hL (fun _ _ _ _ _ h => h) (fun _ hL => (ld_pst (hL.cl h0 0))) rfl fun _ H3 => ?_
  refine auv 4 [5, 6, 7] 8 rfl H3 rfl (by kernel_rfl) hL (fun _ _ _ _ _ h => h) (fun _ hL => (ld_lon (hL.cl h0 1))) rfl fun _ H4 => ?_
  refine a_all1 4 (by kernel_rfl) ?_
  refine o_uc 4 H4 rfl (by kernel_rfl) (sttwin_any hL h1 h2) ?_
  rintro e w5 ⟨q, b', rfl, hL2⟩
  refine ⟨_, rfl, _, rfl, fun _ H5 => ?_⟩
  refine ⟨hL2.tail.tail, ?_⟩
  refine auv 1 [] 9 rfl H5 rfl (by kernel_rfl) hL2.tail.tail (fun _ _ _ _ _ h => h) (fun _ hL => bd_ln) rfl fun _ H6 => ?_
  refine a_all1 10 (by kernel_rfl) ?_
  refine ouS 10 H6 rfl bx_ln (hL2.alloc _ _) rfl fun _ w7 H7 hL => ⟨hL.tail.tail.tail, ?_⟩
  refine aus 1 [11] rfl H7 rfl (by kernel_rfl) hL.tail.tail.tail (fun _ _ _ _ _ h => h) fun _ H8 => ?_
  refine wpAnyH_done (by kernel_rfl) ?_ _
  repeat (go_not_at_region 999; go_step)
  exact H8.ret1 rfl rfl ⟨_, _, _, rfl, hL⟩
/-- The maps' places when i of them were made anew. -/
def tmM (bs bs' : Nat → Nat) (i : Nat) : Nat → Option Nat := fun j => some (if j < i then bs' j else bs j)
def ctX (bs : Nat → Nat) (cd : Nat → Cods) : Nat → List Thg
  | 0 => []
  | j + 1 => mp (bs j) (entC (cd j)) :: ctX bs cd j
theorem ctX_eq {bs bs' : Nat → Nat} : ∀ {j : Nat}, (∀ i, i < j → bs i = bs' i) → ctX bs cd j = ctX bs' cd j
  | 0, _ => rfl
  | j + 1, h => by
    unfold ctX
    rw [h j (by omega), ctX_eq fun i hi => h i (by omega)]
theorem LV.nextT {pn j gm : Nat} {bs bs' : Nat → Nat} {t : TypeId} (h : LV w0 (bk pn (snP lo (upd (tmM bs bs' j) j (some gm))) t :: mp gm (entC (cd j)) :: (ctX bs' cd j ++ L)) W) : ∃ bs2, LV w0 (bk pn (snP lo (tmM bs bs2 (j + 1))) t :: (ctX bs2 cd (j + 1) ++ L)) W := by
  refine ⟨upd bs' j gm, ?_⟩
  have e2 : upd (tmM bs bs' j) j (some gm) = tmM bs (upd bs' j gm) (j + 1) := by
    funext i
    unfold upd tmM
    dsimp only
    by_cases h1 : i = j
    · rw [if_pos h1, if_pos (by omega), if_pos h1]
    · rw [if_neg h1]
      by_cases h2 : i < j
      · rw [if_pos h2, if_pos (by omega), if_neg h1]
      · rw [if_neg h2, if_neg (by omega)]
  have e3 : ctX (upd bs' j gm) cd (j + 1) = mp gm (entC (cd j)) :: ctX bs' cd j := by
    show mp (upd bs' j gm j) _ :: _ = _
    rw [upd_at, ctX_eq fun i hi => ?_]
    unfold upd
    rw [if_neg (by omega)]
  rw [← e2, e3]
  exact h
theorem tm_at {bs bs' : Nat → Nat} {j : Nat} : tmM bs bs' j j = some (bs j) := by
  unfold tmM
  rw [if_neg (by omega)]
theorem snT_at {j : Nat} (h : j < 4) : mp (bs j) (entC (cd j)) ∈ snT bs cd := by
  match j, h with
  | 0, _ | 1, _ | 2, _ | 3, _ => simp
theorem infoSn : (Tryz.prog.info? 115).map (·.size) = some 8 := by kernel_rfl
theorem ld_sn {g : Nat} {lo : Nat → Int} {m : Nat → Option Nat} (h : W.heap[g]? = some (.cells (snP lo m) 115 (0, 0))) : (Instr.loadAt 115 (.pointer (some ⟨g, 0, none⟩))).run Tryz.prog W = .ok (.agg (snP lo m)) W :=
  ld_rowA (fun k u hu => by rw [show (⟨g, 0, none⟩ : Addr).add k = ⟨g, k, none⟩ from by unfold Addr.add; by_cases hk : k = 0 <;> simp [hk]]; exact (cells_at h k).trans hu) Tryz.underlying115 rfl infoSn
theorem al_sn : (Instr.alloc 115 true (.tuple #[])).run Tryz.prog W = .ok (.pointer (some ⟨W.heap.size, 0, none⟩)) (W.alloc (.cells (snP (fun _ => 0) fun _ => none) 115)) := by
  simp [go_sem]
  rfl
theorem st_sn {g : Nat} {lo lo' : Nat → Int} {m m' : Nat → Option Nat} (h : LV w0 (bk g (snP lo m) 115 :: L) W) : (Instr.storeAt 115 (.pointer (some ⟨g, 0, none⟩)) (.agg (snP lo' m'))).run Tryz.prog W = .ok () (W.setRow g (snP lo' m')) := by
  simp only [Instr.storeAt, Instr.sureAddr, Sem.run_bind, Sem.run_pure, Result.andThen_ok, run_storeVar_row W g 115 115 _ (snP lo' m') h.at_ infoSn rfl (by unfold snP; simp only [List.all_toArray, List.all_cons, List.all_nil, Bool.and_true]; rfl)]
set_option maxRecDepth 100000 in
theorem sntwin_any (hL : LV w0 L W) (h0 : bk pn (snC lo bs) 115 ∈ L) (h1 : ∀ j, j < 4 → mp (bs j) (entC (cd j)) ∈ L) : Calls Tryz.prog 51 #[.pointer (some ⟨pn, 0, none⟩)] W fun e W' => ∃ p bs', e = .returned (.pointer (some ⟨p, 0, none⟩)) ∧ LV w0 (bk p (snC lo bs') 115 :: (snT bs' cd ++ L)) W' := by
  go_enter Tryz.func51, Tryz.ntmps51
  refine wp_fr (n := 22) (m := [(0, _)]) ⟨rfl, rfl, by intro p hp; simp only [List.mem_cons, List.not_mem_nil, or_false] at hp; rcases hp with rfl <;> rfl⟩ fun a0 H0 => ?_
  repeat (go_not_at_region 0; go_step)
  refine wp_region_lit ?_
  refine us 1 H0 rfl fun _ H1 => ?_
  refine h_end ?_
  repeat (go_not_at_region 1; go_step)
  refine wp_region_lit ?_
  refine us 2 H1 rfl fun _ H2 => ?_
  refine h_end ?_
  repeat (go_not_at_region 3; go_step)
  refine wp_cond_false (H2.ev (x := .tmp 6) rfl) ?_
  repeat (go_not_at_region 3; go_step)
  refine wp_region_lit ?_
  refine uv 2 H2 rfl (ld_sn (hL.mem_at h0)) rfl fun _ H3 => ?_
  refine uvS 0 H3 rfl al_sn (hL.alloc _ _) rfl fun _ w4 H4 hL => ?_
  refine ustS 0 H4 rfl (st_sn hL) (hL.row _) fun _ w5 H5 hL => ?_
  refine h_end ?_
  obtain ⟨p, hp⟩ : ∃ g, g = W.heap.size := ⟨_, rfl⟩
  rw [← hp] at H5 hL
  clear hp
  repeat (go_not_at_region 4; go_step)
  refine wp_region_lit ?_
  refine us 1 H5 rfl fun _ H6 => ?_
  refine h_end ?_
  repeat (go_not_at_region 5; go_step)
  obtain ⟨I, hI⟩ : ∃ I : Nat → Act → World → Prop, ∀ n a' w', I n a' w' ↔ ∃ (j : Nat) (bs' : Nat → Nat), n = 4 - j ∧ j ≤ 4 ∧ Fr a' 22 [(3, .pointer (some ⟨p, 0, none⟩)), (10, .int .i64 (j : Nat))] ∧ LV w0 (bk p (snP lo (tmM bs bs' j)) 115 :: (ctX bs' cd j ++ L)) w' := ⟨_, fun _ _ _ => Iff.rfl⟩
  have HI := Lib.hid hI
  clear hI
  refine wp_loop_ghost I 4 ((HI.out _ _ _).2 ⟨0, bs, rfl, by omega, H6.pick _ (P2 3 10 rfl rfl), hL⟩) ?_
  clear hL H6
  intro n a1 wl hi
  obtain ⟨j, bs', rfl, hj, H0, hL⟩ := (HI.out _ _ _).1 hi
  clear hi
  by_cases hjl : j < 4
  · repeat (go_not_at_region 5; go_step)
    refine wp_region_lit ?_
    refine uv 0 H0 rfl (lt_t (by omega)) rfl fun _ H1 => ?_
    refine h_end ?_
    repeat (go_not_at_region 6; go_step)
    refine wp_cond_true (H1.ev (x := .tmp 11) rfl) ?_
    repeat (go_not_at_region 6; go_step)
    refine wp_region_lit ?_
    refine us 2 H1 rfl fun _ H2 => ?_
    refine h_end ?_
    repeat (go_not_at_region 7; go_step)
    refine wp_region_lit ?_
    refine uv 3 H2 rfl (ixm hjl) rfl fun _ H3 => ?_
    refine uv 0 H3 rfl (ld_mpi ((hL.cell (4 + j)).trans ((snP_mp hjl).trans (congrArg (fun x => some (Value.map x)) tm_at)))) rfl fun _ H4 => ?_
    refine uc 0 H4 rfl (by kernel_rfl) (iclone_any hL (List.mem_cons_of_mem _ (List.mem_append_right _ (h1 j hjl)))) ?_
    rintro e w5 ⟨gm, rfl, hL⟩
    refine ⟨_, rfl, _, rfl, fun _ H5 => ?_⟩
    refine uv 1 H5 rfl (ixm hjl) rfl fun _ H6 => ?_
    refine ustS 0 H6 rfl (st_mpi hL.swap (snP_mp hjl)) (hL.swap.setM hjl _) fun _ w7 H7 hL => ?_
    refine h_end ?_
    obtain ⟨bs2, hL⟩ := hL.nextT
    repeat (go_not_at_region 8; go_step)
    refine wp_region_lit ?_
    refine uv 0 H7 rfl (add_i (by omega) (by omega)) rfl fun _ H8 => ?_
    refine us 1 H8 rfl fun _ H9 => ?_
    refine h_end ?_
    exact ⟨4 - (j + 1), by omega, (HI.out _ _ _).2 ⟨j + 1, bs2, rfl, by omega, H9.pick _ (P2 3 10 rfl rfl), hL⟩⟩
  · repeat (go_not_at_region 5; go_step)
    refine wp_region_lit ?_
    refine uv 0 H0 rfl (lt_f (by omega)) rfl fun _ H1 => ?_
    refine h_end ?_
    repeat (go_not_at_region 9; go_step)
    refine wp_cond_false (H1.ev (x := .tmp 11) rfl) ?_
    repeat (go_not_at_region 9; go_step)
    refine wp_region_lit ?_
    refine us 1 H1 rfl fun _ H2 => ?_
    refine h_end ?_
    have e4 : j = 4 := by omega
    subst e4
    repeat (go_not_at_region 999; go_step)
    refine H2.ret1 rfl rfl ⟨p, bs', rfl, ?_⟩
    have hL := hL.perm ((((List.reverse_perm (ctX bs' cd 4)).symm).append_right L).cons _)
    exact hL
set_option maxRecDepth 100000 in
theorem shtwin_any (hL : LV w0 (stT A S L) W) : Calls Tryz.prog 24 #[.pointer (some ⟨A.g, 0, none⟩)] W fun e W' => ∃ B : Adr, e = .returned (.pointer (some ⟨B.g, 0, none⟩)) ∧ LV w0 (stT B S (stT A S L)) W' := by
  go_enter Tryz.func24, Tryz.ntmps24
  refine wp_fr (n := 17) (m := [(0, _)]) ⟨rfl, rfl, by intro p hp; simp only [List.mem_cons, List.not_mem_nil, or_false] at hp; rcases hp with rfl <;> rfl⟩ fun a0 H0 => ?_
  repeat (go_not_at_region 0; go_step)
  refine wp_region_lit ?_
  refine us 1 H0 rfl fun _ H1 => ?_
  refine h_end ?_
  repeat (go_not_at_region 1; go_step)
  refine wp_region_lit ?_
  refine uc 1 H1 rfl (by kernel_rfl) (shnone_any hL.at_) ?_
  rintro e w2 ⟨rfl, rfl⟩
  refine ⟨_, rfl, _, rfl, fun _ H2 => ?_⟩
  refine h_end ?_
  repeat (go_not_at_region 3; go_step)
  refine wp_cond_false (H2.ev (x := .tmp 4) rfl) ?_
  repeat (go_not_at_region 3; go_step)
  refine wp_region_held_drew (S := fun w' => LV w0 (stT A S L) w') (by kernel_rfl) (hL.drew) (fun _ => ?_)
  replace hL := hL.drew
  refine auv 4 [0, 1, 2] 3 rfl H2 rfl (by kernel_rfl) hL (fun _ _ _ _ _ h => h) (fun _ hL => (ld_pln (hL.cell 0))) rfl fun _ H3 => ?_
  refine auv 4 [5, 6, 7] 8 rfl H3 rfl (by kernel_rfl) hL (fun _ _ _ _ _ h => h) (fun _ hL => (ld_psn (hL.cell 1))) rfl fun _ H4 => ?_
  refine a_all1 4 (by kernel_rfl) ?_
  refine o_uc 4 H4 rfl (by kernel_rfl) (ltwin_any (pl := A.pl) (ps := A.ps) (b := A.b) (M := S.M) (mark := S.mark) hL (by simp) (by simp) (by simp)) ?_
  rintro e w5 ⟨p, q, b', rfl, hL1⟩
  refine ⟨_, rfl, _, rfl, fun _ H5 => ?_⟩
  refine ⟨hL1.tail.tail.tail, ?_⟩
  refine a_all1 9 (by kernel_rfl) ?_
  refine o_uc 9 H5 rfl (by kernel_rfl) (sntwin_any (lo := S.lo) (bs := A.bs) (cd := S.cd) hL1 (by simp) (fun j hj => List.mem_append_right [_, _, _, _, _, _, _, _] (List.mem_append_left L (snT_at (bs := A.bs) (cd := S.cd) hj)))) ?_
  rintro e w6 ⟨pn', bs', rfl, hL2⟩
  refine ⟨_, rfl, _, rfl, fun _ H6 => ?_⟩
  refine ⟨hL2.tail.dropl.tail.tail.tail, ?_⟩
  refine auv 1 [] 10 rfl H6 rfl (by kernel_rfl) hL2.tail.dropl.tail.tail.tail (fun _ _ _ _ _ h => h) (fun _ hL => bd_sh) rfl fun _ H7 => ?_
  refine a_all1 11 (by kernel_rfl) ?_
  refine ouS 11 H7 rfl bx_sh (hL2.alloc _ _) rfl fun _ w8 H8 hL => ⟨hL.tail.tail.dropl.tail.tail.tail, ?_⟩
  refine aus 1 [12] rfl H8 rfl (by kernel_rfl) hL.tail.tail.dropl.tail.tail.tail (fun _ _ _ _ _ h => h) fun _ H9 => ?_
  refine wpAnyH_done (by kernel_rfl) ?_ _
  repeat (go_not_at_region 999; go_step)
  refine H9.ret1 rfl rfl ⟨⟨_, p, q, b', pn', bs'⟩, rfl, hL.perm (List.Perm.cons _ ?_)⟩
  exact (List.perm_append_comm (l₁ := bk pn' _ _ :: snT bs' S.cd) (l₂ := [bk p _ _, bk q _ _, mw b' S.M])).append_right (stT A S L)
end
end Go.Proofs.YtnjfjdfjheiocaaGreat
