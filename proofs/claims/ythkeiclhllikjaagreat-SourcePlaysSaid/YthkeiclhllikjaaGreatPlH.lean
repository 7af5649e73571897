/-
  An act of the program's source beside the document's.
-/
import Derived.Test.YthkeiclhllikjaaGreatPlG
set_option linter.unusedSimpArgs false
set_option linter.unusedVariables false
namespace Go.Proofs.YthkeiclhllikjaaGreat
open Go.RowKit R
section
variable {P : Program} {ops : Array Oper} {Q : Exit → Act → World → Prop} {o : Oper} {a : Act} {w w' : World} {n : Nat} {m : List (Nat × Value)}
theorem o_stP {K : Act → World → Prop} (R : World → Prop) (i : Nat) (H : Fr a n m) (hi : ops[i]? = some o) (hd : o.dst = none) (hg : Region.wanted o (yielded ops a.tmps) = true) (hr : (execOp a.eval o).run P w = .ok .skip w')
  (hL : R w') (k : ∀ a' w', Fr a' n m → R w' → K a' w') : wpOp P ops Q i K a w := by
 unfold wpOp
 simp only [hi, hg, if_true]
 refine .inl ?_
 unfold Oper.wp
 rw [hr]
 simp only [Oper.upon, hd]
 exact k _ _ H hL
end
section
variable {w0 W w : World} {p bo ba i : Nat} {S S' : PSrc} {x : PAct} {vo vL vL' v1 v2 : Value} {B K K' L X X1 X2 Y : List Thg} {l : List (Int × Int × ByteArray)} {g : Nat} {A : Array Value} {t : TypeId}
theorem OneK.rdc (h : OneK w0 p bo ba S (B ++ (X ++ K)) w) (hp : PRow 64 9 vL S'.L.length (snF S'.L) X) : RdC w 9 vL (S'.L.map snC) := by
 obtain ⟨L, hL⟩ := h.lvl
 rw [List.append_assoc, List.append_assoc] at hL
 exact prow_rdc hp hL.dropl
theorem OneK.rown (h : OneK w0 p bo ba S (B ++ (X ++ K)) W) (hp : PRow 64 9 vL S'.L.length (snF S'.L) X) {S2 : PSrc} (hN : RowN S' S2 vL vL' Y) (hY : LV W Y w) : ∃ X', PRow 64 9 vL' S2.L.length (snF S2.L) X' ∧ OneK w0 p bo ba S (B ++ (X' ++ K)) w := by
 rcases hN with ⟨h1, rfl, rfl⟩ | h1
 ·exact ⟨X, by rw [h1]; exact hp, h.call hY.1⟩
 ·refine ⟨Y, h1, ?_⟩
  have h2 : OneK w0 p bo ba S (Y ++ (B ++ (X ++ K))) w := h.addl fun R h' => h'.joinV hY
  have h3 : OneK w0 p bo ba S (X ++ (B ++ (Y ++ K))) w := h2.perm (((List.perm_append_comm_assoc Y B (X ++ K)).trans ((List.perm_append_comm_assoc Y X K).append_left B)).trans (List.perm_append_comm_assoc B X (Y ++ K)))
  exact h3.dropl
theorem k1_packets (h1 : PRow 45 3 v1 l.length (pkF l) X1) (h2 : PRow 45 3 v2 l.length (pkF l) X2) (h : OneK w0 p bo ba S (X2 ++ (X1 ++ K)) W) (hl : l.length ≤ 1000000) : Calls Tryz.prog 26 #[v1, v2] W fun e W' => e = .returned (.bool true) ∧ OneK w0 p bo ba S K W' := by
 obtain ⟨v, L, hL, hv⟩ := h
 have e : (srcs p S v bo ba ((X2 ++ (X1 ++ K)) ++ L)).Perm (X1 ++ (X2 ++ srcs p S v bo ba (K ++ L))) := by
  rw [List.append_assoc, List.append_assoc]
  refine (List.perm_append_comm_assoc [_, _, _] X2 (X1 ++ (K ++ L))).trans ?_
  refine ((List.perm_append_comm_assoc [_, _, _] X1 (K ++ L)).append_left X2).trans ?_
  exact List.perm_append_comm_assoc X2 X1 _
 refine (packets_any h1 h2 (hL.perm e) hl).mono ?_
 rintro e w ⟨rfl, h3⟩
 exact ⟨rfl, v, L, h3.dropl.dropl, hv⟩
theorem pkts_few {j : Nat} (h : PlayI S j) (hj : j ≤ 100000) : (pktsM S).length ≤ 1000000 := by
 rw [play_all h hj, List.length_map]
 have h1 := opItems_len (M := S.L)
 have h2 := h.len
 omega
theorem OneK.updm {q q' a : Thg} {R : List Thg} (h : OneK w0 p bo ba S (Y ++ (a :: q :: R)) W) (hf : ∀ R, LV w0 (q :: R) W → LV w0 (q' :: R) w) : OneK w0 p bo ba S (Y ++ (q' :: a :: R)) w := ((h.perm (((List.Perm.swap q a R).append_left Y).trans List.perm_middle)).upd hf).perm List.perm_middle.symm
theorem k6_perm {a b c d e : Thg} {R : List Thg} : (a :: b :: c :: d :: e :: R).Perm (c :: a :: b :: d :: e :: R) := ((List.Perm.swap c b _).cons a).trans (.swap c a _)
theorem sendM_t {y : PItem} : (sendM S y).1.t = S.t := by
 unfold sendM
 split
 ·rfl
 split
 ·rfl
 split
 ·rfl
 split <;> rfl
set_option maxRecDepth 100000 in
set_option maxHeartbeats 8000000 in
theorem does_k (h : OneK w0 p bo ba S (X ++ K) W) (hp : PRow 64 9 vL S.L.length (snF S.L) X) (hvo : ∀ w, Below w0.heap.size w0 w → Rd w vo S.t.own) (hxv : ∀ w, Below w0.heap.size w0 w → Rd w x.vo x.msg.owner) (hvs : x.vs.oneCell' = true) (hxi : x.item.Ok) (hx : x.msg.FitsN) (hs : x.Small) (hI : PlayI S i) (hi : i ≤ 1000) :
  Calls Tryz.prog 23 #[.pointer (some ⟨p, 0, none⟩), .agg (rfC S vo vL), .agg (actC x)] W fun e W' => ∃ S' vo' vL' X', e = .returned (.tuple #[.agg (rfC S' vo' vL'), .bool true]) ∧ PlayI S' (i + 1) ∧ PRow 64 9 vL' S'.L.length (snF S'.L) X' ∧ (∀ w, Below w0.heap.size w0 w → Rd w vo' S'.t.own) ∧ OneK w0 p bo ba S' (X' ++ K) W' := by
 have hown := rightT_len hI.rt
 have hlen := hI.len
 have hsow := hs.owner
 have hL := h
 clear h
 have hxo := hxv _ hL.below
 have hvo1 : x.vo.oneCell' = true := hxo.one
 clear hxo
 have hv1 : vo.oneCell' = true := (hvo _ hL.below).one
 obtain ⟨qL, cL, rfl⟩ := hp.shape
 go_enter Tryz.func23, Tryz.ntmps23
 replace hL : OneK w0 p bo ba S ([] ++ (X ++ K)) W := hL
 refine wp_fr (n := 83) (m := [(0, _), (1, _), (2, _)]) ⟨rfl, rfl, by intro p hp; simp only [List.mem_cons, List.not_mem_nil, or_false] at hp; rcases hp with rfl | rfl | rfl <;> rfl⟩ fun a0 H0 => ?_
 repeat (go_not_at_region 0; go_step)
 refine wp_region_lit ?_
 refine h_opP (OneK w0 p bo ba S ([bk W.heap.size (rfC S vo (.slice qL S.L.length cL)) 55] ++ (X ++ K))) H0 rfl (wn rfl) (R_box H0 rfl rfl bx_rf) (hL.add fun R h => h.alloc _ _) rfl (P3 4 0 2 rfl rfl rfl) fun _ w1 H1 hL => ?_
 refine h_opP (OneK w0 p bo ba S ([bk w1.heap.size (actC x) 50, bk W.heap.size (rfC S vo (.slice qL S.L.length cL)) 55] ++ (X ++ K))) H1 rfl (wn rfl) (R_box H1 rfl rfl bx_act) (hL.add fun R h => h.alloc _ _) rfl (P3 5 4 0 rfl rfl rfl) fun _ w2 H2 hL => ?_
 refine h_opP (OneK w0 p bo ba S ([bk w2.heap.size (rfC rfZ (.slice none 0 0) (.slice none 0 0)) 55, bk w1.heap.size (actC x) 50, bk W.heap.size (rfC S vo (.slice qL S.L.length cL)) 55] ++ (X ++ K))) H2 rfl (wn rfl) (R_alloc rfl al_rf) (hL.add fun R h => h.alloc _ _) rfl (P4 6 5 4 0 rfl rfl rfl rfl) fun _ w3 H3 hL => ?_
 refine h_o H3 rfl (R_as H3 rfl rfl) (P4 6 5 4 0 rfl rfl rfl rfl) fun _ H4 => ?_
 refine h_end ?_
 obtain ⟨g4, hg4⟩ : ∃ g, g = W.heap.size := ⟨_, rfl⟩
 obtain ⟨g5, hg5⟩ : ∃ g, g = w1.heap.size := ⟨_, rfl⟩
 obtain ⟨g6, hg6⟩ : ∃ g, g = w2.heap.size := ⟨_, rfl⟩
 rw [← hg4, ← hg5, ← hg6] at H4 hL
 clear hg4 hg5 hg6
 repeat (go_not_at_region 1; go_step)
 refine wp_region_lit ?_
 refine h_o H4 rfl (R_fa H4 rfl rfl fa_box2) (P5 16 6 5 4 0 rfl rfl rfl rfl rfl) fun _ H5 => ?_
 refine h_o H5 rfl (R_ld H5 rfl rfl (ld_boxM (x := x) (hL.mem (g := g5) (by simp)))) (P5 17 6 5 4 0 rfl rfl rfl rfl rfl) fun _ H6 => ?_
 refine h_opP (OneK w0 p bo ba S ([bk w3.heap.size zcells 37, bk g6 (rfC rfZ (.slice none 0 0) (.slice none 0 0)) 55, bk g5 (actC x) 50, bk g4 (rfC S vo (.slice qL S.L.length cL)) 55] ++ (X ++ K))) H6 rfl (wn rfl) (R_alloc rfl al_mg) (hL.add fun R h => h.alloc _ _) rfl (P6 8 17 6 5 4 0 rfl rfl rfl rfl rfl rfl) fun _ w7 H7 hL => ?_
 refine h_stP (OneK w0 p bo ba S ([bk w3.heap.size (mcells x.msg x.vo x.vs) 37, bk g6 (rfC rfZ (.slice none 0 0) (.slice none 0 0)) 55, bk g5 (actC x) 50, bk g4 (rfC S vo (.slice qL S.L.length cL)) 55] ++ (X ++ K))) H7 rfl (wn rfl) (R_st H7 rfl rfl rfl (st_mg (hL.mem List.mem_cons_self) (mcells_one hvo1 hvs))) (hL.upd fun R h => h.row _) fun _ w8 H8 hL => ?_
 refine h_end ?_
 obtain ⟨g8, hg8⟩ : ∃ g, g = w3.heap.size := ⟨_, rfl⟩
 rw [← hg8] at H8 hL
 clear hg8
 repeat (go_not_at_region 2; go_step)
 refine wp_region_lit ?_
 refine h_o H8 rfl (R_fa H8 rfl rfl fa_box0) (P6 18 8 6 5 4 0 rfl rfl rfl rfl rfl rfl) fun _ H9 => ?_
 refine h_o H9 rfl (R_ld H9 rfl rfl (ld_int (x := x.do_) ((hL.cl (g := g5) (A := actC x) (t := 50) (by simp) 0).trans rfl))) (P6 19 8 6 5 4 0 rfl rfl rfl rfl rfl rfl) fun _ H10 => ?_
 refine h_o H10 rfl (R_bin H10 rfl rfl rfl (B_eq Tryz.underlying3 _ _)) (P6 20 8 6 5 4 0 rfl rfl rfl rfl rfl rfl) fun _ H11 => ?_
 refine h_end ?_
 by_cases h2 : x.do_ = 2
 ·rw [beq_iff_eq.2 h2] at H11
  repeat (go_not_at_region 3; go_step)
  refine wp_cond_true (H11.ev (x := .tmp 20) rfl) ?_
  repeat (go_not_at_region 3; go_step)
  refine wp_region_held_drew (S := fun w' => HasB g4 (rfC S vo (.slice qL S.L.length cL)) 55 w' ∧ HasB g5 (actC x) 50 w') (by kernel_rfl) ((⟨OneK.mem hL.drew (by simp), OneK.mem hL.drew (by simp)⟩ : HasB g4 (rfC S vo (.slice qL S.L.length cL)) 55 _ ∧ HasB g5 (actC x) 50 _)) (fun _ => ?_)
  replace hL := hL.drew
  refine a_opZ 0 H11 rfl rfl (by kernel_rfl) (wn rfl) (fun w hL => R_fa H11 rfl rfl fa_rf0) ((⟨OneK.mem hL (by simp), OneK.mem hL (by simp)⟩ : HasB g4 (rfC S vo (.slice qL S.L.length cL)) 55 _ ∧ HasB g5 (actC x) 50 _)) rfl (P6 21 8 6 5 4 0 rfl rfl rfl rfl rfl rfl) fun _ H12 => ?_
  refine a_opZ 1 H12 rfl rfl (by kernel_rfl) (wn rfl) (fun w hL => R_ld H12 rfl rfl (ld_int (x := S.src) ((HasB.cl hL.1 _).trans rfl))) ((⟨OneK.mem hL (by simp), OneK.mem hL (by simp)⟩ : HasB g4 (rfC S vo (.slice qL S.L.length cL)) 55 _ ∧ HasB g5 (actC x) 50 _)) rfl (P6 22 8 6 5 4 0 rfl rfl rfl rfl rfl rfl) fun _ H13 => ?_
  refine a_opZ 2 H13 rfl rfl (by kernel_rfl) (wn rfl) (fun w hL => R_ld H13 rfl rfl (ld_rf (S := S) hL.1)) ((⟨OneK.mem hL (by simp), OneK.mem hL (by simp)⟩ : HasB g4 (rfC S vo (.slice qL S.L.length cL)) 55 _ ∧ HasB g5 (actC x) 50 _)) rfl (P7 23 22 8 6 5 4 0 rfl rfl rfl rfl rfl rfl rfl) fun _ H14 => ?_
  refine a_opZ 3 H14 rfl rfl (by kernel_rfl) (wn rfl) (fun w hL => R_fa H14 rfl rfl fa_box3) ((⟨OneK.mem hL (by simp), OneK.mem hL (by simp)⟩ : HasB g4 (rfC S vo (.slice qL S.L.length cL)) 55 _ ∧ HasB g5 (actC x) 50 _)) rfl (P8 24 23 22 8 6 5 4 0 rfl rfl rfl rfl rfl rfl rfl rfl) fun _ H15 => ?_
  refine a_opZ 4 H15 rfl rfl (by kernel_rfl) (wn rfl) (fun w hL => R_ld H15 rfl rfl (ld_int (x := x.of_) ((HasB.cl hL.2 _).trans rfl))) ((⟨OneK.mem hL (by simp), OneK.mem hL (by simp)⟩ : HasB g4 (rfC S vo (.slice qL S.L.length cL)) 55 _ ∧ HasB g5 (actC x) 50 _)) rfl (P8 25 23 22 8 6 5 4 0 rfl rfl rfl rfl rfl rfl rfl rfl) fun _ H16 => ?_
  refine a_opZ 7 H16 rfl rfl (by kernel_rfl) (wn rfl) (fun w hL => R_fa H16 rfl rfl fa_box4) ((⟨OneK.mem hL (by simp), OneK.mem hL (by simp)⟩ : HasB g4 (rfC S vo (.slice qL S.L.length cL)) 55 _ ∧ HasB g5 (actC x) 50 _)) rfl (P9 28 25 23 22 8 6 5 4 0 rfl rfl rfl rfl rfl rfl rfl rfl rfl) fun _ H17 => ?_
  refine a_opZ 8 H17 rfl rfl (by kernel_rfl) (wn rfl) (fun w hL => R_ld H17 rfl rfl (ld_int (x := x.code) ((HasB.cl hL.2 _).trans rfl))) ((⟨OneK.mem hL (by simp), OneK.mem hL (by simp)⟩ : HasB g4 (rfC S vo (.slice qL S.L.length cL)) 55 _ ∧ HasB g5 (actC x) 50 _)) rfl (P9 29 25 23 22 8 6 5 4 0 rfl rfl rfl rfl rfl rfl rfl rfl rfl) fun _ H18 => ?_
  refine a_all1 5 (by kernel_rfl) ?_
  refine o_call 5 H18 rfl rfl (wn rfl) (R_call2 H18 rfl rfl rfl (fun w => by simp [go_sem])) rfl ?_
  refine (open_any (S := S) (hL.rdc (S' := S) hp) (by omega)).mono ?_
  rintro e w19 ⟨k, rfl, hk0, hk1, hb⟩
  replace hL := hL.call hb
  clear hb
  refine ⟨_, rfl, fun a19 HH => ?_⟩
  have H19 := HH _ (P8 26 29 22 8 6 5 4 0 rfl rfl rfl rfl rfl rfl rfl rfl)
  refine ⟨(⟨OneK.mem hL (by simp), OneK.mem hL (by simp)⟩ : HasB g4 (rfC S vo (.slice qL S.L.length cL)) 55 _ ∧ HasB g5 (actC x) 50 _), ?_⟩
  refine a_opZ 6 H19 rfl rfl (by kernel_rfl) (wn rfl) (fun w hL => R_bd2 H19 rfl rfl rfl bd_it2) ((⟨OneK.mem hL (by simp), OneK.mem hL (by simp)⟩ : HasB g4 (rfC S vo (.slice qL S.L.length cL)) 55 _ ∧ HasB g5 (actC x) 50 _)) rfl (P7 27 29 8 6 5 4 0 rfl rfl rfl rfl rfl rfl rfl) fun _ H20 => ?_
  refine a_opZ 9 H20 rfl rfl (by kernel_rfl) (wn rfl) (fun w hL => R_bd3 H20 rfl rfl rfl rfl bd_ans) ((⟨OneK.mem hL (by simp), OneK.mem hL (by simp)⟩ : HasB g4 (rfC S vo (.slice qL S.L.length cL)) 55 _ ∧ HasB g5 (actC x) 50 _)) rfl (P6 30 8 6 5 4 0 rfl rfl rfl rfl rfl rfl) fun _ H21 => ?_
  refine a_all1 10 (by kernel_rfl) ?_
  refine o_stP (OneK w0 p bo ba S ([bk g8 (mcells (ansMsg S.src k x.code) (.slice none 0 0) (.slice none 0 0)) 37, bk g6 (rfC rfZ (.slice none 0 0) (.slice none 0 0)) 55, bk g5 (actC x) 50, bk g4 (rfC S vo (.slice qL S.L.length cL)) 55] ++ (X ++ K))) 10 H21 rfl rfl (wn rfl) (R_st H21 rfl rfl rfl (R.st_row (m := (ansMsg S.src k x.code)) (vo := (.slice none 0 0)) (vs := (.slice none 0 0)) (m2 := x.msg) (vo2 := x.vo) (vs2 := x.vs) (hL.mem List.mem_cons_self) (mcells_one rfl rfl))) (hL.upd fun R h => h.row _) fun a22 w22 H22 hL' => ⟨(⟨OneK.mem hL' (by simp), OneK.mem hL' (by simp)⟩ : HasB g4 (rfC S vo (.slice qL S.L.length cL)) 55 _ ∧ HasB g5 (actC x) 50 _), ?_⟩
  replace hL := hL'
  refine wpAnyH_done (by kernel_rfl) ?_ _
  repeat (go_not_at_region 4; go_step)
  refine wp_region_lit ?_
  refine h_o H22 rfl (R_fa H22 rfl rfl fa_box0) (P6 31 8 0 4 5 6 rfl rfl rfl rfl rfl rfl) fun _ H23 => ?_
  refine h_o H23 rfl (R_ld H23 rfl rfl (ld_int (x := x.do_) ((hL.cl (g := g5) (A := actC x) (t := 50) (by simp) 0).trans rfl))) (P6 32 8 0 4 5 6 rfl rfl rfl rfl rfl rfl) fun _ H24 => ?_
  refine h_end ?_
  repeat (go_not_at_region 5; go_step)
  refine wp_region_lit ?_
  refine h_o H24 rfl (R_bin H24 rfl rfl rfl (B_to (y := false) (B_eq Tryz.underlying3 _ _) (beq_eq_false_iff_ne.2 (by omega)))) (P7 34 32 8 0 4 5 6 rfl rfl rfl rfl rfl rfl rfl) fun _ H25 => ?_
  refine h_o H25 rfl (R_as H25 rfl rfl) (P7 33 32 8 0 4 5 6 rfl rfl rfl rfl rfl rfl rfl) fun _ H26 => ?_
  refine h_end ?_
  repeat (go_not_at_region 9; go_step)
  refine wp_cond_false (H26.ev (x := .tmp 33) rfl) ?_
  repeat (go_not_at_region 9; go_step)
  refine wp_region_lit ?_
  refine h_o H26 rfl (R_bin H26 rfl rfl rfl (B_to (y := false) (B_eq Tryz.underlying3 _ _) (beq_eq_false_iff_ne.2 (by omega)))) (P7 60 32 8 0 4 5 6 rfl rfl rfl rfl rfl rfl rfl) fun _ H27 => ?_
  refine h_o H27 rfl (R_as H27 rfl rfl) (P7 59 32 8 0 4 5 6 rfl rfl rfl rfl rfl rfl rfl) fun _ H28 => ?_
  refine h_end ?_
  repeat (go_not_at_region 10; go_step)
  refine wp_cond_false (H28.ev (x := .tmp 59) rfl) ?_
  repeat (go_not_at_region 10; go_step)
  refine wp_region_lit ?_
  refine h_o H28 rfl (R_bin H28 rfl rfl rfl (B_to (y := true) (B_eq Tryz.underlying3 _ _) (beq_iff_eq.2 h2))) (P8 61 59 32 8 0 4 5 6 rfl rfl rfl rfl rfl rfl rfl rfl) fun _ H29 => ?_
  refine h_o H29 rfl (R_as H29 rfl rfl) (P7 59 32 8 0 4 5 6 rfl rfl rfl rfl rfl rfl rfl) fun _ H30 => ?_
  refine h_end ?_
  repeat (go_not_at_region 11; go_step)
  refine wp_cond_true (H30.ev (x := .tmp 59) rfl) ?_
  repeat (go_not_at_region 11; go_step)
  refine wp_region_lit ?_
  refine h_o H30 rfl (R_ld H30 rfl rfl (ld_rf (S := S) (vo := vo) (vL := (.slice qL S.L.length cL)) (hL.mem (g := g4) (by simp)))) (P4 63 8 0 6 rfl rfl rfl rfl) fun _ H31 => ?_
  refine h_o H31 rfl (R_ld H31 rfl rfl (ld_mgB (m := (ansMsg S.src k x.code)) (vo := (.slice none 0 0)) (vs := (.slice none 0 0)) (hL.mem (g := g8) (by simp)))) (P5 64 63 8 0 6 rfl rfl rfl rfl rfl) fun _ H32 => ?_
  refine h_call H32 rfl (wn rfl) (R_call2 H32 rfl rfl rfl (fun w => by simp [go_sem])) rfl ?_
  have hN := rhandle_any (m := (ansMsg S.src k x.code)) (vm := (.slice none 0 0)) (vs := (.slice none 0 0)) (hvo _ hL.below) (hL.rdc (S' := S) hp) ((fun w _ => rd_nul w) _ hL.below) (by omega) (by show (_ : Int) ≤ k; omega) (by show (k : Int) < _; omega) (by omega) (Nat.zero_le _) rfl
  refine hN.mono ?_
  rintro e w33 ⟨vo2, vL2, Y, rfl, hvo2, hN2, hY⟩
  clear hN
  obtain ⟨X2, hp2, hL2⟩ := hL.rown hp hN2 hY
  clear hL hN2 hY hp
  have hL := hL2
  clear hL2
  obtain ⟨q2, c2, rfl⟩ := hp2.shape
  replace hvo2 : ∀ w, Below w0.heap.size w0 w → Rd w vo2 (handleM S (ansMsg S.src k x.code)).1.t.own := fun w hb => hvo2 w (hvo w hb) ((fun w _ => rd_nul w) w hb)
  have hv2 : vo2.oneCell' = true := (hvo2 _ hL.below).one
  refine ⟨_, rfl, fun a33 HH => ?_⟩
  have H33 := HH _ (P4 65 8 0 6 rfl rfl rfl rfl)
  refine h_o H33 rfl (R_mv H33 rfl rfl) (P4 62 8 0 6 rfl rfl rfl rfl) fun _ H34 => ?_
  refine h_o H34 rfl (R_ext H34 rfl rfl rfl) (P5 66 62 8 0 6 rfl rfl rfl rfl rfl) fun _ H35 => ?_
  refine h_o H35 rfl (R_ext H35 rfl rfl rfl) (P5 67 66 8 0 6 rfl rfl rfl rfl rfl) fun _ H36 => ?_
  refine h_opP (OneK w0 p bo ba S ([bk w33.heap.size (rfC rfZ (.slice none 0 0) (.slice none 0 0)) 55, bk g8 (mcells (ansMsg S.src k x.code) (.slice none 0 0) (.slice none 0 0)) 37, bk g6 (rfC rfZ (.slice none 0 0) (.slice none 0 0)) 55, bk g5 (actC x) 50, bk g4 (rfC S vo (.slice qL S.L.length cL)) 55] ++ (X2 ++ K))) H36 rfl (wn rfl) (R_alloc rfl al_rf) (hL.add fun R h => h.alloc _ _) rfl (P6 14 67 66 8 0 6 rfl rfl rfl rfl rfl rfl) fun _ w37 H37 hL => ?_
  refine h_stP (OneK w0 p bo ba S ([bk w33.heap.size (rfC (handleM S (ansMsg S.src k x.code)).1 vo2 (.slice q2 (handleM S (ansMsg S.src k x.code)).1.L.length c2)) 55, bk g8 (mcells (ansMsg S.src k x.code) (.slice none 0 0) (.slice none 0 0)) 37, bk g6 (rfC rfZ (.slice none 0 0) (.slice none 0 0)) 55, bk g5 (actC x) 50, bk g4 (rfC S vo (.slice qL S.L.length cL)) 55] ++ (X2 ++ K))) H37 rfl (wn rfl) (R_st H37 rfl rfl rfl (st_rf (S := (handleM S (ansMsg S.src k x.code)).1) (hL.mem List.mem_cons_self) hv2 rfl)) (hL.upd fun R h => h.row _) fun _ w38 H38 hL => ?_
  refine h_o H38 rfl (R_as H38 rfl rfl) (P5 15 14 8 0 6 rfl rfl rfl rfl rfl) fun _ H39 => ?_
  refine h_end ?_
  obtain ⟨gt, hgt⟩ : ∃ g, g = w33.heap.size := ⟨_, rfl⟩
  rw [← hgt] at H39 hL
  clear hgt
  repeat (go_not_at_region 12; go_step)
  refine wp_region_held_drew (S := fun w' => HasB gt (rfC (handleM S (ansMsg S.src k x.code)).1 vo2 (.slice q2 (handleM S (ansMsg S.src k x.code)).1.L.length c2)) 55 w' ∧ HasB g8 (mcells (ansMsg S.src k x.code) (.slice none 0 0) (.slice none 0 0)) 37 w') (by kernel_rfl) ((⟨OneK.mem hL.drew (by simp), OneK.mem hL.drew (by simp)⟩ : HasB gt (rfC (handleM S (ansMsg S.src k x.code)).1 vo2 (.slice q2 (handleM S (ansMsg S.src k x.code)).1.L.length c2)) 55 _ ∧ HasB g8 (mcells (ansMsg S.src k x.code) (.slice none 0 0) (.slice none 0 0)) 37 _)) (fun _ => ?_)
  replace hL := hL.drew
  refine a_opZ 0 H39 rfl rfl (by kernel_rfl) (wn rfl) (fun w hL => R_ld H39 rfl rfl (ld_rf (S := (handleM S (ansMsg S.src k x.code)).1) hL.1)) ((⟨OneK.mem hL (by simp), OneK.mem hL (by simp)⟩ : HasB gt (rfC (handleM S (ansMsg S.src k x.code)).1 vo2 (.slice q2 (handleM S (ansMsg S.src k x.code)).1.L.length c2)) 55 _ ∧ HasB g8 (mcells (ansMsg S.src k x.code) (.slice none 0 0) (.slice none 0 0)) 37 _)) rfl (P5 68 15 8 0 6 rfl rfl rfl rfl rfl) fun _ H40 => ?_
  refine a_opZ 1 H40 rfl rfl (by kernel_rfl) (wn rfl) (fun w hL => R_mv H40 rfl rfl) ((⟨OneK.mem hL (by simp), OneK.mem hL (by simp)⟩ : HasB gt (rfC (handleM S (ansMsg S.src k x.code)).1 vo2 (.slice q2 (handleM S (ansMsg S.src k x.code)).1.L.length c2)) 55 _ ∧ HasB g8 (mcells (ansMsg S.src k x.code) (.slice none 0 0) (.slice none 0 0)) 37 _)) rfl (P5 69 68 15 8 6 rfl rfl rfl rfl rfl) fun _ H41 => ?_
  refine a_opZ 2 H41 rfl rfl (by kernel_rfl) (wn rfl) (fun w hL => R_ld H41 rfl rfl (ld_mgB (m := (ansMsg S.src k x.code)) (vo := (.slice none 0 0)) (vs := (.slice none 0 0)) hL.2)) ((⟨OneK.mem hL (by simp), OneK.mem hL (by simp)⟩ : HasB gt (rfC (handleM S (ansMsg S.src k x.code)).1 vo2 (.slice q2 (handleM S (ansMsg S.src k x.code)).1.L.length c2)) 55 _ ∧ HasB g8 (mcells (ansMsg S.src k x.code) (.slice none 0 0) (.slice none 0 0)) 37 _)) rfl (P5 70 69 68 15 6 rfl rfl rfl rfl rfl) fun _ H42 => ?_
  refine a_opZ 4 H42 rfl rfl (by kernel_rfl) (wn rfl) (fun w hL => R_mv H42 rfl rfl) ((⟨OneK.mem hL (by simp), OneK.mem hL (by simp)⟩ : HasB gt (rfC (handleM S (ansMsg S.src k x.code)).1 vo2 (.slice q2 (handleM S (ansMsg S.src k x.code)).1.L.length c2)) 55 _ ∧ HasB g8 (mcells (ansMsg S.src k x.code) (.slice none 0 0) (.slice none 0 0)) 37 _)) rfl (P5 72 70 69 68 6 rfl rfl rfl rfl rfl) fun _ H43 => ?_
  refine a_all1 3 (by kernel_rfl) ?_
  refine o_call 3 H43 rfl rfl (wn rfl) (R_call2 H43 rfl rfl rfl (fun w => by simp [go_sem])) rfl ?_
  refine (k1_handle (m := (ansMsg S.src k x.code)) (vo := (.slice none 0 0)) (vs := (.slice none 0 0)) hL (fun w _ => rd_nul w) (by omega) (by show (_ : Int) ≤ k; omega) (by show (k : Int) < _; omega) (by omega) (Nat.zero_le _) rfl).mono ?_
  rintro e w44 ⟨rfl, hL2⟩
  replace hL := hL2
  clear hL2
  refine ⟨_, rfl, fun a44 HH => ?_⟩
  have H44 := HH _ (P4 71 72 68 6 rfl rfl rfl rfl)
  refine ⟨(⟨OneK.mem hL (by simp), OneK.mem hL (by simp)⟩ : HasB gt (rfC (handleM S (ansMsg S.src k x.code)).1 vo2 (.slice q2 (handleM S (ansMsg S.src k x.code)).1.L.length c2)) 55 _ ∧ HasB g8 (mcells (ansMsg S.src k x.code) (.slice none 0 0) (.slice none 0 0)) 37 _), ?_⟩
  refine a_opZ 5 H44 rfl rfl (by kernel_rfl) (wn rfl) (fun w hL => R_bin H44 rfl rfl rfl (Bb_eq _ _)) ((⟨OneK.mem hL (by simp), OneK.mem hL (by simp)⟩ : HasB gt (rfC (handleM S (ansMsg S.src k x.code)).1 vo2 (.slice q2 (handleM S (ansMsg S.src k x.code)).1.L.length c2)) 55 _ ∧ HasB g8 (mcells (ansMsg S.src k x.code) (.slice none 0 0) (.slice none 0 0)) 37 _)) rfl (P3 73 68 6 rfl rfl rfl) fun _ H45 => ?_
  refine a_all1 6 (by kernel_rfl) ?_
  refine o_stP (OneK w0 p bo ba (handleM S (ansMsg S.src k x.code)).1 ([bk g6 (rfC (handleM S (ansMsg S.src k x.code)).1 vo2 (.slice q2 (handleM S (ansMsg S.src k x.code)).1.L.length c2)) 55, bk gt (rfC (handleM S (ansMsg S.src k x.code)).1 vo2 (.slice q2 (handleM S (ansMsg S.src k x.code)).1.L.length c2)) 55, bk g8 (mcells (ansMsg S.src k x.code) (.slice none 0 0) (.slice none 0 0)) 37, bk g5 (actC x) 50, bk g4 (rfC S vo (.slice qL S.L.length cL)) 55] ++ (X2 ++ K))) 6 H45 rfl rfl (wn rfl) (R_st H45 rfl rfl rfl (st_rf (S := (handleM S (ansMsg S.src k x.code)).1) (S2 := rfZ) (vo2 := .slice none 0 0) (vL2 := .slice none 0 0) (hL.mem (by simp)) hv2 rfl)) (OneK.upd (hL.perm (k6_perm)) fun R h => h.row _) fun a46 w46 H46 hL' => ⟨(⟨OneK.mem hL' (by simp), OneK.mem hL' (by simp)⟩ : HasB gt (rfC (handleM S (ansMsg S.src k x.code)).1 vo2 (.slice q2 (handleM S (ansMsg S.src k x.code)).1.L.length c2)) 55 _ ∧ HasB g8 (mcells (ansMsg S.src k x.code) (.slice none 0 0) (.slice none 0 0)) 37 _), ?_⟩
  replace hL := hL'
  refine a_opZ 7 H46 rfl rfl (by kernel_rfl) (wn rfl) (fun w hL => R_as H46 rfl rfl) ((⟨OneK.mem hL (by simp), OneK.mem hL (by simp)⟩ : HasB gt (rfC (handleM S (ansMsg S.src k x.code)).1 vo2 (.slice q2 (handleM S (ansMsg S.src k x.code)).1.L.length c2)) 55 _ ∧ HasB g8 (mcells (ansMsg S.src k x.code) (.slice none 0 0) (.slice none 0 0)) 37 _)) rfl (P2 7 6 rfl rfl) fun _ H47 => ?_
  refine wpAnyH_done (by kernel_rfl) ?_ _
  repeat (go_not_at_region 999; go_step)
  exact bodyPost_ret (v := .tuple #[.agg (rfC (handleM S (ansMsg S.src k x.code)).1 vo2 (.slice q2 (handleM S (ansMsg S.src k x.code)).1.L.length c2)), .bool true]) (rf_results2 rfl (H47.getD rfl) ((H47.getD rfl).trans (by simp)) (hL.mem List.mem_cons_self)) H47.1 ⟨(handleM S (ansMsg S.src k x.code)).1, _, _, X2, rfl, (play_handle hI).mono, hp2, hvo2, hL.dropl⟩
 rw [beq_eq_false_iff_ne.2 h2] at H11
 repeat (go_not_at_region 4; go_step)
 refine wp_cond_false (H11.ev (x := .tmp 20) rfl) ?_
 repeat (go_not_at_region 4; go_step)
 refine wp_region_lit ?_
 refine h_o H11 rfl (R_fa H11 rfl rfl fa_box0) (P6 31 8 6 5 4 0 rfl rfl rfl rfl rfl rfl) fun _ H12 => ?_
 refine h_o H12 rfl (R_ld H12 rfl rfl (ld_int (x := x.do_) ((hL.cl (g := g5) (A := actC x) (t := 50) (by simp) 0).trans rfl))) (P6 32 8 6 5 4 0 rfl rfl rfl rfl rfl rfl) fun _ H13 => ?_
 refine h_end ?_
 by_cases h0 : x.do_ = 0
 ·repeat (go_not_at_region 5; go_step)
  refine wp_region_lit ?_
  refine h_o H13 rfl (R_bin H13 rfl rfl rfl (B_to (y := true) (B_eq Tryz.underlying3 _ _) (beq_iff_eq.2 h0))) (P7 34 32 8 6 5 4 0 rfl rfl rfl rfl rfl rfl rfl) fun _ H14 => ?_
  refine h_o H14 rfl (R_as H14 rfl rfl) (P7 33 32 8 6 5 4 0 rfl rfl rfl rfl rfl rfl rfl) fun _ H15 => ?_
  refine h_end ?_
  repeat (go_not_at_region 6; go_step)
  refine wp_cond_true (H15.ev (x := .tmp 33) rfl) ?_
  repeat (go_not_at_region 6; go_step)
  refine wp_region_lit ?_
  refine h_o H15 rfl (R_ld H15 rfl rfl (ld_rf (S := S) (vo := vo) (vL := (.slice qL S.L.length cL)) (hL.mem (g := g4) (by simp)))) (P4 36 6 5 0 rfl rfl rfl rfl) fun _ H16 => ?_
  refine h_o H16 rfl (R_fa H16 rfl rfl fa_box1) (P5 37 36 6 5 0 rfl rfl rfl rfl rfl) fun _ H17 => ?_
  refine h_o H17 rfl (R_ld H17 rfl rfl (ld_boxI (x := x) (hL.mem (g := g5) (by simp)))) (P5 38 36 6 5 0 rfl rfl rfl rfl rfl) fun _ H18 => ?_
  refine h_call H18 rfl (wn rfl) (R_call2 H18 rfl rfl rfl (fun w => by simp [go_sem])) rfl ?_
  have hN := rsend_any (x := x.item) (hvo _ hL.below) (hL.rdc (S' := S) hp) (by omega)
  refine hN.mono ?_
  rintro e w19 ⟨vL2, Y, rfl, hN2, hY⟩
  clear hN
  obtain ⟨X2, hp2, hL2⟩ := hL.rown hp hN2 hY
  clear hL hN2 hY hp
  have hL := hL2
  clear hL2
  obtain ⟨q2, c2, rfl⟩ := hp2.shape
  refine ⟨_, rfl, fun a19 HH => ?_⟩
  have H19 := HH _ (P4 39 6 5 0 rfl rfl rfl rfl)
  refine h_o H19 rfl (R_mv H19 rfl rfl) (P4 35 6 5 0 rfl rfl rfl rfl) fun _ H20 => ?_
  refine h_o H20 rfl (R_ext H20 rfl rfl rfl) (P5 40 35 6 5 0 rfl rfl rfl rfl rfl) fun _ H21 => ?_
  refine h_o H21 rfl (R_ext H21 rfl rfl rfl) (P6 41 40 35 6 5 0 rfl rfl rfl rfl rfl rfl) fun _ H22 => ?_
  refine h_o H22 rfl (R_ext H22 rfl rfl rfl) (P6 42 41 40 6 5 0 rfl rfl rfl rfl rfl rfl) fun _ H23 => ?_
  refine h_opP (OneK w0 p bo ba S ([bk w19.heap.size (rfC rfZ (.slice none 0 0) (.slice none 0 0)) 55, bk g8 (mcells x.msg x.vo x.vs) 37, bk g6 (rfC rfZ (.slice none 0 0) (.slice none 0 0)) 55, bk g5 (actC x) 50, bk g4 (rfC S vo (.slice qL S.L.length cL)) 55] ++ (X2 ++ K))) H23 rfl (wn rfl) (R_alloc rfl al_rf) (hL.add fun R h => h.alloc _ _) rfl (P7 9 42 41 40 6 5 0 rfl rfl rfl rfl rfl rfl rfl) fun _ w24 H24 hL => ?_
  refine h_stP (OneK w0 p bo ba S ([bk w19.heap.size (rfC (sendM S x.item).1 vo (.slice q2 (sendM S x.item).1.L.length c2)) 55, bk g8 (mcells x.msg x.vo x.vs) 37, bk g6 (rfC rfZ (.slice none 0 0) (.slice none 0 0)) 55, bk g5 (actC x) 50, bk g4 (rfC S vo (.slice qL S.L.length cL)) 55] ++ (X2 ++ K))) H24 rfl (wn rfl) (R_st H24 rfl rfl rfl (st_rf (S := (sendM S x.item).1) (hL.mem List.mem_cons_self) hv1 rfl)) (hL.upd fun R h => h.row _) fun _ w25 H25 hL => ?_
  refine h_o H25 rfl (R_as H25 rfl rfl) (P6 10 9 42 6 5 0 rfl rfl rfl rfl rfl rfl) fun _ H26 => ?_
  refine h_o H26 rfl (R_as H26 rfl rfl) (P6 11 10 9 6 5 0 rfl rfl rfl rfl rfl rfl) fun _ H27 => ?_
  refine h_end ?_
  obtain ⟨gt, hgt⟩ : ∃ g, g = w19.heap.size := ⟨_, rfl⟩
  rw [← hgt] at H27 hL
  clear hgt
  repeat (go_not_at_region 7; go_step)
  refine wp_region_lit ?_
  refine h_o H27 rfl (R_mv H27 rfl rfl) (P6 44 11 10 9 6 5 rfl rfl rfl rfl rfl rfl) fun _ H28 => ?_
  refine h_o H28 rfl (R_fa H28 rfl rfl fa_box1) (P6 45 44 11 10 9 6 rfl rfl rfl rfl rfl rfl) fun _ H29 => ?_
  refine h_o H29 rfl (R_ld H29 rfl rfl (ld_boxI (x := x) (hL.mem (g := g5) (by simp)))) (P6 46 44 11 10 9 6 rfl rfl rfl rfl rfl rfl) fun _ H30 => ?_
  refine h_call H30 rfl (wn rfl) (R_call2 H30 rfl rfl rfl (fun w => by simp [go_sem])) rfl ?_
  refine (k1_send (x := x.item) hL (by omega)).mono ?_
  rintro e w31 ⟨rfl, hL2⟩
  replace hL := hL2
  clear hL2
  refine ⟨_, rfl, fun a31 HH => ?_⟩
  have H31 := HH _ (P5 47 11 10 9 6 rfl rfl rfl rfl rfl)
  refine h_o H31 rfl (R_mv H31 rfl rfl) (P5 43 11 10 9 6 rfl rfl rfl rfl rfl) fun _ H32 => ?_
  refine h_o H32 rfl (R_ext H32 rfl rfl rfl) (P6 48 43 11 10 9 6 rfl rfl rfl rfl rfl rfl) fun _ H33 => ?_
  refine h_o H33 rfl (R_ext H33 rfl rfl rfl) (P6 49 48 11 10 9 6 rfl rfl rfl rfl rfl rfl) fun _ H34 => ?_
  refine h_o H34 rfl (R_as H34 rfl rfl) (P6 12 49 11 10 9 6 rfl rfl rfl rfl rfl rfl) fun _ H35 => ?_
  refine h_o H35 rfl (R_as H35 rfl rfl) (P6 13 12 11 10 9 6 rfl rfl rfl rfl rfl rfl) fun _ H36 => ?_
  refine h_end ?_
  repeat (go_not_at_region 8; go_step)
  refine wp_region_lit ?_
  refine h_o H36 rfl (R_ld H36 rfl rfl (ld_rf (S := (sendM S x.item).1) (hL.mem List.mem_cons_self))) (P6 50 13 12 11 10 6 rfl rfl rfl rfl rfl rfl) fun _ H37 => ?_
  refine h_o H37 rfl (R_mv H37 rfl rfl) (P6 51 50 13 12 11 6 rfl rfl rfl rfl rfl rfl) fun _ H38 => ?_
  refine h_o H38 rfl (R_mv H38 rfl rfl) (P6 52 51 50 13 11 6 rfl rfl rfl rfl rfl rfl) fun _ H39 => ?_
  refine h_o H39 rfl (R_bin H39 rfl rfl rfl (B_to (y := true) (B_eq Tryz.underlying3 _ _) (by simp))) (P5 53 50 13 11 6 rfl rfl rfl rfl rfl) fun _ H40 => ?_
  refine h_o H40 rfl (R_mv H40 rfl rfl) (P5 54 50 13 11 6 rfl rfl rfl rfl rfl) fun _ H41 => ?_
  refine h_op H41 rfl (H41.wt rfl rfl rfl) (R_mv H41 rfl rfl) rfl (P5 55 54 50 13 6 rfl rfl rfl rfl rfl) fun _ H42 => ?_
  refine h_op H42 rfl (H42.wt rfl rfl rfl) (R_mv H42 rfl rfl) rfl (P5 56 55 54 50 6 rfl rfl rfl rfl rfl) fun _ H43 => ?_
  refine h_op H43 rfl (H43.wt rfl rfl rfl) (R_bin H43 rfl rfl rfl (B_to (y := true) (B_eq Tryz.underlying3 _ _) (by simp))) rfl (P4 57 54 50 6 rfl rfl rfl rfl) fun _ H44 => ?_
  refine h_o H44 rfl (R_pick H44 rfl rfl rfl) (P3 58 50 6 rfl rfl rfl) fun _ H45 => ?_
  refine h_stP (OneK w0 p bo ba (sendM S x.item).1 ([bk g6 (rfC (sendM S x.item).1 vo (.slice q2 (sendM S x.item).1.L.length c2)) 55, bk gt (rfC (sendM S x.item).1 vo (.slice q2 (sendM S x.item).1.L.length c2)) 55, bk g8 (mcells x.msg x.vo x.vs) 37, bk g5 (actC x) 50, bk g4 (rfC S vo (.slice qL S.L.length cL)) 55] ++ (X2 ++ K))) H45 rfl (wn rfl) (R_st H45 rfl rfl rfl (st_rf (S := (sendM S x.item).1) (S2 := rfZ) (vo2 := .slice none 0 0) (vL2 := .slice none 0 0) (hL.mem (by simp)) hv1 rfl)) (OneK.upd (hL.perm k6_perm) fun R h => h.row _) fun _ w46 H46 hL => ?_
  refine h_o H46 rfl (R_as H46 rfl rfl) (P2 7 6 rfl rfl) fun _ H47 => ?_
  refine h_end ?_
  repeat (go_not_at_region 999; go_step)
  exact bodyPost_ret (v := .tuple #[.agg (rfC (sendM S x.item).1 vo (.slice q2 (sendM S x.item).1.L.length c2)), .bool true]) (rf_results2 rfl (H47.getD rfl) (H47.getD rfl) (hL.mem List.mem_cons_self)) H47.1 ⟨(sendM S x.item).1, _, _, X2, rfl, play_send hI hxi, hp2, fun w hb => by rw [sendM_t]; exact hvo w hb, hL.dropl⟩
 repeat (go_not_at_region 5; go_step)
 refine wp_region_lit ?_
 refine h_o H13 rfl (R_bin H13 rfl rfl rfl (B_to (y := false) (B_eq Tryz.underlying3 _ _) (beq_eq_false_iff_ne.2 h0))) (P7 34 32 8 6 5 4 0 rfl rfl rfl rfl rfl rfl rfl) fun _ H14 => ?_
 refine h_o H14 rfl (R_as H14 rfl rfl) (P7 33 32 8 6 5 4 0 rfl rfl rfl rfl rfl rfl rfl) fun _ H15 => ?_
 refine h_end ?_
 repeat (go_not_at_region 9; go_step)
 refine wp_cond_false (H15.ev (x := .tmp 33) rfl) ?_
 by_cases h1 : x.do_ = 1
 ·repeat (go_not_at_region 9; go_step)
  refine wp_region_lit ?_
  refine h_o H15 rfl (R_bin H15 rfl rfl rfl (B_to (y := true) (B_eq Tryz.underlying3 _ _) (beq_iff_eq.2 h1))) (P7 60 32 8 6 5 4 0 rfl rfl rfl rfl rfl rfl rfl) fun _ H16 => ?_
  refine h_o H16 rfl (R_as H16 rfl rfl) (P7 59 32 8 6 5 4 0 rfl rfl rfl rfl rfl rfl rfl) fun _ H17 => ?_
  refine h_end ?_
  repeat (go_not_at_region 11; go_step)
  repeat (refine wp_cond_true (H17.ev (x := .tmp 59) rfl) ?_; repeat (go_not_at_region 11; go_step))
  repeat (go_not_at_region 11; go_step)
  refine wp_region_lit ?_
  refine h_o H17 rfl (R_ld H17 rfl rfl (ld_rf (S := S) (vo := vo) (vL := (.slice qL S.L.length cL)) (hL.mem (g := g4) (by simp)))) (P4 63 8 6 0 rfl rfl rfl rfl) fun _ H18 => ?_
  refine h_o H18 rfl (R_ld H18 rfl rfl (ld_mgB (m := x.msg) (vo := x.vo) (vs := x.vs) (hL.mem (g := g8) (by simp)))) (P5 64 63 8 6 0 rfl rfl rfl rfl rfl) fun _ H19 => ?_
  refine h_call H19 rfl (wn rfl) (R_call2 H19 rfl rfl rfl (fun w => by simp [go_sem])) rfl ?_
  have hN := rhandle_any (m := x.msg) (vm := x.vo) (vs := x.vs) (hvo _ hL.below) (hL.rdc (S' := S) hp) (hxv _ hL.below) (by omega) hx.iseq0 hx.iseq1 (by omega) (by omega) hvs
  refine hN.mono ?_
  rintro e w20 ⟨vo2, vL2, Y, rfl, hvo2, hN2, hY⟩
  clear hN
  obtain ⟨X2, hp2, hL2⟩ := hL.rown hp hN2 hY
  clear hL hN2 hY hp
  have hL := hL2
  clear hL2
  obtain ⟨q2, c2, rfl⟩ := hp2.shape
  replace hvo2 : ∀ w, Below w0.heap.size w0 w → Rd w vo2 (handleM S x.msg).1.t.own := fun w hb => hvo2 w (hvo w hb) (hxv w hb)
  have hv2 : vo2.oneCell' = true := (hvo2 _ hL.below).one
  refine ⟨_, rfl, fun a20 HH => ?_⟩
  have H20 := HH _ (P4 65 8 6 0 rfl rfl rfl rfl)
  refine h_o H20 rfl (R_mv H20 rfl rfl) (P4 62 8 6 0 rfl rfl rfl rfl) fun _ H21 => ?_
  refine h_o H21 rfl (R_ext H21 rfl rfl rfl) (P5 66 62 8 6 0 rfl rfl rfl rfl rfl) fun _ H22 => ?_
  refine h_o H22 rfl (R_ext H22 rfl rfl rfl) (P5 67 66 8 6 0 rfl rfl rfl rfl rfl) fun _ H23 => ?_
  refine h_opP (OneK w0 p bo ba S ([bk w20.heap.size (rfC rfZ (.slice none 0 0) (.slice none 0 0)) 55, bk g8 (mcells x.msg x.vo x.vs) 37, bk g6 (rfC rfZ (.slice none 0 0) (.slice none 0 0)) 55, bk g5 (actC x) 50, bk g4 (rfC S vo (.slice qL S.L.length cL)) 55] ++ (X2 ++ K))) H23 rfl (wn rfl) (R_alloc rfl al_rf) (hL.add fun R h => h.alloc _ _) rfl (P6 14 67 66 8 6 0 rfl rfl rfl rfl rfl rfl) fun _ w24 H24 hL => ?_
  refine h_stP (OneK w0 p bo ba S ([bk w20.heap.size (rfC (handleM S x.msg).1 vo2 (.slice q2 (handleM S x.msg).1.L.length c2)) 55, bk g8 (mcells x.msg x.vo x.vs) 37, bk g6 (rfC rfZ (.slice none 0 0) (.slice none 0 0)) 55, bk g5 (actC x) 50, bk g4 (rfC S vo (.slice qL S.L.length cL)) 55] ++ (X2 ++ K))) H24 rfl (wn rfl) (R_st H24 rfl rfl rfl (st_rf (S := (handleM S x.msg).1) (hL.mem List.mem_cons_self) hv2 rfl)) (hL.upd fun R h => h.row _) fun _ w25 H25 hL => ?_
  refine h_o H25 rfl (R_as H25 rfl rfl) (P5 15 14 8 6 0 rfl rfl rfl rfl rfl) fun _ H26 => ?_
  refine h_end ?_
  obtain ⟨gt, hgt⟩ : ∃ g, g = w20.heap.size := ⟨_, rfl⟩
  rw [← hgt] at H26 hL
  clear hgt
  repeat (go_not_at_region 12; go_step)
  refine wp_region_held_drew (S := fun w' => HasB gt (rfC (handleM S x.msg).1 vo2 (.slice q2 (handleM S x.msg).1.L.length c2)) 55 w' ∧ HasB g8 (mcells x.msg x.vo x.vs) 37 w') (by kernel_rfl) ((⟨OneK.mem hL.drew (by simp), OneK.mem hL.drew (by simp)⟩ : HasB gt (rfC (handleM S x.msg).1 vo2 (.slice q2 (handleM S x.msg).1.L.length c2)) 55 _ ∧ HasB g8 (mcells x.msg x.vo x.vs) 37 _)) (fun _ => ?_)
  replace hL := hL.drew
  refine a_opZ 0 H26 rfl rfl (by kernel_rfl) (wn rfl) (fun w hL => R_ld H26 rfl rfl (ld_rf (S := (handleM S x.msg).1) hL.1)) ((⟨OneK.mem hL (by simp), OneK.mem hL (by simp)⟩ : HasB gt (rfC (handleM S x.msg).1 vo2 (.slice q2 (handleM S x.msg).1.L.length c2)) 55 _ ∧ HasB g8 (mcells x.msg x.vo x.vs) 37 _)) rfl (P5 68 15 8 6 0 rfl rfl rfl rfl rfl) fun _ H27 => ?_
  refine a_opZ 1 H27 rfl rfl (by kernel_rfl) (wn rfl) (fun w hL => R_mv H27 rfl rfl) ((⟨OneK.mem hL (by simp), OneK.mem hL (by simp)⟩ : HasB gt (rfC (handleM S x.msg).1 vo2 (.slice q2 (handleM S x.msg).1.L.length c2)) 55 _ ∧ HasB g8 (mcells x.msg x.vo x.vs) 37 _)) rfl (P5 69 68 15 8 6 rfl rfl rfl rfl rfl) fun _ H28 => ?_
  refine a_opZ 2 H28 rfl rfl (by kernel_rfl) (wn rfl) (fun w hL => R_ld H28 rfl rfl (ld_mgB (m := x.msg) (vo := x.vo) (vs := x.vs) hL.2)) ((⟨OneK.mem hL (by simp), OneK.mem hL (by simp)⟩ : HasB gt (rfC (handleM S x.msg).1 vo2 (.slice q2 (handleM S x.msg).1.L.length c2)) 55 _ ∧ HasB g8 (mcells x.msg x.vo x.vs) 37 _)) rfl (P5 70 69 68 15 6 rfl rfl rfl rfl rfl) fun _ H29 => ?_
  refine a_opZ 4 H29 rfl rfl (by kernel_rfl) (wn rfl) (fun w hL => R_mv H29 rfl rfl) ((⟨OneK.mem hL (by simp), OneK.mem hL (by simp)⟩ : HasB gt (rfC (handleM S x.msg).1 vo2 (.slice q2 (handleM S x.msg).1.L.length c2)) 55 _ ∧ HasB g8 (mcells x.msg x.vo x.vs) 37 _)) rfl (P5 72 70 69 68 6 rfl rfl rfl rfl rfl) fun _ H30 => ?_
  refine a_all1 3 (by kernel_rfl) ?_
  refine o_call 3 H30 rfl rfl (wn rfl) (R_call2 H30 rfl rfl rfl (fun w => by simp [go_sem])) rfl ?_
  refine (k1_handle (m := x.msg) (vo := x.vo) (vs := x.vs) hL hxv (by omega) hx.iseq0 hx.iseq1 (by omega) (by omega) hvs).mono ?_
  rintro e w31 ⟨rfl, hL2⟩
  replace hL := hL2
  clear hL2
  refine ⟨_, rfl, fun a31 HH => ?_⟩
  have H31 := HH _ (P4 71 72 68 6 rfl rfl rfl rfl)
  refine ⟨(⟨OneK.mem hL (by simp), OneK.mem hL (by simp)⟩ : HasB gt (rfC (handleM S x.msg).1 vo2 (.slice q2 (handleM S x.msg).1.L.length c2)) 55 _ ∧ HasB g8 (mcells x.msg x.vo x.vs) 37 _), ?_⟩
  refine a_opZ 5 H31 rfl rfl (by kernel_rfl) (wn rfl) (fun w hL => R_bin H31 rfl rfl rfl (Bb_eq _ _)) ((⟨OneK.mem hL (by simp), OneK.mem hL (by simp)⟩ : HasB gt (rfC (handleM S x.msg).1 vo2 (.slice q2 (handleM S x.msg).1.L.length c2)) 55 _ ∧ HasB g8 (mcells x.msg x.vo x.vs) 37 _)) rfl (P3 73 68 6 rfl rfl rfl) fun _ H32 => ?_
  refine a_all1 6 (by kernel_rfl) ?_
  refine o_stP (OneK w0 p bo ba (handleM S x.msg).1 ([bk g6 (rfC (handleM S x.msg).1 vo2 (.slice q2 (handleM S x.msg).1.L.length c2)) 55, bk gt (rfC (handleM S x.msg).1 vo2 (.slice q2 (handleM S x.msg).1.L.length c2)) 55, bk g8 (mcells x.msg x.vo x.vs) 37, bk g5 (actC x) 50, bk g4 (rfC S vo (.slice qL S.L.length cL)) 55] ++ (X2 ++ K))) 6 H32 rfl rfl (wn rfl) (R_st H32 rfl rfl rfl (st_rf (S := (handleM S x.msg).1) (S2 := rfZ) (vo2 := .slice none 0 0) (vL2 := .slice none 0 0) (hL.mem (by simp)) hv2 rfl)) (OneK.upd (hL.perm (k6_perm)) fun R h => h.row _) fun a33 w33 H33 hL' => ⟨(⟨OneK.mem hL' (by simp), OneK.mem hL' (by simp)⟩ : HasB gt (rfC (handleM S x.msg).1 vo2 (.slice q2 (handleM S x.msg).1.L.length c2)) 55 _ ∧ HasB g8 (mcells x.msg x.vo x.vs) 37 _), ?_⟩
  replace hL := hL'
  refine a_opZ 7 H33 rfl rfl (by kernel_rfl) (wn rfl) (fun w hL => R_as H33 rfl rfl) ((⟨OneK.mem hL (by simp), OneK.mem hL (by simp)⟩ : HasB gt (rfC (handleM S x.msg).1 vo2 (.slice q2 (handleM S x.msg).1.L.length c2)) 55 _ ∧ HasB g8 (mcells x.msg x.vo x.vs) 37 _)) rfl (P2 7 6 rfl rfl) fun _ H34 => ?_
  refine wpAnyH_done (by kernel_rfl) ?_ _
  repeat (go_not_at_region 999; go_step)
  exact bodyPost_ret (v := .tuple #[.agg (rfC (handleM S x.msg).1 vo2 (.slice q2 (handleM S x.msg).1.L.length c2)), .bool true]) (rf_results2 rfl (H34.getD rfl) ((H34.getD rfl).trans (by simp)) (hL.mem List.mem_cons_self)) H34.1 ⟨(handleM S x.msg).1, _, _, X2, rfl, (play_handle hI).mono, hp2, hvo2, hL.dropl⟩
 repeat (go_not_at_region 9; go_step)
 refine wp_region_lit ?_
 refine h_o H15 rfl (R_bin H15 rfl rfl rfl (B_to (y := false) (B_eq Tryz.underlying3 _ _) (beq_eq_false_iff_ne.2 h1))) (P7 60 32 8 6 5 4 0 rfl rfl rfl rfl rfl rfl rfl) fun _ H16 => ?_
 refine h_o H16 rfl (R_as H16 rfl rfl) (P7 59 32 8 6 5 4 0 rfl rfl rfl rfl rfl rfl rfl) fun _ H17 => ?_
 refine h_end ?_
 repeat (go_not_at_region 10; go_step)
 refine wp_cond_false (H17.ev (x := .tmp 59) rfl) ?_
 repeat (go_not_at_region 10; go_step)
 refine wp_region_lit ?_
 refine h_o H17 rfl (R_bin H17 rfl rfl rfl (B_to (y := false) (B_eq Tryz.underlying3 _ _) (beq_eq_false_iff_ne.2 h2))) (P8 61 59 32 8 6 5 4 0 rfl rfl rfl rfl rfl rfl rfl rfl) fun _ H18 => ?_
 refine h_o H18 rfl (R_as H18 rfl rfl) (P7 59 32 8 6 5 4 0 rfl rfl rfl rfl rfl rfl rfl) fun _ H19 => ?_
 refine h_end ?_
 repeat (go_not_at_region 13; go_step)
 refine wp_cond_false (H19.ev (x := .tmp 59) rfl) ?_
 by_cases h3 : x.do_ = 3
 ·repeat (go_not_at_region 13; go_step)
  refine wp_region_lit ?_
  refine h_o H19 rfl (R_bin H19 rfl rfl rfl (B_to (y := true) (B_eq Tryz.underlying3 _ _) (beq_iff_eq.2 h3))) (P7 75 32 8 6 5 4 0 rfl rfl rfl rfl rfl rfl rfl) fun _ H20 => ?_
  refine h_o H20 rfl (R_as H20 rfl rfl) (P7 74 32 8 6 5 4 0 rfl rfl rfl rfl rfl rfl rfl) fun _ H21 => ?_
  refine h_end ?_
  repeat (go_not_at_region 14; go_step)
  refine wp_cond_true (H21.ev (x := .tmp 74) rfl) ?_
  repeat (go_not_at_region 14; go_step)
  refine wp_region_held_drew (S := fun w' => HasB g4 (rfC S vo (.slice qL S.L.length cL)) 55 w') (by kernel_rfl) ((OneK.mem hL.drew (by simp) : HasB g4 (rfC S vo (.slice qL S.L.length cL)) 55 _)) (fun _ => ?_)
  replace hL := hL.drew
  refine a_opZ 0 H21 rfl rfl (by kernel_rfl) (wn rfl) (fun w hL => R_ld H21 rfl rfl (ld_rf (S := S) hL)) ((OneK.mem hL (by simp) : HasB g4 (rfC S vo (.slice qL S.L.length cL)) 55 _)) rfl (P4 76 6 4 0 rfl rfl rfl rfl) fun _ H22 => ?_
  refine a_opZ 1 H22 rfl rfl (by kernel_rfl) (wn rfl) (fun w hL => R_mv H22 rfl rfl) ((OneK.mem hL (by simp) : HasB g4 (rfC S vo (.slice qL S.L.length cL)) 55 _)) rfl (P4 77 76 6 4 rfl rfl rfl rfl) fun _ H23 => ?_
  refine a_opZ 3 H23 rfl rfl (by kernel_rfl) (wn rfl) (fun w hL => R_ld H23 rfl rfl (ld_rf (S := S) hL)) ((OneK.mem hL (by simp) : HasB g4 (rfC S vo (.slice qL S.L.length cL)) 55 _)) rfl (P4 79 77 76 6 rfl rfl rfl rfl) fun _ H24 => ?_
  refine a_all1 2 (by kernel_rfl) ?_
  refine o_call 2 H24 rfl rfl (wn rfl) (R_call1 H24 rfl rfl (fun w => by simp [go_sem])) rfl ?_
  refine (k1_tick hL (by omega) (by omega) hI.ok hI.src0 (by have := hI.src1; omega)).mono ?_
  rintro e w25 ⟨va, Xa, rfl, hpa, hL2⟩
  replace hL := hL2
  clear hL2
  refine ⟨_, rfl, fun a25 HH => ?_⟩
  have H25 := HH _ (P4 78 79 76 6 rfl rfl rfl rfl)
  refine ⟨(OneK.mem hL (by simp) : HasB g4 (rfC S vo (.slice qL S.L.length cL)) 55 _), ?_⟩
  refine a_all1 4 (by kernel_rfl) ?_
  refine o_call 4 H25 rfl rfl (wn rfl) (R_call1 H25 rfl rfl (fun w => by simp [go_sem])) rfl ?_
  have hLr := OneK.dropl (X := Xa) hL
  refine (rtick_any hI (by omega) (hvo _ hL.below) (hLr.rdc (S' := S) hp) (by omega)).mono ?_
  rintro e w26 ⟨vb, Xb, rfl, hpb, hY⟩
  clear hLr
  replace hL : OneK w0 p bo ba S (Xb ++ _) _ := hL.addl fun R h => h.joinV hY
  clear hY
  refine ⟨_, rfl, fun a26 HH => ?_⟩
  have H26 := HH _ (P4 80 78 76 6 rfl rfl rfl rfl)
  refine ⟨(OneK.mem hL (by simp) : HasB g4 (rfC S vo (.slice qL S.L.length cL)) 55 _), ?_⟩
  refine a_all1 5 (by kernel_rfl) ?_
  refine o_call 5 H26 rfl rfl (wn rfl) (R_call2 H26 rfl rfl rfl (fun w => by simp [go_sem])) rfl ?_
  refine (k1_packets hpa hpb hL (pkts_few hI (by omega))).mono ?_
  rintro e w27 ⟨rfl, hL2⟩
  replace hL := hL2
  clear hL2 hpa hpb
  refine ⟨_, rfl, fun a27 HH => ?_⟩
  have H27 := HH _ (P3 81 76 6 rfl rfl rfl)
  refine ⟨(OneK.mem hL (by simp) : HasB g4 (rfC S vo (.slice qL S.L.length cL)) 55 _), ?_⟩
  refine a_all1 6 (by kernel_rfl) ?_
  refine o_stP (OneK w0 p bo ba S (([bk g6 (rfC S vo (.slice qL S.L.length cL)) 55, bk g8 (mcells x.msg x.vo x.vs) 37, bk g5 (actC x) 50, bk g4 (rfC S vo (.slice qL S.L.length cL)) 55] ++ (X ++ K)))) 6 H27 rfl rfl (wn rfl) (R_st H27 rfl rfl rfl (st_rf (S := S) (S2 := rfZ) (vo2 := .slice none 0 0) (vL2 := .slice none 0 0) (hL.mem (by simp)) hv1 rfl)) (OneK.updm (Y := []) hL fun R h => h.row _) fun a28 w28 H28 hL' => ⟨(OneK.mem hL' (by simp) : HasB g4 (rfC S vo (.slice qL S.L.length cL)) 55 _), ?_⟩
  replace hL := hL'
  refine a_opZ 7 H28 rfl rfl (by kernel_rfl) (wn rfl) (fun w hL => R_as H28 rfl rfl) ((OneK.mem hL (by simp) : HasB g4 (rfC S vo (.slice qL S.L.length cL)) 55 _)) rfl (P2 7 6 rfl rfl) fun _ H29 => ?_
  refine wpAnyH_done (by kernel_rfl) ?_ _
  repeat (go_not_at_region 999; go_step)
  exact bodyPost_ret (v := .tuple #[.agg (rfC S vo (.slice qL S.L.length cL)), .bool true]) (rf_results2 rfl (H29.getD rfl) (H29.getD rfl) (hL.mem List.mem_cons_self)) H29.1 ⟨S, _, _, X, rfl, hI.mono, hp, hvo, hL.dropl⟩
 repeat (go_not_at_region 13; go_step)
 refine wp_region_lit ?_
 refine h_o H19 rfl (R_bin H19 rfl rfl rfl (B_to (y := false) (B_eq Tryz.underlying3 _ _) (beq_eq_false_iff_ne.2 h3))) (P7 75 32 8 6 5 4 0 rfl rfl rfl rfl rfl rfl rfl) fun _ H20 => ?_
 refine h_o H20 rfl (R_as H20 rfl rfl) (P7 74 32 8 6 5 4 0 rfl rfl rfl rfl rfl rfl rfl) fun _ H21 => ?_
 refine h_end ?_
 repeat (go_not_at_region 15; go_step)
 refine wp_cond_false (H21.ev (x := .tmp 74) rfl) ?_
 repeat (go_not_at_region 15; go_step)
 refine wp_region_lit ?_
 refine h_o H21 rfl (R_ld H21 rfl rfl (ld_rf (S := S) (vo := vo) (vL := (.slice qL S.L.length cL)) (hL.mem (g := g4) (by simp)))) (P2 82 6 rfl rfl) fun _ H22 => ?_
 refine h_stP (OneK w0 p bo ba S ([bk g6 (rfC S vo (.slice qL S.L.length cL)) 55, bk g8 (mcells x.msg x.vo x.vs) 37, bk g5 (actC x) 50, bk g4 (rfC S vo (.slice qL S.L.length cL)) 55] ++ (X ++ K))) H22 rfl (wn rfl) (R_st H22 rfl rfl rfl (st_rf (S := S) (S2 := rfZ) (vo2 := .slice none 0 0) (vL2 := .slice none 0 0) (hL.mem (by simp)) hv1 rfl)) (OneK.upd (hL.perm (.swap _ _ _)) fun R h => h.row _) fun _ w23 H23 hL => ?_
 refine h_o H23 rfl (R_as H23 rfl rfl) (P2 7 6 rfl rfl) fun _ H24 => ?_
 refine h_end ?_
 repeat (go_not_at_region 999; go_step)
 exact bodyPost_ret (v := .tuple #[.agg (rfC S vo (.slice qL S.L.length cL)), .bool true]) (rf_results2 rfl (H24.getD rfl) (H24.getD rfl) (hL.mem List.mem_cons_self)) H24.1 ⟨S, _, _, X, rfl, hI.mono, hp, hvo, hL.dropl⟩
end
end Go.Proofs.YthkeiclhllikjaaGreat
