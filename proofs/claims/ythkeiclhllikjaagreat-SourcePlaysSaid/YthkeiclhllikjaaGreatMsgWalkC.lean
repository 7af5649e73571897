/-
  msg.walk at the kinds 5, 6.
-/
import Derived.Test.YthkeiclhllikjaaGreatMsgQe
set_option linter.unusedSimpArgs false
set_option linter.unusedVariables false
namespace Go.Proofs.YthkeiclhllikjaaGreat
open Go.RowKit
section
variable {K : Wkr} {w0 W : World} {L B : List Blk} {p k : Nat} {t : TypeId} {vo vs : Value} {s : K.σ × PMsg} {st st1 : K.σ} {m : PMsg}
set_option maxHeartbeats 16000000 in
set_option maxRecDepth 100000 in
theorem walk_5 (hf : m.Fits) (hvo : Rd w0 vo m.owner) (hvs : Rd w0 vs m.set) (hlo : m.owner.length ≤ 1000000000000) (hls : m.set.length ≤ 1000000000000)
  (hr : K.rep (k + 1100) st B) (h : Live w0 (B ++ (p, mcells m vo vs, t) :: L) W)
  (hk : s_kind K (st, m) = .ok (st1, { m with kind := 5 })) : Calls Tryz.prog 81 #[.iface K.T (.pointer (some ⟨K.r, 0, none⟩)), .pointer (some ⟨p, 0, none⟩)] W fun e W' => AftW K w0 L p t k (runS K (s_move K :: s_part K :: s_n K :: s_count K :: s_data K :: []) (st1, { m with kind := 5 })) e W' := by
 have hmf : ∀ (fn : Fn) (first cap : Array Value) (w : World), (Instr.makeFunc fn first cap).run Tryz.prog w = .ok (.func fn first cap) w := fun _ _ _ _ => rfl
 have hm0 := K.m_num
 have hn0 := K.n_num
 have he0 := K.e_num
 have hm1 := K.m_byte
 have hn1 := K.n_byte
 have he1 := K.e_byte
 have hm2 := K.m_i64
 have hn2 := K.n_i64
 have he2 := K.e_i64
 have hm3 := K.m_u64
 have hn3 := K.n_u64
 have he3 := K.e_u64
 have hm4 := K.m_text
 have hn4 := K.n_text
 have he4 := K.e_text
 obtain ⟨rS, hrS⟩ : ∃ r, r = runS K (s_move K :: s_part K :: s_n K :: s_count K :: s_data K :: []) (st1, { m with kind := 5 }) := ⟨_, rfl⟩
 rw [← hrS]
 have Hs0 := Lib.hid hrS
 have Hk := Lib.hid hk
 have Hvo := Lib.hid hvo
 have Hvs := Lib.hid hvs
 have Hlo := Lib.hid hlo
 have Hls := Lib.hid hls
 clear hvo hvs hlo hls
 clear hrS hk
 go_enter Tryz.func81, Tryz.ntmps81
 go_wp2_with fail
 go_still_tail 7, (by kernel_rfl)
 change wpList _ _ _ _ _ (World.drew W)
 have g0 := h.drew
 generalize World.drew W = X0 at *
 go_wp2_with fail
 refine (a_kind (s := (st, m)) (k := k + 1099) hr g0).mono ?_
 rintro e W0 (⟨s0, hc, rfl, B0, hr0, h0⟩ | ⟨f, hc, _, _⟩)
 rotate_left
 ·rw [Hk.out] at hc; cases hc
 rw [Hk.out] at hc
 cases hc
 have c0 : W0.cell? ⟨p, 0, none⟩ = some (.int .u8 5) := h0.mid.cell 0
 clear h g0 hr Hk
 go_wp2_with fail
 go_still_tail 7, (by kernel_rfl)
 change wpList _ _ _ _ _ (World.drew W0)
 have g1 := h0.drew
 generalize World.drew W0 = X1 at *
 go_wp2_with fail
 refine (a_move (s := (st1, { m with kind := 5 })) (k := k + 1098) hr0 g1).mono ?_
 rintro e W1 (⟨⟨st2, m1⟩, hc, rfl, B1, hr1, h1⟩ | ⟨f, hc, rfl, hL⟩)
 rotate_left
 ·exact ⟨rfl, .inr ⟨f, Hs0.out.trans (runS_bad hc), rfl, hL⟩⟩
 have Hs1 := Lib.hid (Hs0.out.trans (runS_ok hc))
 obtain ⟨v1, hv⟩ := k_move hc
 simp only at hv
 subst hv
 have c1 : W1.cell? ⟨p, 0, none⟩ = some (.int .u8 5) := h1.mid.cell 0
 clear hc h0 g1 Hs0 c0
 go_wp2_with fail
 go_still_tail 7, (by kernel_rfl)
 change wpList _ _ _ _ _ (World.drew W1)
 have g2 := h1.drew
 generalize World.drew W1 = X2 at *
 go_wp2_with fail
 refine (a_part (s := (st2, { m with kind := 5, move := v1 })) (k := k + 1097) hr1 g2).mono ?_
 rintro e W2 (⟨⟨st3, m2⟩, hc, rfl, B2, hr2, h2⟩ | ⟨f, hc, rfl, hL⟩)
 rotate_left
 ·exact ⟨rfl, .inr ⟨f, Hs1.out.trans (runS_bad hc), rfl, hL⟩⟩
 have Hs2 := Lib.hid (Hs1.out.trans (runS_ok hc))
 obtain ⟨v2, hv⟩ := k_part hc
 simp only at hv
 subst hv
 have c2 : W2.cell? ⟨p, 0, none⟩ = some (.int .u8 5) := h2.mid.cell 0
 clear hc h1 g2 Hs1 c1
 go_wp2_with fail
 go_still_tail 7, (by kernel_rfl)
 change wpList _ _ _ _ _ (World.drew W2)
 have g3 := h2.drew
 generalize World.drew W2 = X3 at *
 go_wp2_with fail
 refine (a_n (s := (st3, { m with kind := 5, move := v1, part := v2 })) (k := k + 1096) hr2 g3).mono ?_
 rintro e W3 (⟨⟨st4, m3⟩, hc, rfl, B3, hr3, h3⟩ | ⟨f, hc, rfl, hL⟩)
 rotate_left
 ·exact ⟨rfl, .inr ⟨f, Hs2.out.trans (runS_bad hc), rfl, hL⟩⟩
 have Hs3 := Lib.hid (Hs2.out.trans (runS_ok hc))
 obtain ⟨v3, hv⟩ := k_n hc
 simp only at hv
 subst hv
 have c3 : W3.cell? ⟨p, 0, none⟩ = some (.int .u8 5) := h3.mid.cell 0
 clear hc h2 g3 Hs2 c2
 go_wp2_with fail
 go_still_tail 7, (by kernel_rfl)
 change wpList _ _ _ _ _ (World.drew W3)
 have g4 := h3.drew
 generalize World.drew W3 = X4 at *
 go_wp2_with fail
 refine (a_count (s := (st4, { m with kind := 5, move := v1, part := v2, n := v3 })) (k := k + 1095) hr3 g4).mono ?_
 rintro e W4 (⟨⟨st5, m4⟩, hc, rfl, B4, hr4, h4⟩ | ⟨f, hc, rfl, hL⟩)
 rotate_left
 ·exact ⟨rfl, .inr ⟨f, Hs3.out.trans (runS_bad hc), rfl, hL⟩⟩
 have Hs4 := Lib.hid (Hs3.out.trans (runS_ok hc))
 obtain ⟨v4, hv⟩ := k_count hc
 simp only at hv
 subst hv
 have c4 : W4.cell? ⟨p, 0, none⟩ = some (.int .u8 5) := h4.mid.cell 0
 clear hc h3 g4 Hs3 c3
 go_wp2_with fail
 go_still_tail 7, (by kernel_rfl)
 change wpList _ _ _ _ _ (World.drew W4)
 have g5 := h4.drew
 generalize World.drew W4 = X5 at *
 go_wp2_with fail
 refine (a_data (s := (st5, { m with kind := 5, move := v1, part := v2, n := v3, count := v4 })) (k := k + 1094) hr4 g5 hf.data).mono ?_
 rintro e W5 (⟨⟨st6, m5⟩, hc, rfl, B5, hr5, h5⟩ | ⟨f, hc, rfl, hL⟩)
 rotate_left
 ·exact ⟨rfl, .inr ⟨f, Hs4.out.trans (runS_bad hc), rfl, hL⟩⟩
 have Hs5 := Lib.hid (Hs4.out.trans (runS_ok hc))
 obtain ⟨v5, hv⟩ := k_data hc
 simp only at hv
 subst hv
 have c5 : W5.cell? ⟨p, 0, none⟩ = some (.int .u8 5) := h5.mid.cell 0
 clear hc h4 g5 Hs4 c4
 go_wp2
 go_end0
 exact .plain Hs5.out rfl Hvo.out Hvs.out (K.rep_le (by omega) hr5) h5
set_option maxHeartbeats 16000000 in
set_option maxRecDepth 100000 in
theorem walk_6 (hf : m.Fits) (hvo : Rd w0 vo m.owner) (hvs : Rd w0 vs m.set) (hlo : m.owner.length ≤ 1000000000000) (hls : m.set.length ≤ 1000000000000)
  (hr : K.rep (k + 1100) st B) (h : Live w0 (B ++ (p, mcells m vo vs, t) :: L) W)
  (hk : s_kind K (st, m) = .ok (st1, { m with kind := 6 })) : Calls Tryz.prog 81 #[.iface K.T (.pointer (some ⟨K.r, 0, none⟩)), .pointer (some ⟨p, 0, none⟩)] W fun e W' => AftW K w0 L p t k (runS K (s_move K :: s_part K :: s_n K :: s_set K :: []) (st1, { m with kind := 6 })) e W' := by
 have hmf : ∀ (fn : Fn) (first cap : Array Value) (w : World), (Instr.makeFunc fn first cap).run Tryz.prog w = .ok (.func fn first cap) w := fun _ _ _ _ => rfl
 have hm0 := K.m_num
 have hn0 := K.n_num
 have he0 := K.e_num
 have hm1 := K.m_byte
 have hn1 := K.n_byte
 have he1 := K.e_byte
 have hm2 := K.m_i64
 have hn2 := K.n_i64
 have he2 := K.e_i64
 have hm3 := K.m_u64
 have hn3 := K.n_u64
 have he3 := K.e_u64
 have hm4 := K.m_text
 have hn4 := K.n_text
 have he4 := K.e_text
 obtain ⟨rS, hrS⟩ : ∃ r, r = runS K (s_move K :: s_part K :: s_n K :: s_set K :: []) (st1, { m with kind := 6 }) := ⟨_, rfl⟩
 rw [← hrS]
 have Hs0 := Lib.hid hrS
 have Hk := Lib.hid hk
 have Hvo := Lib.hid hvo
 have Hvs := Lib.hid hvs
 have Hlo := Lib.hid hlo
 have Hls := Lib.hid hls
 clear hvo hvs hlo hls
 clear hrS hk
 go_enter Tryz.func81, Tryz.ntmps81
 go_wp2_with fail
 go_still_tail 7, (by kernel_rfl)
 change wpList _ _ _ _ _ (World.drew W)
 have g0 := h.drew
 generalize World.drew W = X0 at *
 go_wp2_with fail
 refine (a_kind (s := (st, m)) (k := k + 1099) hr g0).mono ?_
 rintro e W0 (⟨s0, hc, rfl, B0, hr0, h0⟩ | ⟨f, hc, _, _⟩)
 rotate_left
 ·rw [Hk.out] at hc; cases hc
 rw [Hk.out] at hc
 cases hc
 have c0 : W0.cell? ⟨p, 0, none⟩ = some (.int .u8 6) := h0.mid.cell 0
 clear h g0 hr Hk
 go_wp2_with fail
 go_still_tail 7, (by kernel_rfl)
 change wpList _ _ _ _ _ (World.drew W0)
 have g1 := h0.drew
 generalize World.drew W0 = X1 at *
 go_wp2_with fail
 refine (a_move (s := (st1, { m with kind := 6 })) (k := k + 1098) hr0 g1).mono ?_
 rintro e W1 (⟨⟨st2, m1⟩, hc, rfl, B1, hr1, h1⟩ | ⟨f, hc, rfl, hL⟩)
 rotate_left
 ·exact ⟨rfl, .inr ⟨f, Hs0.out.trans (runS_bad hc), rfl, hL⟩⟩
 have Hs1 := Lib.hid (Hs0.out.trans (runS_ok hc))
 obtain ⟨v1, hv⟩ := k_move hc
 simp only at hv
 subst hv
 have c1 : W1.cell? ⟨p, 0, none⟩ = some (.int .u8 6) := h1.mid.cell 0
 clear hc h0 g1 Hs0 c0
 go_wp2_with fail
 go_still_tail 7, (by kernel_rfl)
 change wpList _ _ _ _ _ (World.drew W1)
 have g2 := h1.drew
 generalize World.drew W1 = X2 at *
 go_wp2_with fail
 refine (a_part (s := (st2, { m with kind := 6, move := v1 })) (k := k + 1097) hr1 g2).mono ?_
 rintro e W2 (⟨⟨st3, m2⟩, hc, rfl, B2, hr2, h2⟩ | ⟨f, hc, rfl, hL⟩)
 rotate_left
 ·exact ⟨rfl, .inr ⟨f, Hs1.out.trans (runS_bad hc), rfl, hL⟩⟩
 have Hs2 := Lib.hid (Hs1.out.trans (runS_ok hc))
 obtain ⟨v2, hv⟩ := k_part hc
 simp only at hv
 subst hv
 have c2 : W2.cell? ⟨p, 0, none⟩ = some (.int .u8 6) := h2.mid.cell 0
 clear hc h1 g2 Hs1 c1
 go_wp2_with fail
 go_still_tail 7, (by kernel_rfl)
 change wpList _ _ _ _ _ (World.drew W2)
 have g3 := h2.drew
 generalize World.drew W2 = X3 at *
 go_wp2_with fail
 refine (a_n (s := (st3, { m with kind := 6, move := v1, part := v2 })) (k := k + 1096) hr2 g3).mono ?_
 rintro e W3 (⟨⟨st4, m3⟩, hc, rfl, B3, hr3, h3⟩ | ⟨f, hc, rfl, hL⟩)
 rotate_left
 ·exact ⟨rfl, .inr ⟨f, Hs2.out.trans (runS_bad hc), rfl, hL⟩⟩
 have Hs3 := Lib.hid (Hs2.out.trans (runS_ok hc))
 obtain ⟨v3, hv⟩ := k_n hc
 simp only at hv
 subst hv
 have c3 : W3.cell? ⟨p, 0, none⟩ = some (.int .u8 6) := h3.mid.cell 0
 clear hc h2 g3 Hs2 c2
 go_wp2_with fail
 refine (a_set (k := k) (s := (st4, { m with kind := 6, move := v1, part := v2, n := v3 })) Hvs.out Hls.out (K.rep_le (by omega) hr3) h3).mono ?_
 rintro e W4 (⟨s4, hc, rfl, vs4, R, B4, hrow, hr4, h4⟩ | ⟨f, hc, rfl, hL⟩)
 rotate_left
 ·exact ⟨rfl, .inr ⟨f, Hs3.out.trans (runS_bad hc), rfl, hL⟩⟩
 have Hc := Lib.hid hc
 clear hc h3
 go_wp2
 go_end0
 have ke := set_keeps Hc.out
 exact .set ((Hs3.out.trans (runS_ok Hc.out))) rfl (by rw [ke]; exact Hvo.out) hrow hr4 h4
end
end Go.Proofs.YthkeiclhllikjaaGreat
/-
 msg.walk at the kinds 7, 9.
-/
namespace Go.Proofs.YthkeiclhllikjaaGreat
open Go.RowKit
section
variable {K : Wkr} {w0 W : World} {L B : List Blk} {p k : Nat} {t : TypeId} {vo vs : Value} {s : K.σ × PMsg} {st st1 : K.σ} {m : PMsg}
set_option maxHeartbeats 16000000 in
set_option maxRecDepth 100000 in
theorem walk_7 (hf : m.Fits) (hvo : Rd w0 vo m.owner) (hvs : Rd w0 vs m.set) (hlo : m.owner.length ≤ 1000000000000) (hls : m.set.length ≤ 1000000000000)
  (hr : K.rep (k + 1100) st B) (h : Live w0 (B ++ (p, mcells m vo vs, t) :: L) W)
  (hk : s_kind K (st, m) = .ok (st1, { m with kind := 7 })) : Calls Tryz.prog 81 #[.iface K.T (.pointer (some ⟨K.r, 0, none⟩)), .pointer (some ⟨p, 0, none⟩)] W fun e W' => AftW K w0 L p t k (runS K (s_move K :: s_part K :: s_n K :: itemS K) (st1, { m with kind := 7 })) e W' := by
 have hmf : ∀ (fn : Fn) (first cap : Array Value) (w : World), (Instr.makeFunc fn first cap).run Tryz.prog w = .ok (.func fn first cap) w := fun _ _ _ _ => rfl
 have hm0 := K.m_num
 have hn0 := K.n_num
 have he0 := K.e_num
 have hm1 := K.m_byte
 have hn1 := K.n_byte
 have he1 := K.e_byte
 have hm2 := K.m_i64
 have hn2 := K.n_i64
 have he2 := K.e_i64
 have hm3 := K.m_u64
 have hn3 := K.n_u64
 have he3 := K.e_u64
 have hm4 := K.m_text
 have hn4 := K.n_text
 have he4 := K.e_text
 obtain ⟨rS, hrS⟩ : ∃ r, r = runS K (s_move K :: s_part K :: s_n K :: itemS K) (st1, { m with kind := 7 }) := ⟨_, rfl⟩
 rw [← hrS]
 have Hs0 := Lib.hid hrS
 have Hk := Lib.hid hk
 have Hvo := Lib.hid hvo
 have Hvs := Lib.hid hvs
 have Hlo := Lib.hid hlo
 have Hls := Lib.hid hls
 clear hvo hvs hlo hls
 clear hrS hk
 go_enter Tryz.func81, Tryz.ntmps81
 go_wp2_with fail
 go_still_tail 7, (by kernel_rfl)
 change wpList _ _ _ _ _ (World.drew W)
 have g0 := h.drew
 generalize World.drew W = X0 at *
 go_wp2_with fail
 refine (a_kind (s := (st, m)) (k := k + 1099) hr g0).mono ?_
 rintro e W0 (⟨s0, hc, rfl, B0, hr0, h0⟩ | ⟨f, hc, _, _⟩)
 rotate_left
 ·rw [Hk.out] at hc; cases hc
 rw [Hk.out] at hc
 cases hc
 have c0 : W0.cell? ⟨p, 0, none⟩ = some (.int .u8 7) := h0.mid.cell 0
 clear h g0 hr Hk
 go_wp2_with fail
 go_still_tail 7, (by kernel_rfl)
 change wpList _ _ _ _ _ (World.drew W0)
 have g1 := h0.drew
 generalize World.drew W0 = X1 at *
 go_wp2_with fail
 refine (a_move (s := (st1, { m with kind := 7 })) (k := k + 1098) hr0 g1).mono ?_
 rintro e W1 (⟨⟨st2, m1⟩, hc, rfl, B1, hr1, h1⟩ | ⟨f, hc, rfl, hL⟩)
 rotate_left
 ·exact ⟨rfl, .inr ⟨f, Hs0.out.trans (runS_bad hc), rfl, hL⟩⟩
 have Hs1 := Lib.hid (Hs0.out.trans (runS_ok hc))
 obtain ⟨v1, hv⟩ := k_move hc
 simp only at hv
 subst hv
 have c1 : W1.cell? ⟨p, 0, none⟩ = some (.int .u8 7) := h1.mid.cell 0
 clear hc h0 g1 Hs0 c0
 go_wp2_with fail
 go_still_tail 7, (by kernel_rfl)
 change wpList _ _ _ _ _ (World.drew W1)
 have g2 := h1.drew
 generalize World.drew W1 = X2 at *
 go_wp2_with fail
 refine (a_part (s := (st2, { m with kind := 7, move := v1 })) (k := k + 1097) hr1 g2).mono ?_
 rintro e W2 (⟨⟨st3, m2⟩, hc, rfl, B2, hr2, h2⟩ | ⟨f, hc, rfl, hL⟩)
 rotate_left
 ·exact ⟨rfl, .inr ⟨f, Hs1.out.trans (runS_bad hc), rfl, hL⟩⟩
 have Hs2 := Lib.hid (Hs1.out.trans (runS_ok hc))
 obtain ⟨v2, hv⟩ := k_part hc
 simp only at hv
 subst hv
 have c2 : W2.cell? ⟨p, 0, none⟩ = some (.int .u8 7) := h2.mid.cell 0
 clear hc h1 g2 Hs1 c1
 go_wp2_with fail
 go_still_tail 7, (by kernel_rfl)
 change wpList _ _ _ _ _ (World.drew W2)
 have g3 := h2.drew
 generalize World.drew W2 = X3 at *
 go_wp2_with fail
 refine (a_n (s := (st3, { m with kind := 7, move := v1, part := v2 })) (k := k + 1096) hr2 g3).mono ?_
 rintro e W3 (⟨⟨st4, m3⟩, hc, rfl, B3, hr3, h3⟩ | ⟨f, hc, rfl, hL⟩)
 rotate_left
 ·exact ⟨rfl, .inr ⟨f, Hs2.out.trans (runS_bad hc), rfl, hL⟩⟩
 have Hs3 := Lib.hid (Hs2.out.trans (runS_ok hc))
 obtain ⟨v3, hv⟩ := k_n hc
 simp only at hv
 subst hv
 have c3 : W3.cell? ⟨p, 0, none⟩ = some (.int .u8 7) := h3.mid.cell 0
 clear hc h2 g3 Hs2 c2
 go_wp2_with fail
 refine (item_any (k := k + 1088) (m := { m with kind := 7, move := v1, part := v2, n := v3 }) ⟨hf.digest, hf.at0, hf.at1, hf.iat0, hf.iat1, hf.iN0, hf.iN1, hf.key, hf.data⟩ (K.rep_le (by omega) hr3) h3).mono ?_
 rintro e W4 (⟨s4, hc, rfl, B4, hr4, h4⟩ | ⟨f, hc, rfl, hL⟩)
 rotate_left
 ·exact ⟨rfl, .inr ⟨f, Hs3.out.trans hc, rfl, hL⟩⟩
 have Hc := Lib.hid hc
 clear hc h3
 go_wp2
 go_end0
 have ke := item_keeps Hc.out
 exact .plain (Hs3.out.trans Hc.out) rfl (by rw [ke.1]; exact Hvo.out) (by rw [ke.2]; exact Hvs.out) (K.rep_le (by omega) hr4) h4
set_option maxHeartbeats 16000000 in
set_option maxRecDepth 100000 in
theorem walk_9 (hf : m.Fits) (hvo : Rd w0 vo m.owner) (hvs : Rd w0 vs m.set) (hlo : m.owner.length ≤ 1000000000000) (hls : m.set.length ≤ 1000000000000)
  (hr : K.rep (k + 1100) st B) (h : Live w0 (B ++ (p, mcells m vo vs, t) :: L) W)
  (hk : s_kind K (st, m) = .ok (st1, { m with kind := 9 })) : Calls Tryz.prog 81 #[.iface K.T (.pointer (some ⟨K.r, 0, none⟩)), .pointer (some ⟨p, 0, none⟩)] W fun e W' => AftW K w0 L p t k (runS K (s_move K :: s_part K :: s_n K :: s_at_ K :: s_digest K :: []) (st1, { m with kind := 9 })) e W' := by
 have hmf : ∀ (fn : Fn) (first cap : Array Value) (w : World), (Instr.makeFunc fn first cap).run Tryz.prog w = .ok (.func fn first cap) w := fun _ _ _ _ => rfl
 have hm0 := K.m_num
 have hn0 := K.n_num
 have he0 := K.e_num
 have hm1 := K.m_byte
 have hn1 := K.n_byte
 have he1 := K.e_byte
 have hm2 := K.m_i64
 have hn2 := K.n_i64
 have he2 := K.e_i64
 have hm3 := K.m_u64
 have hn3 := K.n_u64
 have he3 := K.e_u64
 have hm4 := K.m_text
 have hn4 := K.n_text
 have he4 := K.e_text
 obtain ⟨rS, hrS⟩ : ∃ r, r = runS K (s_move K :: s_part K :: s_n K :: s_at_ K :: s_digest K :: []) (st1, { m with kind := 9 }) := ⟨_, rfl⟩
 rw [← hrS]
 have Hs0 := Lib.hid hrS
 have Hk := Lib.hid hk
 have Hvo := Lib.hid hvo
 have Hvs := Lib.hid hvs
 have Hlo := Lib.hid hlo
 have Hls := Lib.hid hls
 clear hvo hvs hlo hls
 clear hrS hk
 go_enter Tryz.func81, Tryz.ntmps81
 go_wp2_with fail
 go_still_tail 7, (by kernel_rfl)
 change wpList _ _ _ _ _ (World.drew W)
 have g0 := h.drew
 generalize World.drew W = X0 at *
 go_wp2_with fail
 refine (a_kind (s := (st, m)) (k := k + 1099) hr g0).mono ?_
 rintro e W0 (⟨s0, hc, rfl, B0, hr0, h0⟩ | ⟨f, hc, _, _⟩)
 rotate_left
 ·rw [Hk.out] at hc; cases hc
 rw [Hk.out] at hc
 cases hc
 have c0 : W0.cell? ⟨p, 0, none⟩ = some (.int .u8 9) := h0.mid.cell 0
 clear h g0 hr Hk
 go_wp2_with fail
 go_still_tail 7, (by kernel_rfl)
 change wpList _ _ _ _ _ (World.drew W0)
 have g1 := h0.drew
 generalize World.drew W0 = X1 at *
 go_wp2_with fail
 refine (a_move (s := (st1, { m with kind := 9 })) (k := k + 1098) hr0 g1).mono ?_
 rintro e W1 (⟨⟨st2, m1⟩, hc, rfl, B1, hr1, h1⟩ | ⟨f, hc, rfl, hL⟩)
 rotate_left
 ·exact ⟨rfl, .inr ⟨f, Hs0.out.trans (runS_bad hc), rfl, hL⟩⟩
 have Hs1 := Lib.hid (Hs0.out.trans (runS_ok hc))
 obtain ⟨v1, hv⟩ := k_move hc
 simp only at hv
 subst hv
 have c1 : W1.cell? ⟨p, 0, none⟩ = some (.int .u8 9) := h1.mid.cell 0
 clear hc h0 g1 Hs0 c0
 go_wp2_with fail
 go_still_tail 7, (by kernel_rfl)
 change wpList _ _ _ _ _ (World.drew W1)
 have g2 := h1.drew
 generalize World.drew W1 = X2 at *
 go_wp2_with fail
 refine (a_part (s := (st2, { m with kind := 9, move := v1 })) (k := k + 1097) hr1 g2).mono ?_
 rintro e W2 (⟨⟨st3, m2⟩, hc, rfl, B2, hr2, h2⟩ | ⟨f, hc, rfl, hL⟩)
 rotate_left
 ·exact ⟨rfl, .inr ⟨f, Hs1.out.trans (runS_bad hc), rfl, hL⟩⟩
 have Hs2 := Lib.hid (Hs1.out.trans (runS_ok hc))
 obtain ⟨v2, hv⟩ := k_part hc
 simp only at hv
 subst hv
 have c2 : W2.cell? ⟨p, 0, none⟩ = some (.int .u8 9) := h2.mid.cell 0
 clear hc h1 g2 Hs1 c1
 go_wp2_with fail
 go_still_tail 7, (by kernel_rfl)
 change wpList _ _ _ _ _ (World.drew W2)
 have g3 := h2.drew
 generalize World.drew W2 = X3 at *
 go_wp2_with fail
 refine (a_n (s := (st3, { m with kind := 9, move := v1, part := v2 })) (k := k + 1096) hr2 g3).mono ?_
 rintro e W3 (⟨⟨st4, m3⟩, hc, rfl, B3, hr3, h3⟩ | ⟨f, hc, rfl, hL⟩)
 rotate_left
 ·exact ⟨rfl, .inr ⟨f, Hs2.out.trans (runS_bad hc), rfl, hL⟩⟩
 have Hs3 := Lib.hid (Hs2.out.trans (runS_ok hc))
 obtain ⟨v3, hv⟩ := k_n hc
 simp only at hv
 subst hv
 have c3 : W3.cell? ⟨p, 0, none⟩ = some (.int .u8 9) := h3.mid.cell 0
 clear hc h2 g3 Hs2 c2
 go_wp2_with fail
 go_still_tail 7, (by kernel_rfl)
 change wpList _ _ _ _ _ (World.drew W3)
 have g4 := h3.drew
 generalize World.drew W3 = X4 at *
 go_wp2_with fail
 refine (a_at_ (s := (st4, { m with kind := 9, move := v1, part := v2, n := v3 })) (k := k + 1095) hr3 g4 hf.at0 hf.at1).mono ?_
 rintro e W4 (⟨⟨st5, m4⟩, hc, rfl, B4, hr4, h4⟩ | ⟨f, hc, rfl, hL⟩)
 rotate_left
 ·exact ⟨rfl, .inr ⟨f, Hs3.out.trans (runS_bad hc), rfl, hL⟩⟩
 have Hs4 := Lib.hid (Hs3.out.trans (runS_ok hc))
 obtain ⟨v4, hv⟩ := k_at_ hc
 simp only at hv
 subst hv
 have c4 : W4.cell? ⟨p, 0, none⟩ = some (.int .u8 9) := h4.mid.cell 0
 clear hc h3 g4 Hs3 c3
 go_wp2_with fail
 go_still_tail 7, (by kernel_rfl)
 change wpList _ _ _ _ _ (World.drew W4)
 have g5 := h4.drew
 generalize World.drew W4 = X5 at *
 go_wp2_with fail
 refine (a_digest (s := (st5, { m with kind := 9, move := v1, part := v2, n := v3, at_ := v4 })) (k := k + 1094) hr4 g5 hf.digest).mono ?_
 rintro e W5 (⟨⟨st6, m5⟩, hc, rfl, B5, hr5, h5⟩ | ⟨f, hc, rfl, hL⟩)
 rotate_left
 ·exact ⟨rfl, .inr ⟨f, Hs4.out.trans (runS_bad hc), rfl, hL⟩⟩
 have Hs5 := Lib.hid (Hs4.out.trans (runS_ok hc))
 obtain ⟨v5, hv⟩ := k_digest hc
 simp only at hv
 subst hv
 have c5 : W5.cell? ⟨p, 0, none⟩ = some (.int .u8 9) := h5.mid.cell 0
 clear hc h4 g5 Hs4 c4
 go_wp2
 go_end0
 exact .plain Hs5.out rfl Hvo.out Hvs.out (K.rep_le (by omega) hr5) h5
end
end Go.Proofs.YthkeiclhllikjaaGreat
