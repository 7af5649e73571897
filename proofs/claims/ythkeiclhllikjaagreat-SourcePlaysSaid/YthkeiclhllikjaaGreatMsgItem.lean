/-
  msg.item, by whichever walker.
-/
import Derived.Test.YthkeiclhllikjaaGreatMsgWk
set_option linter.unusedSimpArgs false
set_option linter.unusedVariables false
namespace Go.Proofs.YthkeiclhllikjaaGreat
open Go.RowKit
def itemS (K : WSem) : List (Stp K) := [s_isrc K, s_iseq K, s_ilow K, s_ikind K, s_ikey K, s_ipart K, s_iat K, s_iN K]
section
variable {K : Wkr} {w0 W : World} {L B : List Blk} {p k : Nat} {t : TypeId} {vo vs : Value} {st : K.σ} {m : PMsg}
set_option maxHeartbeats 4000000 in
set_option maxRecDepth 100000 in
theorem item_any (hf : m.Fits) (hr : K.rep (k + 8) st B) (h : Live w0 (B ++ (p, mcells m vo vs, t) :: L) W) :
  Calls Tryz.prog 109 #[.iface K.T (.pointer (some ⟨K.r, 0, none⟩)), .pointer (some ⟨p, 9, none⟩)] W fun e W' => Aft K w0 L p t vo vs k (runS K (itemS K) (st, m)) e W' := by
 have hmf : ∀ (fn : Fn) (first cap : Array Value) (w : World), (Instr.makeFunc fn first cap).run Tryz.prog w = .ok (.func fn first cap) w := fun _ _ _ _ => rfl
 have hm1 := K.m_num
 have hn1 := K.n_num
 have he1 := K.e_num
 have hm2 := K.m_byte
 have hn2 := K.n_byte
 have he2 := K.e_byte
 have hm3 := K.m_text
 have hn3 := K.n_text
 have he3 := K.e_text
 have hm4 := K.m_i64
 have hn4 := K.n_i64
 have he4 := K.e_i64
 obtain ⟨rS, hrS⟩ : ∃ r, r = runS K [s_isrc K, s_iseq K, s_ilow K, s_ikind K, s_ikey K, s_ipart K, s_iat K, s_iN K] (st, m) := ⟨_, rfl⟩
 rw [show runS K (itemS K) (st, m) = rS from hrS.symm]
 have Hs := Lib.hid hrS
 clear hrS
 go_enter Tryz.func109, Tryz.ntmps109
 go_wp2_with fail
 go_still_tail 7, (by kernel_rfl)
 change wpList _ _ _ _ _ (World.drew W)
 have g1 := h.drew
 generalize World.drew W = X1 at *
 go_wp2_with fail
 refine (a_isrc (s := (st, m)) (k := k + 7) hr g1).mono ?_
 rintro e W1 (⟨⟨st1, m1⟩, hc, rfl, B1, hr1, h1⟩ | ⟨f, hc, rfl, hL⟩)
 rotate_left
 ·exact ⟨rfl, .inr ⟨f, Hs.out.trans (runS_bad hc), rfl, hL⟩⟩
 have Hs1 := Lib.hid ((Hs).out.trans (runS_ok hc))
 obtain ⟨v1, hv⟩ := k_isrc hc
 simp only at hv
 subst hv
 clear hc h g1 Hs
 go_wp2_with fail
 go_still_tail 7, (by kernel_rfl)
 change wpList _ _ _ _ _ (World.drew W1)
 have g2 := h1.drew
 generalize World.drew W1 = X2 at *
 go_wp2_with fail
 refine (a_iseq (s := (st1, _)) (k := k + 6) hr1 g2).mono ?_
 rintro e W2 (⟨⟨st2, m2⟩, hc, rfl, B2, hr2, h2⟩ | ⟨f, hc, rfl, hL⟩)
 rotate_left
 ·exact ⟨rfl, .inr ⟨f, Hs1.out.trans (runS_bad hc), rfl, hL⟩⟩
 have Hs2 := Lib.hid ((Hs1).out.trans (runS_ok hc))
 obtain ⟨v2, hv⟩ := k_iseq hc
 simp only at hv
 subst hv
 clear hc h1 g2 Hs1
 go_wp2_with fail
 go_still_tail 7, (by kernel_rfl)
 change wpList _ _ _ _ _ (World.drew W2)
 have g3 := h2.drew
 generalize World.drew W2 = X3 at *
 go_wp2_with fail
 refine (a_ilow (s := (st2, _)) (k := k + 5) hr2 g3).mono ?_
 rintro e W3 (⟨⟨st3, m3⟩, hc, rfl, B3, hr3, h3⟩ | ⟨f, hc, rfl, hL⟩)
 rotate_left
 ·exact ⟨rfl, .inr ⟨f, Hs2.out.trans (runS_bad hc), rfl, hL⟩⟩
 have Hs3 := Lib.hid ((Hs2).out.trans (runS_ok hc))
 obtain ⟨v3, hv⟩ := k_ilow hc
 simp only at hv
 subst hv
 clear hc h2 g3 Hs2
 go_wp2_with fail
 go_still_tail 7, (by kernel_rfl)
 change wpList _ _ _ _ _ (World.drew W3)
 have g4 := h3.drew
 generalize World.drew W3 = X4 at *
 go_wp2_with fail
 refine (a_ikind (s := (st3, _)) (k := k + 4) hr3 g4).mono ?_
 rintro e W4 (⟨⟨st4, m4⟩, hc, rfl, B4, hr4, h4⟩ | ⟨f, hc, rfl, hL⟩)
 rotate_left
 ·exact ⟨rfl, .inr ⟨f, Hs3.out.trans (runS_bad hc), rfl, hL⟩⟩
 have Hs4 := Lib.hid ((Hs3).out.trans (runS_ok hc))
 obtain ⟨v4, hv⟩ := k_ikind hc
 simp only at hv
 subst hv
 clear hc h3 g4 Hs3
 go_wp2_with fail
 go_still_tail 7, (by kernel_rfl)
 change wpList _ _ _ _ _ (World.drew W4)
 have g5 := h4.drew
 generalize World.drew W4 = X5 at *
 go_wp2_with fail
 refine (a_ikey (s := (st4, _)) (k := k + 3) hr4 g5 hf.key).mono ?_
 rintro e W5 (⟨⟨st5, m5⟩, hc, rfl, B5, hr5, h5⟩ | ⟨f, hc, rfl, hL⟩)
 rotate_left
 ·exact ⟨rfl, .inr ⟨f, Hs4.out.trans (runS_bad hc), rfl, hL⟩⟩
 have Hs5 := Lib.hid ((Hs4).out.trans (runS_ok hc))
 obtain ⟨v5, hv⟩ := k_ikey hc
 simp only at hv
 subst hv
 clear hc h4 g5 Hs4
 go_wp2_with fail
 go_still_tail 7, (by kernel_rfl)
 change wpList _ _ _ _ _ (World.drew W5)
 have g6 := h5.drew
 generalize World.drew W5 = X6 at *
 go_wp2_with fail
 refine (a_ipart (s := (st5, _)) (k := k + 2) hr5 g6).mono ?_
 rintro e W6 (⟨⟨st6, m6⟩, hc, rfl, B6, hr6, h6⟩ | ⟨f, hc, rfl, hL⟩)
 rotate_left
 ·exact ⟨rfl, .inr ⟨f, Hs5.out.trans (runS_bad hc), rfl, hL⟩⟩
 have Hs6 := Lib.hid ((Hs5).out.trans (runS_ok hc))
 obtain ⟨v6, hv⟩ := k_ipart hc
 simp only at hv
 subst hv
 clear hc h5 g6 Hs5
 go_wp2_with fail
 go_still_tail 7, (by kernel_rfl)
 change wpList _ _ _ _ _ (World.drew W6)
 have g7 := h6.drew
 generalize World.drew W6 = X7 at *
 go_wp2_with fail
 refine (a_iat (s := (st6, _)) (k := k + 1) hr6 g7 hf.iat0 hf.iat1).mono ?_
 rintro e W7 (⟨⟨st7, m7⟩, hc, rfl, B7, hr7, h7⟩ | ⟨f, hc, rfl, hL⟩)
 rotate_left
 ·exact ⟨rfl, .inr ⟨f, Hs6.out.trans (runS_bad hc), rfl, hL⟩⟩
 have Hs7 := Lib.hid ((Hs6).out.trans (runS_ok hc))
 obtain ⟨v7, hv⟩ := k_iat hc
 simp only at hv
 subst hv
 clear hc h6 g7 Hs6
 go_wp2_with fail
 go_still_tail 7, (by kernel_rfl)
 change wpList _ _ _ _ _ (World.drew W7)
 have g8 := h7.drew
 generalize World.drew W7 = X8 at *
 go_wp2_with fail
 refine (a_iN (s := (st7, _)) (k := k + 0) hr7 g8 hf.iN0 hf.iN1).mono ?_
 rintro e W8 (⟨⟨st8, m8⟩, hc, rfl, B8, hr8, h8⟩ | ⟨f, hc, rfl, hL⟩)
 rotate_left
 ·exact ⟨rfl, .inr ⟨f, Hs7.out.trans (runS_bad hc), rfl, hL⟩⟩
 have Hs8 := Lib.hid ((Hs7).out.trans (runS_ok hc))
 obtain ⟨v8, hv⟩ := k_iN hc
 simp only at hv
 subst hv
 clear hc h7 g8 Hs7
 go_wp2
 go_end0
 exact .inl ⟨_, Hs8.out, rfl, B8, hr8, h8⟩
end
end Go.Proofs.YthkeiclhllikjaaGreat
