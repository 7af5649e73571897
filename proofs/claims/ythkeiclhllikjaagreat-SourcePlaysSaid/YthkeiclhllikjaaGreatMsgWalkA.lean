/-
  msg.walk at the kinds 1, 2.
-/
import Derived.Test.YthkeiclhllikjaaGreatMsgQe
set_option linter.unusedSimpArgs false
set_option linter.unusedVariables false
namespace Go.Proofs.YthkeiclhllikjaaGreat
open Go.RowKit
section
variable {K : Wkr} {w0 W : World} {L B : List Blk} {p k : Nat} {t : TypeId} {vo vs : Value} {s : K.σ × PMsg} {st st1 : K.σ} {m : PMsg}
set_option maxHeartbeats 16000000 in
set_option maxRecDepth 100000 in
theorem walk_1 (hf : m.Fits) (hvo : Rd w0 vo m.owner) (hvs : Rd w0 vs m.set) (hlo : m.owner.length ≤ 1000000000000) (hls : m.set.length ≤ 1000000000000)
  (hr : K.rep (k + 1100) st B) (h : Live w0 (B ++ (p, mcells m vo vs, t) :: L) W)
  (hk : s_kind K (st, m) = .ok (st1, { m with kind := 1 })) : Calls Tryz.prog 81 #[.iface K.T (.pointer (some ⟨K.r, 0, none⟩)), .pointer (some ⟨p, 0, none⟩)] W fun e W' => AftW K w0 L p t k (runS K (itemS K) (st1, { m with kind := 1 })) e W' := by
 have hmf : ∀ (fn : Fn) (first cap : Array Value) (w : World), (Instr.makeFunc fn first cap).run Tryz.prog w = .ok (.func fn first cap) w := fun _ _ _ _ => rfl
 have hm0 := K.m_num
 have hn0 := K.n_num
 have he0 := K.e_num
 have hm1 := K.m_byte
 have hn1 := K.n_byte
 have he1 := K.e_byte
 have hm2 := K.m_i64
 have hn2 := K.n_i64
 have he2 := K.e_i64
 have hm3 := K.m_u64
 have hn3 := K.n_u64
 have he3 := K.e_u64
 have hm4 := K.m_text
 have hn4 := K.n_text
 have he4 := K.e_text
 obtain ⟨rS, hrS⟩ : ∃ r, r = runS K (itemS K) (st1, { m with kind := 1 }) := ⟨_, rfl⟩
 rw [← hrS]
 have Hs0 := Lib.hid hrS
 have Hk := Lib.hid hk
 have Hvo := Lib.hid hvo
 have Hvs := Lib.hid hvs
 have Hlo := Lib.hid hlo
 have Hls := Lib.hid hls
 clear hvo hvs hlo hls
 clear hrS hk
 go_enter Tryz.func81, Tryz.ntmps81
 go_wp2_with fail
 go_still_tail 7, (by kernel_rfl)
 change wpList _ _ _ _ _ (World.drew W)
 have g0 := h.drew
 generalize World.drew W = X0 at *
 go_wp2_with fail
 refine (a_kind (s := (st, m)) (k := k + 1099) hr g0).mono ?_
 rintro e W0 (⟨s0, hc, rfl, B0, hr0, h0⟩ | ⟨f, hc, _, _⟩)
 rotate_left
 ·rw [Hk.out] at hc; cases hc
 rw [Hk.out] at hc
 cases hc
 have c0 : W0.cell? ⟨p, 0, none⟩ = some (.int .u8 1) := h0.mid.cell 0
 clear h g0 hr Hk
 go_wp2_with fail
 refine (item_any (k := k + 1091) (m := { m with kind := 1 }) ⟨hf.digest, hf.at0, hf.at1, hf.iat0, hf.iat1, hf.iN0, hf.iN1, hf.key, hf.data⟩ (K.rep_le (by omega) hr0) h0).mono ?_
 rintro e W1 (⟨s1, hc, rfl, B1, hr1, h1⟩ | ⟨f, hc, rfl, hL⟩)
 rotate_left
 ·exact ⟨rfl, .inr ⟨f, Hs0.out.trans hc, rfl, hL⟩⟩
 have Hc := Lib.hid hc
 clear hc h0
 go_wp2
 go_end0
 have ke := item_keeps Hc.out
 exact .plain (Hs0.out.trans Hc.out) rfl (by rw [ke.1]; exact Hvo.out) (by rw [ke.2]; exact Hvs.out) (K.rep_le (by omega) hr1) h1
set_option maxHeartbeats 16000000 in
set_option maxRecDepth 100000 in
theorem walk_2 (hf : m.Fits) (hvo : Rd w0 vo m.owner) (hvs : Rd w0 vs m.set) (hlo : m.owner.length ≤ 1000000000000) (hls : m.set.length ≤ 1000000000000)
  (hr : K.rep (k + 1100) st B) (h : Live w0 (B ++ (p, mcells m vo vs, t) :: L) W)
  (hk : s_kind K (st, m) = .ok (st1, { m with kind := 2 })) : Calls Tryz.prog 81 #[.iface K.T (.pointer (some ⟨K.r, 0, none⟩)), .pointer (some ⟨p, 0, none⟩)] W fun e W' => AftW K w0 L p t k (runS K (s_isrc K :: s_iseq K :: s_code K :: []) (st1, { m with kind := 2 })) e W' := by
 have hmf : ∀ (fn : Fn) (first cap : Array Value) (w : World), (Instr.makeFunc fn first cap).run Tryz.prog w = .ok (.func fn first cap) w := fun _ _ _ _ => rfl
 have hm0 := K.m_num
 have hn0 := K.n_num
 have he0 := K.e_num
 have hm1 := K.m_byte
 have hn1 := K.n_byte
 have he1 := K.e_byte
 have hm2 := K.m_i64
 have hn2 := K.n_i64
 have he2 := K.e_i64
 have hm3 := K.m_u64
 have hn3 := K.n_u64
 have he3 := K.e_u64
 have hm4 := K.m_text
 have hn4 := K.n_text
 have he4 := K.e_text
 obtain ⟨rS, hrS⟩ : ∃ r, r = runS K (s_isrc K :: s_iseq K :: s_code K :: []) (st1, { m with kind := 2 }) := ⟨_, rfl⟩
 rw [← hrS]
 have Hs0 := Lib.hid hrS
 have Hk := Lib.hid hk
 have Hvo := Lib.hid hvo
 have Hvs := Lib.hid hvs
 have Hlo := Lib.hid hlo
 have Hls := Lib.hid hls
 clear hvo hvs hlo hls
 clear hrS hk
 go_enter Tryz.func81, Tryz.ntmps81
 go_wp2_with fail
 go_still_tail 7, (by kernel_rfl)
 change wpList _ _ _ _ _ (World.drew W)
 have g0 := h.drew
 generalize World.drew W = X0 at *
 go_wp2_with fail
 refine (a_kind (s := (st, m)) (k := k + 1099) hr g0).mono ?_
 rintro e W0 (⟨s0, hc, rfl, B0, hr0, h0⟩ | ⟨f, hc, _, _⟩)
 rotate_left
 ·rw [Hk.out] at hc; cases hc
 rw [Hk.out] at hc
 cases hc
 have c0 : W0.cell? ⟨p, 0, none⟩ = some (.int .u8 2) := h0.mid.cell 0
 clear h g0 hr Hk
 go_wp2_with fail
 go_still_tail 8, (by kernel_rfl)
 change wpList _ _ _ _ _ (World.drew W0)
 have g1 := h0.drew
 generalize World.drew W0 = X1 at *
 go_wp2_with fail
 refine (a_isrc (s := (st1, { m with kind := 2 })) (k := k + 1098) hr0 g1).mono ?_
 rintro e W1 (⟨⟨st2, m1⟩, hc, rfl, B1, hr1, h1⟩ | ⟨f, hc, rfl, hL⟩)
 rotate_left
 ·exact ⟨rfl, .inr ⟨f, Hs0.out.trans (runS_bad hc), rfl, hL⟩⟩
 have Hs1 := Lib.hid (Hs0.out.trans (runS_ok hc))
 obtain ⟨v1, hv⟩ := k_isrc hc
 simp only at hv
 subst hv
 have c1 : W1.cell? ⟨p, 0, none⟩ = some (.int .u8 2) := h1.mid.cell 0
 clear hc h0 g1 Hs0 c0
 go_wp2_with fail
 go_still_tail 8, (by kernel_rfl)
 change wpList _ _ _ _ _ (World.drew W1)
 have g2 := h1.drew
 generalize World.drew W1 = X2 at *
 go_wp2_with fail
 refine (a_iseq (s := (st2, { m with kind := 2, isrc := v1 })) (k := k + 1097) hr1 g2).mono ?_
 rintro e W2 (⟨⟨st3, m2⟩, hc, rfl, B2, hr2, h2⟩ | ⟨f, hc, rfl, hL⟩)
 rotate_left
 ·exact ⟨rfl, .inr ⟨f, Hs1.out.trans (runS_bad hc), rfl, hL⟩⟩
 have Hs2 := Lib.hid (Hs1.out.trans (runS_ok hc))
 obtain ⟨v2, hv⟩ := k_iseq hc
 simp only at hv
 subst hv
 have c2 : W2.cell? ⟨p, 0, none⟩ = some (.int .u8 2) := h2.mid.cell 0
 clear hc h1 g2 Hs1 c1
 go_wp2_with fail
 go_still_tail 7, (by kernel_rfl)
 change wpList _ _ _ _ _ (World.drew W2)
 have g3 := h2.drew
 generalize World.drew W2 = X3 at *
 go_wp2_with fail
 refine (a_code (s := (st3, { m with kind := 2, isrc := v1, iseq := v2 })) (k := k + 1096) hr2 g3).mono ?_
 rintro e W3 (⟨⟨st4, m3⟩, hc, rfl, B3, hr3, h3⟩ | ⟨f, hc, rfl, hL⟩)
 rotate_left
 ·exact ⟨rfl, .inr ⟨f, Hs2.out.trans (runS_bad hc), rfl, hL⟩⟩
 have Hs3 := Lib.hid (Hs2.out.trans (runS_ok hc))
 obtain ⟨v3, hv⟩ := k_code hc
 simp only at hv
 subst hv
 have c3 : W3.cell? ⟨p, 0, none⟩ = some (.int .u8 2) := h3.mid.cell 0
 clear hc h2 g3 Hs2 c2
 go_wp2
 go_end0
 exact .plain Hs3.out rfl Hvo.out Hvs.out (K.rep_le (by omega) hr3) h3
end
end Go.Proofs.YthkeiclhllikjaaGreat
/-
 msg.walk at the kinds 3, 4.
-/
namespace Go.Proofs.YthkeiclhllikjaaGreat
open Go.RowKit
section
variable {K : Wkr} {w0 W : World} {L B : List Blk} {p k : Nat} {t : TypeId} {vo vs : Value} {s : K.σ × PMsg} {st st1 : K.σ} {m : PMsg}
set_option maxHeartbeats 16000000 in
set_option maxRecDepth 100000 in
theorem walk_3 (hf : m.Fits) (hvo : Rd w0 vo m.owner) (hvs : Rd w0 vs m.set) (hlo : m.owner.length ≤ 1000000000000) (hls : m.set.length ≤ 1000000000000)
  (hr : K.rep (k + 1100) st B) (h : Live w0 (B ++ (p, mcells m vo vs, t) :: L) W)
  (hk : s_kind K (st, m) = .ok (st1, { m with kind := 3 })) : Calls Tryz.prog 81 #[.iface K.T (.pointer (some ⟨K.r, 0, none⟩)), .pointer (some ⟨p, 0, none⟩)] W fun e W' => AftW K w0 L p t k (runS K (s_isrc K :: s_iseq K :: tableS K) (st1, { m with kind := 3 })) e W' := by
 have hmf : ∀ (fn : Fn) (first cap : Array Value) (w : World), (Instr.makeFunc fn first cap).run Tryz.prog w = .ok (.func fn first cap) w := fun _ _ _ _ => rfl
 have hm0 := K.m_num
 have hn0 := K.n_num
 have he0 := K.e_num
 have hm1 := K.m_byte
 have hn1 := K.n_byte
 have he1 := K.e_byte
 have hm2 := K.m_i64
 have hn2 := K.n_i64
 have he2 := K.e_i64
 have hm3 := K.m_u64
 have hn3 := K.n_u64
 have he3 := K.e_u64
 have hm4 := K.m_text
 have hn4 := K.n_text
 have he4 := K.e_text
 obtain ⟨rS, hrS⟩ : ∃ r, r = runS K (s_isrc K :: s_iseq K :: tableS K) (st1, { m with kind := 3 }) := ⟨_, rfl⟩
 rw [← hrS]
 have Hs0 := Lib.hid hrS
 have Hk := Lib.hid hk
 have Hvo := Lib.hid hvo
 have Hvs := Lib.hid hvs
 have Hlo := Lib.hid hlo
 have Hls := Lib.hid hls
 clear hvo hvs hlo hls
 clear hrS hk
 go_enter Tryz.func81, Tryz.ntmps81
 go_wp2_with fail
 go_still_tail 7, (by kernel_rfl)
 change wpList _ _ _ _ _ (World.drew W)
 have g0 := h.drew
 generalize World.drew W = X0 at *
 go_wp2_with fail
 refine (a_kind (s := (st, m)) (k := k + 1099) hr g0).mono ?_
 rintro e W0 (⟨s0, hc, rfl, B0, hr0, h0⟩ | ⟨f, hc, _, _⟩)
 rotate_left
 ·rw [Hk.out] at hc; cases hc
 rw [Hk.out] at hc
 cases hc
 have c0 : W0.cell? ⟨p, 0, none⟩ = some (.int .u8 3) := h0.mid.cell 0
 clear h g0 hr Hk
 go_wp2_with fail
 go_still_tail 8, (by kernel_rfl)
 change wpList _ _ _ _ _ (World.drew W0)
 have g1 := h0.drew
 generalize World.drew W0 = X1 at *
 go_wp2_with fail
 refine (a_isrc (s := (st1, { m with kind := 3 })) (k := k + 1098) hr0 g1).mono ?_
 rintro e W1 (⟨⟨st2, m1⟩, hc, rfl, B1, hr1, h1⟩ | ⟨f, hc, rfl, hL⟩)
 rotate_left
 ·exact ⟨rfl, .inr ⟨f, Hs0.out.trans (runS_bad hc), rfl, hL⟩⟩
 have Hs1 := Lib.hid (Hs0.out.trans (runS_ok hc))
 obtain ⟨v1, hv⟩ := k_isrc hc
 simp only at hv
 subst hv
 have c1 : W1.cell? ⟨p, 0, none⟩ = some (.int .u8 3) := h1.mid.cell 0
 clear hc h0 g1 Hs0 c0
 go_wp2_with fail
 go_still_tail 8, (by kernel_rfl)
 change wpList _ _ _ _ _ (World.drew W1)
 have g2 := h1.drew
 generalize World.drew W1 = X2 at *
 go_wp2_with fail
 refine (a_iseq (s := (st2, { m with kind := 3, isrc := v1 })) (k := k + 1097) hr1 g2).mono ?_
 rintro e W2 (⟨⟨st3, m2⟩, hc, rfl, B2, hr2, h2⟩ | ⟨f, hc, rfl, hL⟩)
 rotate_left
 ·exact ⟨rfl, .inr ⟨f, Hs1.out.trans (runS_bad hc), rfl, hL⟩⟩
 have Hs2 := Lib.hid (Hs1.out.trans (runS_ok hc))
 obtain ⟨v2, hv⟩ := k_iseq hc
 simp only at hv
 subst hv
 have c2 : W2.cell? ⟨p, 0, none⟩ = some (.int .u8 3) := h2.mid.cell 0
 clear hc h1 g2 Hs1 c1
 go_wp2_with fail
 refine (table_any (k := k) (m := { m with kind := 3, isrc := v1, iseq := v2 }) Hvo.out Hlo.out (K.rep_le (by omega) hr2) h2).mono ?_
 rintro e W3 (⟨s3, hc, rfl, vo3, R, B3, hrow, hr3, h3⟩ | ⟨f, hc, rfl, hL⟩)
 rotate_left
 ·exact ⟨rfl, .inr ⟨f, Hs2.out.trans hc, rfl, hL⟩⟩
 have Hc := Lib.hid hc
 clear hc h2
 go_wp2
 go_end0
 have ke := table_keeps Hc.out
 exact .owner (Hs2.out.trans Hc.out) rfl hrow (by rw [ke]; exact Hvs.out) hr3 h3
set_option maxHeartbeats 16000000 in
set_option maxRecDepth 100000 in
theorem walk_4 (hf : m.Fits) (hvo : Rd w0 vo m.owner) (hvs : Rd w0 vs m.set) (hlo : m.owner.length ≤ 1000000000000) (hls : m.set.length ≤ 1000000000000)
  (hr : K.rep (k + 1100) st B) (h : Live w0 (B ++ (p, mcells m vo vs, t) :: L) W)
  (hk : s_kind K (st, m) = .ok (st1, { m with kind := 4 })) : Calls Tryz.prog 81 #[.iface K.T (.pointer (some ⟨K.r, 0, none⟩)), .pointer (some ⟨p, 0, none⟩)] W fun e W' => AftW K w0 L p t k (runS K (s_move K :: s_part K :: s_to K :: []) (st1, { m with kind := 4 })) e W' := by
 have hmf : ∀ (fn : Fn) (first cap : Array Value) (w : World), (Instr.makeFunc fn first cap).run Tryz.prog w = .ok (.func fn first cap) w := fun _ _ _ _ => rfl
 have hm0 := K.m_num
 have hn0 := K.n_num
 have he0 := K.e_num
 have hm1 := K.m_byte
 have hn1 := K.n_byte
 have he1 := K.e_byte
 have hm2 := K.m_i64
 have hn2 := K.n_i64
 have he2 := K.e_i64
 have hm3 := K.m_u64
 have hn3 := K.n_u64
 have he3 := K.e_u64
 have hm4 := K.m_text
 have hn4 := K.n_text
 have he4 := K.e_text
 obtain ⟨rS, hrS⟩ : ∃ r, r = runS K (s_move K :: s_part K :: s_to K :: []) (st1, { m with kind := 4 }) := ⟨_, rfl⟩
 rw [← hrS]
 have Hs0 := Lib.hid hrS
 have Hk := Lib.hid hk
 have Hvo := Lib.hid hvo
 have Hvs := Lib.hid hvs
 have Hlo := Lib.hid hlo
 have Hls := Lib.hid hls
 clear hvo hvs hlo hls
 clear hrS hk
 go_enter Tryz.func81, Tryz.ntmps81
 go_wp2_with fail
 go_still_tail 7, (by kernel_rfl)
 change wpList _ _ _ _ _ (World.drew W)
 have g0 := h.drew
 generalize World.drew W = X0 at *
 go_wp2_with fail
 refine (a_kind (s := (st, m)) (k := k + 1099) hr g0).mono ?_
 rintro e W0 (⟨s0, hc, rfl, B0, hr0, h0⟩ | ⟨f, hc, _, _⟩)
 rotate_left
 ·rw [Hk.out] at hc; cases hc
 rw [Hk.out] at hc
 cases hc
 have c0 : W0.cell? ⟨p, 0, none⟩ = some (.int .u8 4) := h0.mid.cell 0
 clear h g0 hr Hk
 go_wp2_with fail
 go_still_tail 7, (by kernel_rfl)
 change wpList _ _ _ _ _ (World.drew W0)
 have g1 := h0.drew
 generalize World.drew W0 = X1 at *
 go_wp2_with fail
 refine (a_move (s := (st1, { m with kind := 4 })) (k := k + 1098) hr0 g1).mono ?_
 rintro e W1 (⟨⟨st2, m1⟩, hc, rfl, B1, hr1, h1⟩ | ⟨f, hc, rfl, hL⟩)
 rotate_left
 ·exact ⟨rfl, .inr ⟨f, Hs0.out.trans (runS_bad hc), rfl, hL⟩⟩
 have Hs1 := Lib.hid (Hs0.out.trans (runS_ok hc))
 obtain ⟨v1, hv⟩ := k_move hc
 simp only at hv
 subst hv
 have c1 : W1.cell? ⟨p, 0, none⟩ = some (.int .u8 4) := h1.mid.cell 0
 clear hc h0 g1 Hs0 c0
 go_wp2_with fail
 go_still_tail 7, (by kernel_rfl)
 change wpList _ _ _ _ _ (World.drew W1)
 have g2 := h1.drew
 generalize World.drew W1 = X2 at *
 go_wp2_with fail
 refine (a_part (s := (st2, { m with kind := 4, move := v1 })) (k := k + 1097) hr1 g2).mono ?_
 rintro e W2 (⟨⟨st3, m2⟩, hc, rfl, B2, hr2, h2⟩ | ⟨f, hc, rfl, hL⟩)
 rotate_left
 ·exact ⟨rfl, .inr ⟨f, Hs1.out.trans (runS_bad hc), rfl, hL⟩⟩
 have Hs2 := Lib.hid (Hs1.out.trans (runS_ok hc))
 obtain ⟨v2, hv⟩ := k_part hc
 simp only at hv
 subst hv
 have c2 : W2.cell? ⟨p, 0, none⟩ = some (.int .u8 4) := h2.mid.cell 0
 clear hc h1 g2 Hs1 c1
 go_wp2_with fail
 go_still_tail 7, (by kernel_rfl)
 change wpList _ _ _ _ _ (World.drew W2)
 have g3 := h2.drew
 generalize World.drew W2 = X3 at *
 go_wp2_with fail
 refine (a_to (s := (st3, { m with kind := 4, move := v1, part := v2 })) (k := k + 1096) hr2 g3).mono ?_
 rintro e W3 (⟨⟨st4, m3⟩, hc, rfl, B3, hr3, h3⟩ | ⟨f, hc, rfl, hL⟩)
 rotate_left
 ·exact ⟨rfl, .inr ⟨f, Hs2.out.trans (runS_bad hc), rfl, hL⟩⟩
 have Hs3 := Lib.hid (Hs2.out.trans (runS_ok hc))
 obtain ⟨v3, hv⟩ := k_to hc
 simp only at hv
 subst hv
 have c3 : W3.cell? ⟨p, 0, none⟩ = some (.int .u8 4) := h3.mid.cell 0
 clear hc h2 g3 Hs2 c2
 go_wp2
 go_end0
 exact .plain Hs3.out rfl Hvo.out Hvs.out (K.rep_le (by omega) hr3) h3
end
end Go.Proofs.YthkeiclhllikjaaGreat
/-
 msg.walk at the kinds 8.
-/
namespace Go.Proofs.YthkeiclhllikjaaGreat
open Go.RowKit
section
variable {K : Wkr} {w0 W : World} {L B : List Blk} {p k : Nat} {t : TypeId} {vo vs : Value} {s : K.σ × PMsg} {st st1 : K.σ} {m : PMsg}
set_option maxHeartbeats 16000000 in
set_option maxRecDepth 100000 in
theorem walk_8 (hf : m.Fits) (hvo : Rd w0 vo m.owner) (hvs : Rd w0 vs m.set) (hlo : m.owner.length ≤ 1000000000000) (hls : m.set.length ≤ 1000000000000)
  (hr : K.rep (k + 1100) st B) (h : Live w0 (B ++ (p, mcells m vo vs, t) :: L) W)
  (hk : s_kind K (st, m) = .ok (st1, { m with kind := 8 })) : Calls Tryz.prog 81 #[.iface K.T (.pointer (some ⟨K.r, 0, none⟩)), .pointer (some ⟨p, 0, none⟩)] W fun e W' => AftW K w0 L p t k (runS K (s_move K :: s_part K :: s_n K :: []) (st1, { m with kind := 8 })) e W' := by
 have hmf : ∀ (fn : Fn) (first cap : Array Value) (w : World), (Instr.makeFunc fn first cap).run Tryz.prog w = .ok (.func fn first cap) w := fun _ _ _ _ => rfl
 have hm0 := K.m_num
 have hn0 := K.n_num
 have he0 := K.e_num
 have hm1 := K.m_byte
 have hn1 := K.n_byte
 have he1 := K.e_byte
 have hm2 := K.m_i64
 have hn2 := K.n_i64
 have he2 := K.e_i64
 have hm3 := K.m_u64
 have hn3 := K.n_u64
 have he3 := K.e_u64
 have hm4 := K.m_text
 have hn4 := K.n_text
 have he4 := K.e_text
 obtain ⟨rS, hrS⟩ : ∃ r, r = runS K (s_move K :: s_part K :: s_n K :: []) (st1, { m with kind := 8 }) := ⟨_, rfl⟩
 rw [← hrS]
 have Hs0 := Lib.hid hrS
 have Hk := Lib.hid hk
 have Hvo := Lib.hid hvo
 have Hvs := Lib.hid hvs
 have Hlo := Lib.hid hlo
 have Hls := Lib.hid hls
 clear hvo hvs hlo hls
 clear hrS hk
 go_enter Tryz.func81, Tryz.ntmps81
 go_wp2_with fail
 go_still_tail 7, (by kernel_rfl)
 change wpList _ _ _ _ _ (World.drew W)
 have g0 := h.drew
 generalize World.drew W = X0 at *
 go_wp2_with fail
 refine (a_kind (s := (st, m)) (k := k + 1099) hr g0).mono ?_
 rintro e W0 (⟨s0, hc, rfl, B0, hr0, h0⟩ | ⟨f, hc, _, _⟩)
 rotate_left
 ·rw [Hk.out] at hc; cases hc
 rw [Hk.out] at hc
 cases hc
 have c0 : W0.cell? ⟨p, 0, none⟩ = some (.int .u8 8) := h0.mid.cell 0
 clear h g0 hr Hk
 go_wp2_with fail
 go_still_tail 7, (by kernel_rfl)
 change wpList _ _ _ _ _ (World.drew W0)
 have g1 := h0.drew
 generalize World.drew W0 = X1 at *
 go_wp2_with fail
 refine (a_move (s := (st1, { m with kind := 8 })) (k := k + 1098) hr0 g1).mono ?_
 rintro e W1 (⟨⟨st2, m1⟩, hc, rfl, B1, hr1, h1⟩ | ⟨f, hc, rfl, hL⟩)
 rotate_left
 ·exact ⟨rfl, .inr ⟨f, Hs0.out.trans (runS_bad hc), rfl, hL⟩⟩
 have Hs1 := Lib.hid (Hs0.out.trans (runS_ok hc))
 obtain ⟨v1, hv⟩ := k_move hc
 simp only at hv
 subst hv
 have c1 : W1.cell? ⟨p, 0, none⟩ = some (.int .u8 8) := h1.mid.cell 0
 clear hc h0 g1 Hs0 c0
 go_wp2_with fail
 go_still_tail 7, (by kernel_rfl)
 change wpList _ _ _ _ _ (World.drew W1)
 have g2 := h1.drew
 generalize World.drew W1 = X2 at *
 go_wp2_with fail
 refine (a_part (s := (st2, { m with kind := 8, move := v1 })) (k := k + 1097) hr1 g2).mono ?_
 rintro e W2 (⟨⟨st3, m2⟩, hc, rfl, B2, hr2, h2⟩ | ⟨f, hc, rfl, hL⟩)
 rotate_left
 ·exact ⟨rfl, .inr ⟨f, Hs1.out.trans (runS_bad hc), rfl, hL⟩⟩
 have Hs2 := Lib.hid (Hs1.out.trans (runS_ok hc))
 obtain ⟨v2, hv⟩ := k_part hc
 simp only at hv
 subst hv
 have c2 : W2.cell? ⟨p, 0, none⟩ = some (.int .u8 8) := h2.mid.cell 0
 clear hc h1 g2 Hs1 c1
 go_wp2_with fail
 go_still_tail 7, (by kernel_rfl)
 change wpList _ _ _ _ _ (World.drew W2)
 have g3 := h2.drew
 generalize World.drew W2 = X3 at *
 go_wp2_with fail
 refine (a_n (s := (st3, { m with kind := 8, move := v1, part := v2 })) (k := k + 1096) hr2 g3).mono ?_
 rintro e W3 (⟨⟨st4, m3⟩, hc, rfl, B3, hr3, h3⟩ | ⟨f, hc, rfl, hL⟩)
 rotate_left
 ·exact ⟨rfl, .inr ⟨f, Hs2.out.trans (runS_bad hc), rfl, hL⟩⟩
 have Hs3 := Lib.hid (Hs2.out.trans (runS_ok hc))
 obtain ⟨v3, hv⟩ := k_n hc
 simp only at hv
 subst hv
 have c3 : W3.cell? ⟨p, 0, none⟩ = some (.int .u8 8) := h3.mid.cell 0
 clear hc h2 g3 Hs2 c2
 go_wp2
 go_end0
 exact .plain Hs3.out rfl Hvo.out Hvs.out (K.rep_le (by omega) hr3) h3
end
end Go.Proofs.YthkeiclhllikjaaGreat
