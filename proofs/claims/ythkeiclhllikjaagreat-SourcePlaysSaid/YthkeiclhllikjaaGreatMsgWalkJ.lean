/-
  msg.walk, by whichever walker, whatever the kind.
-/
import Derived.Test.YthkeiclhllikjaaGreatMsgWalkA
import Derived.Test.YthkeiclhllikjaaGreatMsgWalkC
import Derived.Test.YthkeiclhllikjaaGreatMsgWalkE
set_option linter.unusedSimpArgs false
set_option linter.unusedVariables false
namespace Go.Proofs.YthkeiclhllikjaaGreat
open Go.RowKit
section
variable {K : Wkr} {w0 W : World} {L B : List Blk} {p k : Nat} {t : TypeId} {vo vs : Value} {s : K.σ × PMsg} {st st1 : K.σ} {m : PMsg}
set_option maxHeartbeats 16000000 in
set_option maxRecDepth 100000 in
theorem walk_bad (hf : m.Fits) (hvo : Rd w0 vo m.owner) (hvs : Rd w0 vs m.set) (hlo : m.owner.length ≤ 1000000000000) (hls : m.set.length ≤ 1000000000000)
  (hr : K.rep (k + 1100) st B) (h : Live w0 (B ++ (p, mcells m vo vs, t) :: L) W)
  {v : Nat} (hv : v = 0 ∨ 14 < v) (hk : s_kind K (st, m) = .ok (st1, { m with kind := v })) : Calls Tryz.prog 81 #[.iface K.T (.pointer (some ⟨K.r, 0, none⟩)), .pointer (some ⟨p, 0, none⟩)] W fun e W' => AftW K w0 L p t k (.error 10) e W' := by
 have hmf : ∀ (fn : Fn) (first cap : Array Value) (w : World), (Instr.makeFunc fn first cap).run Tryz.prog w = .ok (.func fn first cap) w := fun _ _ _ _ => rfl
 have hm0 := K.m_num
 have hn0 := K.n_num
 have he0 := K.e_num
 have hm1 := K.m_byte
 have hn1 := K.n_byte
 have he1 := K.e_byte
 have hm2 := K.m_i64
 have hn2 := K.n_i64
 have he2 := K.e_i64
 have hm3 := K.m_u64
 have hn3 := K.n_u64
 have he3 := K.e_u64
 have hm4 := K.m_text
 have hn4 := K.n_text
 have he4 := K.e_text
 have Hk := Lib.hid hk
 have Hvo := Lib.hid hvo
 have Hvs := Lib.hid hvs
 have Hlo := Lib.hid hlo
 have Hls := Lib.hid hls
 clear hvo hvs hlo hls
 clear hk
 go_enter Tryz.func81, Tryz.ntmps81
 go_wp2_with fail
 go_still_tail 7, (by kernel_rfl)
 change wpList _ _ _ _ _ (World.drew W)
 have g0 := h.drew
 generalize World.drew W = X0 at *
 go_wp2_with fail
 refine (a_kind (s := (st, m)) (k := k + 1099) hr g0).mono ?_
 rintro e W0 (⟨s0, hc, rfl, B0, hr0, h0⟩ | ⟨f, hc, _, _⟩)
 rotate_left
 ·rw [Hk.out] at hc; cases hc
 rw [Hk.out] at hc
 cases hc
 have c0 : W0.cell? ⟨p, 0, none⟩ = some (.int .u8 v) := h0.mid.cell 0
 have a4 : (decide (4 ≤ v) && decide (v ≤ 13)) = false := by simp; omega
 have e1 : decide ((v : Int) = 1) = false := decide_eq_false (by omega)
 have e2 : decide ((v : Int) = 2) = false := decide_eq_false (by omega)
 have e3 : decide ((v : Int) = 3) = false := decide_eq_false (by omega)
 have e4 : decide ((v : Int) = 4) = false := decide_eq_false (by omega)
 have e5 : decide ((v : Int) = 5) = false := decide_eq_false (by omega)
 have e6 : decide ((v : Int) = 6) = false := decide_eq_false (by omega)
 have e7 : decide ((v : Int) = 7) = false := decide_eq_false (by omega)
 have e8 : decide ((v : Int) = 8) = false := decide_eq_false (by omega)
 have e9 : decide ((v : Int) = 9) = false := decide_eq_false (by omega)
 have e10 : decide ((v : Int) = 10) = false := decide_eq_false (by omega)
 have e11 : decide ((v : Int) = 11) = false := decide_eq_false (by omega)
 have e12 : decide ((v : Int) = 12) = false := decide_eq_false (by omega)
 have e13 : decide ((v : Int) = 13) = false := decide_eq_false (by omega)
 have e14 : decide ((v : Int) = 14) = false := decide_eq_false (by omega)
 clear h g0 hr Hk
 rcases hv with rfl | hv
 ·go_wp2
  exact ⟨rfl, .inr ⟨10, rfl, rfl, h0.mid.tail.dropl⟩⟩
 ·have b4 : decide (4 ≤ v) = true := decide_eq_true (by omega)
  have b13 : decide (v ≤ 13) = false := decide_eq_false (by omega)
  go_wp2
  exact ⟨rfl, .inr ⟨10, rfl, rfl, h0.mid.tail.dropl⟩⟩
set_option maxHeartbeats 16000000 in
set_option maxRecDepth 100000 in
theorem walk_err (hf : m.Fits) (hvo : Rd w0 vo m.owner) (hvs : Rd w0 vs m.set) (hlo : m.owner.length ≤ 1000000000000) (hls : m.set.length ≤ 1000000000000)
  (hr : K.rep (k + 1100) st B) (h : Live w0 (B ++ (p, mcells m vo vs, t) :: L) W)
  {f : Int} (hk : s_kind K (st, m) = .error f) : Calls Tryz.prog 81 #[.iface K.T (.pointer (some ⟨K.r, 0, none⟩)), .pointer (some ⟨p, 0, none⟩)] W fun e W' => AftW K w0 L p t k (.error f) e W' := by
 have hmf : ∀ (fn : Fn) (first cap : Array Value) (w : World), (Instr.makeFunc fn first cap).run Tryz.prog w = .ok (.func fn first cap) w := fun _ _ _ _ => rfl
 have hm0 := K.m_num
 have hn0 := K.n_num
 have he0 := K.e_num
 have hm1 := K.m_byte
 have hn1 := K.n_byte
 have he1 := K.e_byte
 have hm2 := K.m_i64
 have hn2 := K.n_i64
 have he2 := K.e_i64
 have hm3 := K.m_u64
 have hn3 := K.n_u64
 have he3 := K.e_u64
 have hm4 := K.m_text
 have hn4 := K.n_text
 have he4 := K.e_text
 have Hk := Lib.hid hk
 have Hvo := Lib.hid hvo
 have Hvs := Lib.hid hvs
 have Hlo := Lib.hid hlo
 have Hls := Lib.hid hls
 clear hvo hvs hlo hls
 clear hk
 go_enter Tryz.func81, Tryz.ntmps81
 go_wp2_with fail
 go_still_tail 7, (by kernel_rfl)
 change wpList _ _ _ _ _ (World.drew W)
 have g0 := h.drew
 generalize World.drew W = X0 at *
 go_wp2_with fail
 refine (a_kind (s := (st, m)) (k := k + 1099) hr g0).mono ?_
 rintro e W0 (⟨s0, hc, rfl, B0, hr0, h0⟩ | ⟨f', hc, rfl, hL⟩)
 ·rw [Hk.out] at hc; cases hc
 rw [Hk.out] at hc
 cases hc
 exact ⟨rfl, .inr ⟨_, rfl, rfl, hL⟩⟩
theorem walk_any (hf : m.Fits) (hvo : Rd w0 vo m.owner) (hvs : Rd w0 vs m.set) (hlo : m.owner.length ≤ 1000000000000) (hls : m.set.length ≤ 1000000000000)
  (hr : K.rep (k + 1100) st B) (h : Live w0 (B ++ (p, mcells m vo vs, t) :: L) W) : Calls Tryz.prog 81 #[.iface K.T (.pointer (some ⟨K.r, 0, none⟩)), .pointer (some ⟨p, 0, none⟩)] W fun e W' => AftW K w0 L p t k (walkM K (st, m)) e W' := by
 cases hk : s_kind K (st, m) with
 | error f =>
  rw [walkM, hk]
  exact walk_err hf hvo hvs hlo hls hr h hk
 | ok s1 =>
  obtain ⟨st1, m1⟩ := s1
  obtain ⟨v, hv⟩ := k_kind hk
  simp only at hv
  subst hv
  rw [walkM, hk]
  simp only
  by_cases hb : 1 ≤ v ∧ v ≤ 14
  ·rw [if_pos hb]
   obtain ⟨h1, h2⟩ := hb
   match v, h1, h2, hk with
   | 1, _, _, hk => exact walk_1 hf hvo hvs hlo hls hr h hk
   | 2, _, _, hk => exact walk_2 hf hvo hvs hlo hls hr h hk
   | 3, _, _, hk => exact walk_3 hf hvo hvs hlo hls hr h hk
   | 4, _, _, hk => exact walk_4 hf hvo hvs hlo hls hr h hk
   | 5, _, _, hk => exact walk_5 hf hvo hvs hlo hls hr h hk
   | 6, _, _, hk => exact walk_6 hf hvo hvs hlo hls hr h hk
   | 7, _, _, hk => exact walk_7 hf hvo hvs hlo hls hr h hk
   | 8, _, _, hk => exact walk_8 hf hvo hvs hlo hls hr h hk
   | 9, _, _, hk => exact walk_9 hf hvo hvs hlo hls hr h hk
   | 10, _, _, hk => exact walk_10 hf hvo hvs hlo hls hr h hk
   | 11, _, _, hk => exact walk_11 hf hvo hvs hlo hls hr h hk
   | 12, _, _, hk => exact walk_12 hf hvo hvs hlo hls hr h hk
   | 13, _, _, hk => exact walk_13 hf hvo hvs hlo hls hr h hk
   | 14, _, _, hk => exact walk_14 hf hvo hvs hlo hls hr h hk
  ·rw [if_neg hb]
   exact walk_bad hf hvo hvs hlo hls hr h (by omega) hk
end
end Go.Proofs.YthkeiclhllikjaaGreat
