/-
  msg.table, by whichever walker; a list's step.
-/
import Derived.Test.YthkeiclhllikjaaGreatMsgNums
set_option linter.unusedSimpArgs false
set_option linter.unusedVariables false
namespace Go.Proofs.YthkeiclhllikjaaGreat
open Go.RowKit
def s_owner (K : WSem) : Stp K := fun s =>
 match numsM K s.1 s.2.owner 64 with
 | .ok x => .ok (x.2, { s.2 with owner := x.1 })
 | .error f => .error f
def s_set (K : WSem) : Stp K := fun s =>
 match numsM K s.1 s.2.set 1024 with
 | .ok x => .ok (x.2, { s.2 with set := x.1 })
 | .error f => .error f
def tableS (K : WSem) : List (Stp K) := [s_epoch K, s_nodes K, s_owner K]
def AftO (K : Wkr) (w0 : World) (L : List Blk) (p : Nat) (t : TypeId) (vs : Value) (k : Nat) (r : Except Int (K.σ × PMsg)) (e : Ending) (W' : World) : Prop :=
 (∃ s', r = .ok s' ∧ e = .returned (.tuple #[]) ∧ ∃ vo R B', RowIs 3 vo (ints s'.2.owner) R ∧ K.rep k s'.1 B' ∧ Live w0 (B' ++ (p, mcells s'.2 vo vs, t) :: (R ++ L)) W') ∨ ∃ f, r = .error f ∧ e = gave f ∧ Live w0 L W'
def AftT (K : Wkr) (w0 : World) (L : List Blk) (p : Nat) (t : TypeId) (vo : Value) (k : Nat) (r : Except Int (K.σ × PMsg)) (e : Ending) (W' : World) : Prop :=
 (∃ s', r = .ok s' ∧ e = .returned (.tuple #[]) ∧ ∃ vs R B', RowIs 3 vs (ints s'.2.set) R ∧ K.rep k s'.1 B' ∧ Live w0 (B' ++ (p, mcells s'.2 vo vs, t) :: (R ++ L)) W') ∨ ∃ f, r = .error f ∧ e = gave f ∧ Live w0 L W'
section
variable {K : Wkr} {w0 W : World} {L B : List Blk} {p k : Nat} {t : TypeId} {vo vs : Value} {s : K.σ × PMsg} {st : K.σ} {m : PMsg}
theorem a_owner (hv : Rd w0 vo s.2.owner) (hl : s.2.owner.length ≤ 1000000000000) (hr : K.rep (k + 65) s.1 B) (h : Live w0 (B ++ (p, mcells s.2 vo vs, t) :: L) W) :
  Calls Tryz.prog 111 #[.iface K.T (.pointer (some ⟨K.r, 0, none⟩)), .pointer (some ⟨p, 19, none⟩), .int .i64 64] W fun e W' => AftO K w0 L p t vs k (s_owner K s) e W' := by
 refine (numbers_any (most := 64) (by decide) (by decide) hv hl (i := 19) (by rfl) hr h).mono ?_
 intro e W' hs
 unfold Said at hs
 unfold s_owner AftO
 split at hs
 ·rename_i x hx
  rw [hx]
  obtain ⟨rfl, v', R, B', hr', hrow, h'⟩ := hs
  exact .inl ⟨_, rfl, rfl, v', R, B', hrow, hr', h'⟩
 ·rename_i f hx
  rw [hx]
  obtain ⟨rfl, h'⟩ := hs
  exact .inr ⟨_, rfl, rfl, h'⟩
theorem a_set (hv : Rd w0 vs s.2.set) (hl : s.2.set.length ≤ 1000000000000) (hr : K.rep (k + 1025) s.1 B) (h : Live w0 (B ++ (p, mcells s.2 vo vs, t) :: L) W) :
  Calls Tryz.prog 111 #[.iface K.T (.pointer (some ⟨K.r, 0, none⟩)), .pointer (some ⟨p, 20, none⟩), .int .i64 1024] W fun e W' => AftT K w0 L p t vo k (s_set K s) e W' := by
 refine (numbers_any (most := 1024) (by decide) (by decide) hv hl (i := 20) (by rfl) hr h).mono ?_
 intro e W' hs
 unfold Said at hs
 unfold s_set AftT
 split at hs
 ·rename_i x hx
  rw [hx]
  obtain ⟨rfl, v', R, B', hr', hrow, h'⟩ := hs
  exact .inl ⟨_, rfl, rfl, v', R, B', hrow, hr', h'⟩
 ·rename_i f hx
  rw [hx]
  obtain ⟨rfl, h'⟩ := hs
  exact .inr ⟨_, rfl, rfl, h'⟩
set_option maxHeartbeats 4000000 in
set_option maxRecDepth 100000 in
theorem table_any (hv : Rd w0 vo m.owner) (hl : m.owner.length ≤ 1000000000000) (hr : K.rep (k + 67) st B) (h : Live w0 (B ++ (p, mcells m vo vs, t) :: L) W) :
  Calls Tryz.prog 110 #[.iface K.T (.pointer (some ⟨K.r, 0, none⟩)), .pointer (some ⟨p, 17, none⟩)] W fun e W' => AftO K w0 L p t vs k (runS K (tableS K) (st, m)) e W' := by
 have hmf : ∀ (fn : Fn) (first cap : Array Value) (w : World), (Instr.makeFunc fn first cap).run Tryz.prog w = .ok (.func fn first cap) w := fun _ _ _ _ => rfl
 have hm1 := K.m_num
 have hn1 := K.n_num
 have he1 := K.e_num
 obtain ⟨rS, hrS⟩ : ∃ r, r = runS K [s_epoch K, s_nodes K, s_owner K] (st, m) := ⟨_, rfl⟩
 rw [show runS K (tableS K) (st, m) = rS from hrS.symm]
 have Hs := Lib.hid hrS
 have Hv := Lib.hid hv
 have Hl := Lib.hid hl
 clear hrS hv hl
 go_enter Tryz.func110, Tryz.ntmps110
 go_wp2_with fail
 go_still_tail 7, (by kernel_rfl)
 change wpList _ _ _ _ _ (World.drew W)
 have g1 := h.drew
 generalize World.drew W = X1 at *
 go_wp2_with fail
 refine (a_epoch (s := (st, m)) (k := k + 66) hr g1).mono ?_
 rintro e W1 (⟨⟨st1, m1⟩, hc, rfl, B1, hr1, h1⟩ | ⟨f, hc, rfl, hL⟩)
 rotate_left
 ·exact ⟨rfl, .inr ⟨f, Hs.out.trans (runS_bad hc), rfl, hL⟩⟩
 have Hs1 := Lib.hid (Hs.out.trans (runS_ok hc))
 obtain ⟨v1, hv⟩ := k_epoch hc
 simp only at hv
 subst hv
 clear hc h g1 Hs
 go_wp2_with fail
 go_still_tail 7, (by kernel_rfl)
 change wpList _ _ _ _ _ (World.drew W1)
 have g2 := h1.drew
 generalize World.drew W1 = X2 at *
 go_wp2_with fail
 refine (a_nodes (s := (st1, _)) (k := k + 65) hr1 g2).mono ?_
 rintro e W2 (⟨⟨st2, m2⟩, hc, rfl, B2, hr2, h2⟩ | ⟨f, hc, rfl, hL⟩)
 rotate_left
 ·exact ⟨rfl, .inr ⟨f, Hs1.out.trans (runS_bad hc), rfl, hL⟩⟩
 have Hs2 := Lib.hid (Hs1.out.trans (runS_ok hc))
 obtain ⟨v2, hv⟩ := k_nodes hc
 simp only at hv
 subst hv
 clear hc h1 g2 Hs1
 go_wp2_with fail
 refine (a_owner (s := (st2, { m with epoch := v1, nodes := v2 })) (k := k) Hv.out Hl.out hr2 h2).mono ?_
 rintro e W3 (⟨⟨st3, m3⟩, hc, rfl, vo3, R, B3, hrow, hr3, h3⟩ | ⟨f, hc, rfl, hL⟩)
 rotate_left
 ·exact ⟨rfl, .inr ⟨f, Hs2.out.trans (runS_bad hc), rfl, hL⟩⟩
 have Hs3 := Lib.hid (Hs2.out.trans (runS_ok hc))
 clear hc h2 Hs2
 go_wp2
 go_end0
 exact .inl ⟨_, Hs3.out, rfl, vo3, R, B3, hrow, hr3, h3⟩
end
end Go.Proofs.YthkeiclhllikjaaGreat
/-
 msg.walk: what it goes over, by kind.
-/
namespace Go.Proofs.YthkeiclhllikjaaGreat
open Go.RowKit
def walkS (K : WSem) (c : Nat) : List (Stp K) :=
 match c with
 | 1 => (itemS K)
 | 2 => (s_isrc K :: s_iseq K :: s_code K :: [])
 | 3 => (s_isrc K :: s_iseq K :: tableS K)
 | 4 => (s_move K :: s_part K :: s_to K :: [])
 | 5 => (s_move K :: s_part K :: s_n K :: s_count K :: s_data K :: [])
 | 6 => (s_move K :: s_part K :: s_n K :: s_set K :: [])
 | 7 => (s_move K :: s_part K :: s_n K :: itemS K)
 | 8 => (s_move K :: s_part K :: s_n K :: [])
 | 9 => (s_move K :: s_part K :: s_n K :: s_at_ K :: s_digest K :: [])
 | 10 => (s_move K :: s_part K :: s_code K :: [])
 | 11 => (s_move K :: s_part K :: tableS K)
 | 12 => (s_move K :: s_part K :: [])
 | 13 => (s_move K :: s_part K :: [])
 | 14 => (tableS K)
 | _ => []
def walkM (K : WSem) (s : K.σ × PMsg) : Except Int (K.σ × PMsg) :=
 match s_kind K s with
 | .error f => .error f
 | .ok s1 => if 1 ≤ s1.2.kind ∧ s1.2.kind ≤ 14 then runS K (walkS K s1.2.kind) s1 else .error 10
def Slot (w0 : World) (v : Value) (l : List Int) (R : List Blk) : Prop := (Rd w0 v l ∧ R = []) ∨ RowIs 3 v (ints l) R
def AftW (K : Wkr) (w0 : World) (L : List Blk) (p : Nat) (t : TypeId) (k : Nat) (r : Except Int (K.σ × PMsg)) (e : Ending) (W' : World) : Prop :=
 (∃ s', r = .ok s' ∧ e = .returned (.tuple #[]) ∧ ∃ vo vs Ro Rs B', Slot w0 vo s'.2.owner Ro ∧ Slot w0 vs s'.2.set Rs ∧ K.rep k s'.1 B' ∧ Live w0 (B' ++ (p, mcells s'.2 vo vs, t) :: (Ro ++ (Rs ++ L))) W') ∨ ∃ f, r = .error f ∧ e = gave f ∧ Live w0 L W'
section
variable {K : Wkr} {w0 W : World} {L B : List Blk} {p k : Nat} {t : TypeId} {vo vs : Value} {s : K.σ × PMsg} {st st1 : K.σ} {m : PMsg}
theorem AftW.plain {r : Except Int (K.σ × PMsg)} {s' : K.σ × PMsg} {e : Ending} {W' : World} {B' : List Blk} (hr : r = .ok s') (he : e = .returned (.tuple #[])) (ho : Rd w0 vo s'.2.owner) (hs : Rd w0 vs s'.2.set)
  (hk : K.rep k s'.1 B') (h : Live w0 (B' ++ (p, mcells s'.2 vo vs, t) :: L) W') : AftW K w0 L p t k r e W' :=
 .inl ⟨s', hr, he, vo, vs, [], [], B', .inl ⟨ho, rfl⟩, .inl ⟨hs, rfl⟩, hk, h⟩
theorem AftW.owner {r : Except Int (K.σ × PMsg)} {s' : K.σ × PMsg} {e : Ending} {W' : World} {B' R : List Blk} (hr : r = .ok s') (he : e = .returned (.tuple #[])) (ho : RowIs 3 vo (ints s'.2.owner) R) (hs : Rd w0 vs s'.2.set)
  (hk : K.rep k s'.1 B') (h : Live w0 (B' ++ (p, mcells s'.2 vo vs, t) :: (R ++ L)) W') : AftW K w0 L p t k r e W' :=
 .inl ⟨s', hr, he, vo, vs, R, [], B', .inr ho, .inl ⟨hs, rfl⟩, hk, h⟩
theorem AftW.set {r : Except Int (K.σ × PMsg)} {s' : K.σ × PMsg} {e : Ending} {W' : World} {B' R : List Blk} (hr : r = .ok s') (he : e = .returned (.tuple #[])) (ho : Rd w0 vo s'.2.owner) (hs : RowIs 3 vs (ints s'.2.set) R)
  (hk : K.rep k s'.1 B') (h : Live w0 (B' ++ (p, mcells s'.2 vo vs, t) :: (R ++ L)) W') : AftW K w0 L p t k r e W' :=
 .inl ⟨s', hr, he, vo, vs, [], R, B', .inl ⟨ho, rfl⟩, .inr hs, hk, h⟩
theorem runS_keep {Y : Type} (g : PMsg → Y) : ∀ (fs : List (Stp K)), (∀ f ∈ fs, ∀ s s', f s = .ok s' → g s'.2 = g s.2) → ∀ s s', runS K fs s = .ok s' → g s'.2 = g s.2
 | [], _, s, s', h => by cases h; rfl
 | f :: fs, hf, s, s', h => by
  rw [runS] at h
  cases hc : f s with
  | error e => rw [hc] at h; cases h
  | ok s1 =>
   rw [hc] at h
   exact (runS_keep g fs (fun f' hf' => hf f' (List.mem_cons_of_mem _ hf')) s1 s' h).trans (hf f (by simp) s s1 hc)
theorem item_keeps {s' : K.σ × PMsg} (h : runS K (itemS K) s = .ok s') : s'.2.owner = s.2.owner ∧ s'.2.set = s.2.set := by
 have h2 := runS_keep (K := K) (fun m => (m.owner, m.set)) (itemS K) (fun f hf s s' hc => by
  simp only [itemS, List.mem_cons, List.not_mem_nil, or_false] at hf
  rcases hf with rfl | rfl | rfl | rfl | rfl | rfl | rfl | rfl
  ·obtain ⟨v, hv⟩ := k_isrc hc; simp only [hv]
  ·obtain ⟨v, hv⟩ := k_iseq hc; simp only [hv]
  ·obtain ⟨v, hv⟩ := k_ilow hc; simp only [hv]
  ·obtain ⟨v, hv⟩ := k_ikind hc; simp only [hv]
  ·obtain ⟨v, hv⟩ := k_ikey hc; simp only [hv]
  ·obtain ⟨v, hv⟩ := k_ipart hc; simp only [hv]
  ·obtain ⟨v, hv⟩ := k_iat hc; simp only [hv]
  ·obtain ⟨v, hv⟩ := k_iN hc; simp only [hv]
  ) s s' h
 simpa using h2
theorem owner_keeps {s' : K.σ × PMsg} (h : s_owner K s = .ok s') : s'.2.set = s.2.set := by
 unfold s_owner at h
 split at h
 ·cases h; rfl
 ·cases h
theorem table_keeps {s' : K.σ × PMsg} (h : runS K (tableS K) s = .ok s') : s'.2.set = s.2.set := by
 refine runS_keep (K := K) (fun m => m.set) (tableS K) (fun f hf s s' hc => ?_) s s' h
 simp only [tableS, List.mem_cons, List.not_mem_nil, or_false] at hf
 rcases hf with rfl | rfl | rfl
 ·obtain ⟨v, hv⟩ := k_epoch hc; simp only [hv]
 ·obtain ⟨v, hv⟩ := k_nodes hc; simp only [hv]
 ·exact owner_keeps hc
theorem set_keeps {s' : K.σ × PMsg} (h : s_set K s = .ok s') : s'.2.owner = s.2.owner := by
 unfold s_set at h
 split at h
 ·cases h; rfl
 ·cases h
end
end Go.Proofs.YthkeiclhllikjaaGreat
