/-
  A walk's fault is never 0.
-/
import Derived.Test.YthkeiclhllikjaaGreatMsgQe
import Derived.Test.YthkeiclhllikjaaGreatMsgRk
import Derived.Test.YthkeiclhllikjaaGreatMsgQf
set_option linter.unusedSimpArgs false
set_option linter.unusedVariables false
namespace Go.Proofs.YthkeiclhllikjaaGreat
open Go.RowKit
structure Sound (K : WSem) : Prop where
 num : ∀ st x f, K.num st x = .error f → f ≠ 0
 byte : ∀ st x f, K.byte st x = .error f → f ≠ 0
 i64 : ∀ st x f, K.i64 st x = .error f → f ≠ 0
 u64 : ∀ st x f, K.u64 st x = .error f → f ≠ 0
 text : ∀ st x m f, K.text st x m = .error f → f ≠ 0
 count : ∀ st x m f, K.count st x m = .error f → f ≠ 0
section
variable {K : WSem} {s : K.σ × PMsg} {f : Int}
theorem st_num_ne (h : Sound K) {g : PMsg → Int} {u : PMsg → Int → PMsg} (he : st_num K g u s = .error f) : f ≠ 0 := by
 unfold st_num at he
 split at he
 ·cases he
 ·rename_i f' hx
  cases he
  exact h.num _ _ _ hx
theorem st_byte_ne (h : Sound K) {g : PMsg → Nat} {u : PMsg → Nat → PMsg} (he : st_byte K g u s = .error f) : f ≠ 0 := by
 unfold st_byte at he
 split at he
 ·cases he
 ·rename_i f' hx
  cases he
  exact h.byte _ _ _ hx
theorem st_i64_ne (h : Sound K) {g : PMsg → Int} {u : PMsg → Int → PMsg} (he : st_i64 K g u s = .error f) : f ≠ 0 := by
 unfold st_i64 at he
 split at he
 ·cases he
 ·rename_i f' hx
  cases he
  exact h.i64 _ _ _ hx
theorem st_u64_ne (h : Sound K) {g : PMsg → Nat} {u : PMsg → Nat → PMsg} (he : st_u64 K g u s = .error f) : f ≠ 0 := by
 unfold st_u64 at he
 split at he
 ·cases he
 ·rename_i f' hx
  cases he
  exact h.u64 _ _ _ hx
theorem st_text_ne (h : Sound K) {g : PMsg → ByteArray} {u : PMsg → ByteArray → PMsg} {m : Int} (he : st_text K g u m s = .error f) : f ≠ 0 := by
 unfold st_text at he
 split at he
 ·cases he
 ·rename_i f' hx
  cases he
  exact h.text _ _ _ _ hx
theorem loopM_ne (h : Sound K) : ∀ (xs : List Int) (st : K.σ), loopM K st xs = .error f → f ≠ 0
 | [], st, he => by simp [loopM] at he
 | x :: xs, st, he => by
  rw [loopM] at he
  split at he
  ·rename_i f' hx
   cases he
   exact h.num _ _ _ hx
  ·split at he
   ·rename_i hx
    cases he
    exact loopM_ne h xs _ hx
   ·cases he
theorem numsM_ne (h : Sound K) {st : K.σ} {l : List Int} {m : Int} (he : numsM K st l m = .error f) : f ≠ 0 := by
 unfold numsM at he
 split at he
 ·rename_i hx
  cases he
  exact h.count _ _ _ _ hx
 ·exact loopM_ne h _ _ he
theorem owner_ne (h : Sound K) (he : s_owner K s = .error f) : f ≠ 0 := by
 unfold s_owner at he
 split at he
 ·cases he
 ·rename_i hx
  cases he
  exact numsM_ne h hx
theorem set_ne (h : Sound K) (he : s_set K s = .error f) : f ≠ 0 := by
 unfold s_set at he
 split at he
 ·cases he
 ·rename_i hx
  cases he
  exact numsM_ne h hx
def Good (g : Stp K) : Prop := ∀ s f, g s = .error f → f ≠ 0
theorem runS_ne : ∀ (fs : List (Stp K)), (∀ g ∈ fs, Good g) → ∀ s f, runS K fs s = .error f → f ≠ 0
 | [], _, s, f, he => by cases he
 | g :: fs, hg, s, f, he => by
  rw [runS] at he
  cases hc : g s with
  | error e =>
   rw [hc] at he
   cases he
   exact hg g (by simp) s _ hc
  | ok s1 =>
   rw [hc] at he
   exact runS_ne fs (fun g' hg' => hg g' (List.mem_cons_of_mem _ hg')) s1 f he
theorem walkS_good (h : Sound K) (c : Nat) : ∀ g ∈ walkS K c, Good g := by
 have g_kind : Good (s_kind K) := fun s f he => st_byte_ne h he
 have g_move : Good (s_move K) := fun s f he => st_num_ne h he
 have g_part : Good (s_part K) := fun s f he => st_num_ne h he
 have g_to : Good (s_to K) := fun s f he => st_num_ne h he
 have g_n : Good (s_n K) := fun s f he => st_num_ne h he
 have g_count : Good (s_count K) := fun s f he => st_num_ne h he
 have g_code : Good (s_code K) := fun s f he => st_num_ne h he
 have g_digest : Good (s_digest K) := fun s f he => st_u64_ne h he
 have g_at_ : Good (s_at_ K) := fun s f he => st_i64_ne h he
 have g_isrc : Good (s_isrc K) := fun s f he => st_num_ne h he
 have g_iseq : Good (s_iseq K) := fun s f he => st_num_ne h he
 have g_ilow : Good (s_ilow K) := fun s f he => st_num_ne h he
 have g_ikind : Good (s_ikind K) := fun s f he => st_byte_ne h he
 have g_ikey : Good (s_ikey K) := fun s f he => st_text_ne h he
 have g_ipart : Good (s_ipart K) := fun s f he => st_num_ne h he
 have g_iat : Good (s_iat K) := fun s f he => st_i64_ne h he
 have g_iN : Good (s_iN K) := fun s f he => st_i64_ne h he
 have g_epoch : Good (s_epoch K) := fun s f he => st_num_ne h he
 have g_nodes : Good (s_nodes K) := fun s f he => st_num_ne h he
 have g_data : Good (s_data K) := fun s f he => st_text_ne h he
 have g_owner : Good (s_owner K) := fun s f he => owner_ne h he
 have g_set : Good (s_set K) := fun s f he => set_ne h he
 unfold walkS
 split <;> (intro g hg; simp only [itemS, tableS, List.mem_cons, List.not_mem_nil, or_false] at hg; repeat' (first | exact absurd hg id | (rcases hg with rfl | hg; (first | exact g_kind | exact g_move | exact g_part | exact g_to | exact g_n | exact g_count | exact g_code | exact g_digest | exact g_at_ | exact g_isrc | exact g_iseq | exact g_ilow | exact g_ikind | exact g_ikey | exact g_ipart | exact g_iat | exact g_iN | exact g_epoch | exact g_nodes | exact g_data | exact g_owner | exact g_set)) | (subst hg; first | exact g_kind | exact g_move | exact g_part | exact g_to | exact g_n | exact g_count | exact g_code | exact g_digest | exact g_at_ | exact g_isrc | exact g_iseq | exact g_ilow | exact g_ikind | exact g_ikey | exact g_ipart | exact g_iat | exact g_iN | exact g_epoch | exact g_nodes | exact g_data | exact g_owner | exact g_set)))
theorem walkM_ne (h : Sound K) (he : walkM K s = .error f) : f ≠ 0 := by
 unfold walkM at he
 split at he
 ·rename_i hx
  cases he
  exact st_byte_ne h hx
 ·split at he
  ·exact runS_ne _ (walkS_good h _) _ _ he
  ·cases he; decide
end
theorem rd_ne {l : List Nat} {e : Int} (h : rd 0 0 l = .error e) : e ≠ 0 := by
 rcases rd_gv l 0 0 (by decide) with ⟨v, z, h1, _⟩ | ⟨h1, _⟩ | ⟨h1, _⟩
 ·rw [h1] at h; cases h
 ·rw [h1] at h; cases h; decide
 ·rw [h1] at h; cases h; decide
theorem mostR_ne {s : ByteArray} {n m : Nat} {e : Int} (h : mostR s n m = .error e) : e ≠ 0 := by
 unfold mostR at h
 split at h
 ·rename_i hx; cases h; exact rd_ne hx
 ·split at h
  ·cases h
  ·cases h; decide
theorem numR_ne {s : ByteArray} {n : Nat} {e : Int} (h : numR s n = .error e) : e ≠ 0 := by
 unfold numR at h
 split at h
 ·rename_i hx; cases h; exact rd_ne hx
 ·cases h
theorem rSound (b : ByteArray) : Sound (rSem b) where
 num := fun (st : Nat) x f h => by
  change rNum b st = _ at h
  unfold rNum at h
  split at h
  ·rename_i hx; cases h; exact mostR_ne hx
  ·cases h
 byte := fun (st : Nat) x f h => by
  change rByte b st = _ at h
  unfold rByte at h
  split at h
  ·cases h
  ·cases h; decide
 i64 := fun (st : Nat) x f h => by
  change rI64 b st = _ at h
  unfold rI64 at h
  split at h
  ·rename_i hx; cases h; exact numR_ne hx
  ·cases h
 u64 := fun (st : Nat) x f h => by
  change numR b st = _ at h
  exact numR_ne h
 text := fun (st : Nat) x m f h => by
  change textR b st m.toNat = _ at h
  unfold textR at h
  split at h
  ·rename_i hx; cases h; exact mostR_ne hx
  ·split at h
   ·cases h
   ·cases h; decide
 count := fun (st : Nat) x m f h => by
  change rCount b st m = _ at h
  unfold rCount at h
  split at h
  ·rename_i hx; cases h; exact mostR_ne hx
  ·cases h
theorem wSound : Sound wSem where
 num := fun (st : List Nat) x f h => by
  change wNum st x = _ at h
  unfold wNum at h
  split at h
  ·cases h
  ·cases h; decide
 byte := fun (st : List Nat) x f h => by cases h
 i64 := fun (st : List Nat) x f h => by cases h
 u64 := fun (st : List Nat) x f h => by cases h
 text := fun (st : List Nat) x m f h => by
  change wText st x m = _ at h
  unfold wText at h
  split at h
  ·cases h
  ·cases h; decide
 count := fun (st : List Nat) x m f h => by
  change wCount st x m = _ at h
  unfold wCount at h
  split at h
  ·cases h
  ·cases h; decide
end Go.Proofs.YthkeiclhllikjaaGreat
/-
 What stays true over a walk: the writer writes bytes; the lists that the reader reads are short.
-/
namespace Go.Proofs.YthkeiclhllikjaaGreat
open Go.RowKit
section
variable {K : WSem}
def Keeps (P : K.σ × PMsg → Prop) (g : Stp K) : Prop := ∀ s s', P s → g s = .ok s' → P s'
theorem runS_keeps (P : K.σ × PMsg → Prop) : ∀ (fs : List (Stp K)), (∀ g ∈ fs, Keeps P g) → ∀ s s', P s → runS K fs s = .ok s' → P s'
 | [], _, s, s', hp, h => by cases h; exact hp
 | g :: fs, hg, s, s', hp, h => by
  rw [runS] at h
  cases hc : g s with
  | error e => rw [hc] at h; cases h
  | ok s1 =>
   rw [hc] at h
   exact runS_keeps P fs (fun g' hg' => hg g' (List.mem_cons_of_mem _ hg')) s1 s' (hg g (by simp) s s1 hp hc) h
theorem walkM_keeps (P : K.σ × PMsg → Prop)
  (g_kind : Keeps P (s_kind K))
  (g_move : Keeps P (s_move K))
  (g_part : Keeps P (s_part K))
  (g_to : Keeps P (s_to K))
  (g_n : Keeps P (s_n K))
  (g_count : Keeps P (s_count K))
  (g_code : Keeps P (s_code K))
  (g_digest : Keeps P (s_digest K))
  (g_at_ : Keeps P (s_at_ K))
  (g_isrc : Keeps P (s_isrc K))
  (g_iseq : Keeps P (s_iseq K))
  (g_ilow : Keeps P (s_ilow K))
  (g_ikind : Keeps P (s_ikind K))
  (g_ikey : Keeps P (s_ikey K))
  (g_ipart : Keeps P (s_ipart K))
  (g_iat : Keeps P (s_iat K))
  (g_iN : Keeps P (s_iN K))
  (g_epoch : Keeps P (s_epoch K))
  (g_nodes : Keeps P (s_nodes K))
  (g_data : Keeps P (s_data K))
  (g_owner : Keeps P (s_owner K))
  (g_set : Keeps P (s_set K))
  {s s' : K.σ × PMsg} (hp : P s) (h : walkM K s = .ok s') : P s' := by
 unfold walkM at h
 split at h
 ·cases h
 ·rename_i s1 hx
  have h1 := g_kind s s1 hp hx
  split at h
  ·refine runS_keeps P _ ?_ s1 s' h1 h
   unfold walkS
   split <;> (intro g hg; simp only [itemS, tableS, List.mem_cons, List.not_mem_nil, or_false] at hg; repeat' (first | exact absurd hg id | (rcases hg with rfl | hg; (first | exact g_kind | exact g_move | exact g_part | exact g_to | exact g_n | exact g_count | exact g_code | exact g_digest | exact g_at_ | exact g_isrc | exact g_iseq | exact g_ilow | exact g_ikind | exact g_ikey | exact g_ipart | exact g_iat | exact g_iN | exact g_epoch | exact g_nodes | exact g_data | exact g_owner | exact g_set)) | (subst hg; first | exact g_kind | exact g_move | exact g_part | exact g_to | exact g_n | exact g_count | exact g_code | exact g_digest | exact g_at_ | exact g_isrc | exact g_iseq | exact g_ilow | exact g_ikind | exact g_ikey | exact g_ipart | exact g_iat | exact g_iN | exact g_epoch | exact g_nodes | exact g_data | exact g_owner | exact g_set)))
  ·cases h
end
theorem vbytes_lt (n : Nat) : ∀ x, x < 128 ^ (n + 1) → ∀ b ∈ vbytes x, b < 256 := by
 induction n with
 | zero =>
  intro x hx b hb
  have h128 : x < 128 := by simpa using hx
  rw [vbytes_small h128] at hb
  simp at hb
  omega
 | succ n ih =>
  intro x hx b hb
  by_cases h : x < 128
  ·rw [vbytes_small h] at hb
   simp at hb; omega
  ·rw [vbytes_big (by omega)] at hb
   rcases List.mem_cons.1 hb with rfl | hb
   ·omega
   ·exact ih (x / 128) (by rw [Nat.div_lt_iff_lt_mul (by decide)]; rw [Nat.pow_succ] at hx; exact hx) b hb
theorem vbytes_all {x : Nat} : ∀ b ∈ vbytes x, b < 256 := by
 intro b hb
 refine vbytes_lt x x ?_ b hb
 have : x < 2 ^ x := Nat.lt_two_pow_self
 calc x < 2 ^ x := this
  _ ≤ 128 ^ x := Nat.pow_le_pow_left (by decide) x
  _ ≤ 128 ^ (x + 1) := Nat.pow_le_pow_right (by decide) (by omega)
theorem bytesOf_all {s : ByteArray} : ∀ b ∈ bytesOf s, b < 256 := by
 intro b hb
 obtain ⟨u, _, rfl⟩ := List.mem_map.1 hb
 exact UInt8.toNat_lt _
def AllB (s : List Nat × PMsg) : Prop := (∀ b ∈ s.1, b < 256) ∧ s.2.kind < 256 ∧ s.2.ikind < 256
theorem allB_app {xs ys : List Nat} (h1 : ∀ b ∈ xs, b < 256) (h2 : ∀ b ∈ ys, b < 256) : ∀ b ∈ xs ++ ys, b < 256 := fun b hb => (List.mem_append.1 hb).elim (h1 b) (h2 b)
theorem wNum_ok {xs ys : List Nat} {n v : Int} (h : wNum xs n = .ok (v, ys)) : v = n ∧ 0 ≤ n ∧ n ≤ 2147483647 ∧ ys = xs ++ vbytes n.toNat := by
 unfold wNum at h
 split at h
 ·rename_i hx; cases h; exact ⟨rfl, hx.1, hx.2, rfl⟩
 ·cases h
theorem wText_ok {xs ys : List Nat} {s v : ByteArray} {m : Int} (h : wText xs s m = .ok (v, ys)) : v = s ∧ (s.size : Int) ≤ m ∧ ys = xs ++ vbytes s.size ++ bytesOf s := by
 unfold wText at h
 split at h
 ·rename_i hx; cases h; exact ⟨rfl, hx, rfl⟩
 ·cases h
theorem wCount_ok {xs ys : List Nat} {n v m : Int} (h : wCount xs n m = .ok (v, ys)) : v = n ∧ n ≤ m ∧ ys = xs ++ vbytes n.toNat := by
 unfold wCount at h
 split at h
 ·rename_i hx; cases h; exact ⟨rfl, hx, rfl⟩
 ·cases h
theorem st_num_allB {g : PMsg → Int} {u : PMsg → Int → PMsg} (hu : ∀ m v, (u m v).kind = m.kind ∧ (u m v).ikind = m.ikind) : Keeps (K := wSem) AllB (st_num wSem g u) := by
 rintro ⟨(xs : List Nat), m0⟩ ⟨(ys : List Nat), m1⟩ ⟨h1, h2, h3⟩ h
 unfold st_num at h
 split at h
 rotate_left
 ·cases h
 rename_i x hx
 obtain ⟨v, (zs : List Nat)⟩ := x
 cases h
 obtain ⟨rfl, _, _, rfl⟩ := wNum_ok (hx : wNum xs _ = _)
 exact ⟨allB_app h1 vbytes_all, by rw [(hu _ _).1]; exact h2, by rw [(hu _ _).2]; exact h3⟩
theorem st_byte_allB {g : PMsg → Nat} {u : PMsg → Nat → PMsg} (hg : ∀ m : PMsg, m.kind < 256 → m.ikind < 256 → g m < 256) (hu : ∀ m : PMsg, m.kind < 256 → m.ikind < 256 → (u m (g m)).kind < 256 ∧ (u m (g m)).ikind < 256) : Keeps (K := wSem) AllB (st_byte wSem g u) := by
 rintro ⟨(xs : List Nat), m0⟩ ⟨(ys : List Nat), m1⟩ ⟨h1, h2, h3⟩ h
 unfold st_byte at h
 split at h
 rotate_left
 ·cases h
 rename_i x hx
 obtain ⟨v, (zs : List Nat)⟩ := x
 cases h
 cases hx
 exact ⟨allB_app h1 (by simp; exact hg m0 h2 h3), (hu m0 h2 h3).1, (hu m0 h2 h3).2⟩
theorem st_i64_allB {g : PMsg → Int} {u : PMsg → Int → PMsg} (hu : ∀ m v, (u m v).kind = m.kind ∧ (u m v).ikind = m.ikind) : Keeps (K := wSem) AllB (st_i64 wSem g u) := by
 rintro ⟨(xs : List Nat), m0⟩ ⟨(ys : List Nat), m1⟩ ⟨h1, h2, h3⟩ h
 unfold st_i64 at h
 split at h
 rotate_left
 ·cases h
 rename_i x hx
 obtain ⟨v, (zs : List Nat)⟩ := x
 cases h
 cases hx
 exact ⟨allB_app h1 vbytes_all, by rw [(hu _ _).1]; exact h2, by rw [(hu _ _).2]; exact h3⟩
theorem st_u64_allB {g : PMsg → Nat} {u : PMsg → Nat → PMsg} (hu : ∀ m v, (u m v).kind = m.kind ∧ (u m v).ikind = m.ikind) : Keeps (K := wSem) AllB (st_u64 wSem g u) := by
 rintro ⟨(xs : List Nat), m0⟩ ⟨(ys : List Nat), m1⟩ ⟨h1, h2, h3⟩ h
 unfold st_u64 at h
 split at h
 rotate_left
 ·cases h
 rename_i x hx
 obtain ⟨v, (zs : List Nat)⟩ := x
 cases h
 cases hx
 exact ⟨allB_app h1 vbytes_all, by rw [(hu _ _).1]; exact h2, by rw [(hu _ _).2]; exact h3⟩
theorem st_text_allB {g : PMsg → ByteArray} {u : PMsg → ByteArray → PMsg} {m : Int} (hu : ∀ m v, (u m v).kind = m.kind ∧ (u m v).ikind = m.ikind) : Keeps (K := wSem) AllB (st_text wSem g u m) := by
 rintro ⟨(xs : List Nat), m0⟩ ⟨(ys : List Nat), m1⟩ ⟨h1, h2, h3⟩ h
 unfold st_text at h
 split at h
 rotate_left
 ·cases h
 rename_i x hx
 obtain ⟨v, (zs : List Nat)⟩ := x
 cases h
 obtain ⟨rfl, _, rfl⟩ := wText_ok (hx : wText xs _ _ = _)
 exact ⟨allB_app (allB_app h1 vbytes_all) bytesOf_all, by rw [(hu _ _).1]; exact h2, by rw [(hu _ _).2]; exact h3⟩
def All256 (xs : List Nat) : Prop := ∀ b ∈ xs, b < 256
theorem loop_allB : ∀ (l : List Int) (xs ys : wSem.σ) (vs : List Int), All256 xs → loopM wSem xs l = .ok (vs, ys) → All256 ys
 | [], xs, ys, vs, h1, h => by cases h; exact h1
 | x :: l, xs, ys, vs, h1, h => by
  rw [loopM] at h
  split at h
  ·cases h
  ·rename_i v st' hx
   obtain ⟨_, _, _, (rfl : (st' : List Nat) = _)⟩ := wNum_ok (hx : wNum xs _ = _)
   split at h
   ·cases h
   ·rename_i hy
    cases h
    exact loop_allB l _ ys _ (allB_app h1 vbytes_all) hy
theorem nums_allB {l vs : List Int} {xs ys : List Nat} {m : Int} (h1 : ∀ b ∈ xs, b < 256) (h : (numsM wSem xs l m : Except Int (List Int × List Nat)) = .ok (vs, ys)) : ∀ b ∈ ys, b < 256 := by
 unfold numsM at h
 split at h
 ·cases h
 ·rename_i v st' hx
  obtain ⟨_, _, (rfl : (st' : List Nat) = _)⟩ := wCount_ok (hx : wCount xs _ _ = _)
  exact loop_allB _ _ _ _ (allB_app h1 vbytes_all) h
theorem owner_allB : Keeps (K := wSem) AllB (s_owner wSem) := by
 rintro ⟨(xs : List Nat), m0⟩ ⟨(ys : List Nat), m1⟩ ⟨h1, h2, h3⟩ h
 unfold s_owner at h
 split at h
 ·rename_i x hx
  obtain ⟨v, (zs : List Nat)⟩ := x
  cases h
  exact ⟨nums_allB h1 hx, h2, h3⟩
 ·cases h
theorem set_allB : Keeps (K := wSem) AllB (s_set wSem) := by
 rintro ⟨(xs : List Nat), m0⟩ ⟨(ys : List Nat), m1⟩ ⟨h1, h2, h3⟩ h
 unfold s_set at h
 split at h
 ·rename_i x hx
  obtain ⟨v, (zs : List Nat)⟩ := x
  cases h
  exact ⟨nums_allB h1 hx, h2, h3⟩
 ·cases h
theorem walk_allB {m : PMsg} {xs : List Nat} {m' : PMsg} (hk : m.kind < 256) (hi : m.ikind < 256) (h : (walkM wSem (([] : List Nat), m) : Except Int (List Nat × PMsg)) = .ok (xs, m')) : ∀ b ∈ xs, b < 256 :=
 (walkM_keeps (K := wSem) AllB
  (st_byte_allB (fun m h _ => h) (fun m h h' => ⟨h, h'⟩))
  (st_num_allB fun m v => ⟨rfl, rfl⟩)
  (st_num_allB fun m v => ⟨rfl, rfl⟩)
  (st_num_allB fun m v => ⟨rfl, rfl⟩)
  (st_num_allB fun m v => ⟨rfl, rfl⟩)
  (st_num_allB fun m v => ⟨rfl, rfl⟩)
  (st_num_allB fun m v => ⟨rfl, rfl⟩)
  (st_u64_allB fun m v => ⟨rfl, rfl⟩)
  (st_i64_allB fun m v => ⟨rfl, rfl⟩)
  (st_num_allB fun m v => ⟨rfl, rfl⟩)
  (st_num_allB fun m v => ⟨rfl, rfl⟩)
  (st_num_allB fun m v => ⟨rfl, rfl⟩)
  (st_byte_allB (fun m _ h => h) (fun m h h' => ⟨h, h'⟩))
  (st_text_allB fun m v => ⟨rfl, rfl⟩)
  (st_num_allB fun m v => ⟨rfl, rfl⟩)
  (st_i64_allB fun m v => ⟨rfl, rfl⟩)
  (st_i64_allB fun m v => ⟨rfl, rfl⟩)
  (st_num_allB fun m v => ⟨rfl, rfl⟩)
  (st_num_allB fun m v => ⟨rfl, rfl⟩)
  (st_text_allB fun m v => ⟨rfl, rfl⟩)
  owner_allB set_allB (s := (([] : List Nat), m)) (s' := (xs, m')) ⟨(by intro b hb; cases hb), hk, hi⟩ h).1
def Short (s : Nat × PMsg) : Prop := s.2.owner.length ≤ 1024 ∧ s.2.set.length ≤ 1024
theorem st_num_short {b : ByteArray} {g : PMsg → Int} {u : PMsg → Int → PMsg} (hu : ∀ m v, (u m v).owner = m.owner ∧ (u m v).set = m.set) : Keeps (K := rSem b) Short (st_num (rSem b) g u) := by
 rintro ⟨(xs : Nat), m0⟩ ⟨(ys : Nat), m1⟩ ⟨h1, h2⟩ h
 unfold st_num at h
 split at h
 ·cases h
  exact ⟨by simp only [(hu _ _).1]; exact h1, by simp only [(hu _ _).2]; exact h2⟩
 ·cases h
theorem st_byte_short {b : ByteArray} {g : PMsg → Nat} {u : PMsg → Nat → PMsg} (hu : ∀ m v, (u m v).owner = m.owner ∧ (u m v).set = m.set) : Keeps (K := rSem b) Short (st_byte (rSem b) g u) := by
 rintro ⟨(xs : Nat), m0⟩ ⟨(ys : Nat), m1⟩ ⟨h1, h2⟩ h
 unfold st_byte at h
 split at h
 ·cases h
  exact ⟨by simp only [(hu _ _).1]; exact h1, by simp only [(hu _ _).2]; exact h2⟩
 ·cases h
theorem st_i64_short {b : ByteArray} {g : PMsg → Int} {u : PMsg → Int → PMsg} (hu : ∀ m v, (u m v).owner = m.owner ∧ (u m v).set = m.set) : Keeps (K := rSem b) Short (st_i64 (rSem b) g u) := by
 rintro ⟨(xs : Nat), m0⟩ ⟨(ys : Nat), m1⟩ ⟨h1, h2⟩ h
 unfold st_i64 at h
 split at h
 ·cases h
  exact ⟨by simp only [(hu _ _).1]; exact h1, by simp only [(hu _ _).2]; exact h2⟩
 ·cases h
theorem st_u64_short {b : ByteArray} {g : PMsg → Nat} {u : PMsg → Nat → PMsg} (hu : ∀ m v, (u m v).owner = m.owner ∧ (u m v).set = m.set) : Keeps (K := rSem b) Short (st_u64 (rSem b) g u) := by
 rintro ⟨(xs : Nat), m0⟩ ⟨(ys : Nat), m1⟩ ⟨h1, h2⟩ h
 unfold st_u64 at h
 split at h
 ·cases h
  exact ⟨by simp only [(hu _ _).1]; exact h1, by simp only [(hu _ _).2]; exact h2⟩
 ·cases h
theorem st_text_short {b : ByteArray} {g : PMsg → ByteArray} {u : PMsg → ByteArray → PMsg} {m : Int} (hu : ∀ m v, (u m v).owner = m.owner ∧ (u m v).set = m.set) : Keeps (K := rSem b) Short (st_text (rSem b) g u m) := by
 rintro ⟨(xs : Nat), m0⟩ ⟨(ys : Nat), m1⟩ ⟨h1, h2⟩ h
 unfold st_text at h
 split at h
 ·cases h
  exact ⟨by simp only [(hu _ _).1]; exact h1, by simp only [(hu _ _).2]; exact h2⟩
 ·cases h
theorem loop_len {K : WSem} : ∀ (l : List Int) (st st' : K.σ) (vs : List Int), loopM K st l = .ok (vs, st') → vs.length = l.length
 | [], st, st', vs, h => by cases h; rfl
 | x :: l, st, st', vs, h => by
  rw [loopM] at h
  split at h
  ·cases h
  ·split at h
   ·cases h
   ·rename_i hy
    cases h
    simp [loop_len l _ _ _ hy]
theorem nums_short {b : ByteArray} {l vs : List Int} {st st' : Nat} {m : Int} (hm : 0 ≤ m) (hm2 : m ≤ 1024) (h : (numsM (rSem b) st l m : Except Int (List Int × Nat)) = .ok (vs, st')) : vs.length ≤ 1024 := by
 unfold numsM at h
 split at h
 ·cases h
 ·rename_i v st2 hx
  have hl := loop_len _ _ _ _ h
  change rCount b st m = _ at hx
  unfold rCount at hx
  split at hx
  ·cases hx
  ·rename_i v' n' hy
   cases hx
   unfold mostR at hy
   split at hy
   ·cases hy
   ·split at hy
    ·cases hy
     rw [hl]
     simp
     omega
    ·cases hy
theorem owner_short {b : ByteArray} : Keeps (K := rSem b) Short (s_owner (rSem b)) := by
 rintro ⟨(xs : Nat), m0⟩ ⟨(ys : Nat), m1⟩ ⟨h1, h2⟩ h
 unfold s_owner at h
 split at h
 ·rename_i x hx
  obtain ⟨v, (zs : Nat)⟩ := x
  cases h
  exact ⟨nums_short (by decide) (by decide) hx, h2⟩
 ·cases h
theorem set_short {b : ByteArray} : Keeps (K := rSem b) Short (s_set (rSem b)) := by
 rintro ⟨(xs : Nat), m0⟩ ⟨(ys : Nat), m1⟩ ⟨h1, h2⟩ h
 unfold s_set at h
 split at h
 ·rename_i x hx
  obtain ⟨v, (zs : Nat)⟩ := x
  cases h
  exact ⟨h1, nums_short (by decide) (by decide) hx⟩
 ·cases h
theorem walk_short {b : ByteArray} {m m' : PMsg} {n n' : Nat} (ho : m.owner.length ≤ 1024) (hs : m.set.length ≤ 1024) (h : (walkM (rSem b) (n, m) : Except Int (Nat × PMsg)) = .ok (n', m')) : m'.owner.length ≤ 1024 ∧ m'.set.length ≤ 1024 :=
 walkM_keeps (K := rSem b) Short
  (st_byte_short fun m v => ⟨rfl, rfl⟩)
  (st_num_short fun m v => ⟨rfl, rfl⟩)
  (st_num_short fun m v => ⟨rfl, rfl⟩)
  (st_num_short fun m v => ⟨rfl, rfl⟩)
  (st_num_short fun m v => ⟨rfl, rfl⟩)
  (st_num_short fun m v => ⟨rfl, rfl⟩)
  (st_num_short fun m v => ⟨rfl, rfl⟩)
  (st_u64_short fun m v => ⟨rfl, rfl⟩)
  (st_i64_short fun m v => ⟨rfl, rfl⟩)
  (st_num_short fun m v => ⟨rfl, rfl⟩)
  (st_num_short fun m v => ⟨rfl, rfl⟩)
  (st_num_short fun m v => ⟨rfl, rfl⟩)
  (st_byte_short fun m v => ⟨rfl, rfl⟩)
  (st_text_short fun m v => ⟨rfl, rfl⟩)
  (st_num_short fun m v => ⟨rfl, rfl⟩)
  (st_i64_short fun m v => ⟨rfl, rfl⟩)
  (st_i64_short fun m v => ⟨rfl, rfl⟩)
  (st_num_short fun m v => ⟨rfl, rfl⟩)
  (st_num_short fun m v => ⟨rfl, rfl⟩)
  (st_text_short fun m v => ⟨rfl, rfl⟩)
  owner_short set_short (s := (n, m)) (s' := (n', m')) ⟨ho, hs⟩ h
end Go.Proofs.YthkeiclhllikjaaGreat
