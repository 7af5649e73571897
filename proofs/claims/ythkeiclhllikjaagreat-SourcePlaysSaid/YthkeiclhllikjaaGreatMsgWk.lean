/-
  A walker, whichever: what its methods say. A message as plain data, its cells; a field's step.
-/
import Derived.Test.YthkeiclhllikjaaGreatMsgW
set_option linter.unusedSimpArgs false
set_option linter.unusedVariables false
namespace Go.Proofs.YthkeiclhllikjaaGreat
open Go.RowKit
structure PMsg where
 kind : Nat
 move : Int
 part : Int
 to : Int
 n : Int
 count : Int
 code : Int
 digest : Nat
 at_ : Int
 isrc : Int
 iseq : Int
 ilow : Int
 ikind : Nat
 ikey : ByteArray
 ipart : Int
 iat : Int
 iN : Int
 epoch : Int
 nodes : Int
 owner : List Int
 set : List Int
 data : ByteArray
def mcells (m : PMsg) (vo vs : Value) : Array Value :=
 #[.int .u8 m.kind, .int .i64 m.move, .int .i64 m.part, .int .i64 m.to, .int .i64 m.n, .int .i64 m.count, .int .i64 m.code, .int .u64 m.digest, .int .i64 m.at_,
  .int .i64 m.isrc, .int .i64 m.iseq, .int .i64 m.ilow, .int .u8 m.ikind, .string m.ikey, .int .i64 m.ipart, .int .i64 m.iat, .int .i64 m.iN,
  .int .i64 m.epoch, .int .i64 m.nodes, vo, vs, .string m.data]
structure PMsg.Fits (m : PMsg) : Prop where
 digest : m.digest < 18446744073709551616
 at0 : -9223372036854775808 ≤ m.at_
 at1 : m.at_ < 9223372036854775808
 iat0 : -9223372036854775808 ≤ m.iat
 iat1 : m.iat < 9223372036854775808
 iN0 : -9223372036854775808 ≤ m.iN
 iN1 : m.iN < 9223372036854775808
 key : m.ikey.size < 140737488351233
 data : m.data.size < 140737488351233
def Said {X : Type} (r : Except Int X) (ok : X → Prop) (bad : Int → Prop) : Prop :=
 match r with
 | .ok x => ok x
 | .error f => bad f
structure WSem where
 σ : Type
 num : σ → Int → Except Int (Int × σ)
 byte : σ → Nat → Except Int (Nat × σ)
 i64 : σ → Int → Except Int (Int × σ)
 u64 : σ → Nat → Except Int (Nat × σ)
 text : σ → ByteArray → Int → Except Int (ByteArray × σ)
 count : σ → Int → Int → Except Int (Int × σ)
structure Wkr extends WSem where
 T : Nat
 r : Nat
 rep : Nat → σ → List Blk → Prop
 rep_le : ∀ {j k : Nat} {st : σ} {B : List Blk}, j ≤ k → rep k st B → rep j st B
 fnum : Nat
 n_num : ∀ w : World, (nilAhead 320 T (.pointer (some ⟨r, 0, none⟩)) "meter/msg.num").run Tryz.prog w = .ok (some false) w
 m_num : ∀ w : World, (method 320 T (.pointer (some ⟨r, 0, none⟩)) "meter/msg.num").run Tryz.prog w = .ok (fnum, .pointer (some ⟨r, 0, none⟩)) w
 e_num : ∀ (args : Array Value) (w : World), (callFunc fnum args).run Tryz.prog w = .ok (.enter fnum args) w
 fbyte : Nat
 n_byte : ∀ w : World, (nilAhead 320 T (.pointer (some ⟨r, 0, none⟩)) "meter/msg.byte").run Tryz.prog w = .ok (some false) w
 m_byte : ∀ w : World, (method 320 T (.pointer (some ⟨r, 0, none⟩)) "meter/msg.byte").run Tryz.prog w = .ok (fbyte, .pointer (some ⟨r, 0, none⟩)) w
 e_byte : ∀ (args : Array Value) (w : World), (callFunc fbyte args).run Tryz.prog w = .ok (.enter fbyte args) w
 fi64 : Nat
 n_i64 : ∀ w : World, (nilAhead 320 T (.pointer (some ⟨r, 0, none⟩)) "meter/msg.i64").run Tryz.prog w = .ok (some false) w
 m_i64 : ∀ w : World, (method 320 T (.pointer (some ⟨r, 0, none⟩)) "meter/msg.i64").run Tryz.prog w = .ok (fi64, .pointer (some ⟨r, 0, none⟩)) w
 e_i64 : ∀ (args : Array Value) (w : World), (callFunc fi64 args).run Tryz.prog w = .ok (.enter fi64 args) w
 fu64 : Nat
 n_u64 : ∀ w : World, (nilAhead 320 T (.pointer (some ⟨r, 0, none⟩)) "meter/msg.u64").run Tryz.prog w = .ok (some false) w
 m_u64 : ∀ w : World, (method 320 T (.pointer (some ⟨r, 0, none⟩)) "meter/msg.u64").run Tryz.prog w = .ok (fu64, .pointer (some ⟨r, 0, none⟩)) w
 e_u64 : ∀ (args : Array Value) (w : World), (callFunc fu64 args).run Tryz.prog w = .ok (.enter fu64 args) w
 ftext : Nat
 n_text : ∀ w : World, (nilAhead 320 T (.pointer (some ⟨r, 0, none⟩)) "meter/msg.text").run Tryz.prog w = .ok (some false) w
 m_text : ∀ w : World, (method 320 T (.pointer (some ⟨r, 0, none⟩)) "meter/msg.text").run Tryz.prog w = .ok (ftext, .pointer (some ⟨r, 0, none⟩)) w
 e_text : ∀ (args : Array Value) (w : World), (callFunc ftext args).run Tryz.prog w = .ok (.enter ftext args) w
 fcount : Nat
 n_count : ∀ w : World, (nilAhead 320 T (.pointer (some ⟨r, 0, none⟩)) "meter/msg.count").run Tryz.prog w = .ok (some false) w
 m_count : ∀ w : World, (method 320 T (.pointer (some ⟨r, 0, none⟩)) "meter/msg.count").run Tryz.prog w = .ok (fcount, .pointer (some ⟨r, 0, none⟩)) w
 e_count : ∀ (args : Array Value) (w : World), (callFunc fcount args).run Tryz.prog w = .ok (.enter fcount args) w
 c_num : ∀ {w0 W : World} {L B : List Blk} {st : σ} {k p i : Nat} {A : Array Value} {t : TypeId} {old : Int}, rep (k + 1) st B → Live w0 (B ++ (p, A, t) :: L) W → A[i]? = some (.int .i64 old) → 
  Calls Tryz.prog fnum #[.pointer (some ⟨r, 0, none⟩), .pointer (some ⟨p, i, none⟩)] W fun e W' =>
   Said (num st old) (fun x => e = .returned (.tuple #[]) ∧ ∃ B', rep k x.2 B' ∧ Live w0 (B' ++ (p, A.setIfInBounds i (.int .i64 x.1), t) :: L) W') (fun f => e = gave f ∧ Live w0 L W')
 c_byte : ∀ {w0 W : World} {L B : List Blk} {st : σ} {k p i : Nat} {A : Array Value} {t : TypeId} {old : Nat}, rep (k + 1) st B → Live w0 (B ++ (p, A, t) :: L) W → A[i]? = some (.int .u8 (old : Nat)) → 
  Calls Tryz.prog fbyte #[.pointer (some ⟨r, 0, none⟩), .pointer (some ⟨p, i, none⟩)] W fun e W' =>
   Said (byte st old) (fun x => e = .returned (.tuple #[]) ∧ ∃ B', rep k x.2 B' ∧ Live w0 (B' ++ (p, A.setIfInBounds i (.int .u8 (x.1 : Nat)), t) :: L) W') (fun f => e = gave f ∧ Live w0 L W')
 c_i64 : ∀ {w0 W : World} {L B : List Blk} {st : σ} {k p i : Nat} {A : Array Value} {t : TypeId} {old : Int}, rep (k + 1) st B → Live w0 (B ++ (p, A, t) :: L) W → A[i]? = some (.int .i64 old) → -9223372036854775808 ≤ old → old < 9223372036854775808 → 
  Calls Tryz.prog fi64 #[.pointer (some ⟨r, 0, none⟩), .pointer (some ⟨p, i, none⟩)] W fun e W' =>
   Said (i64 st old) (fun x => e = .returned (.tuple #[]) ∧ ∃ B', rep k x.2 B' ∧ Live w0 (B' ++ (p, A.setIfInBounds i (.int .i64 x.1), t) :: L) W') (fun f => e = gave f ∧ Live w0 L W')
 c_u64 : ∀ {w0 W : World} {L B : List Blk} {st : σ} {k p i : Nat} {A : Array Value} {t : TypeId} {old : Nat}, rep (k + 1) st B → Live w0 (B ++ (p, A, t) :: L) W → A[i]? = some (.int .u64 (old : Nat)) → old < 18446744073709551616 → 
  Calls Tryz.prog fu64 #[.pointer (some ⟨r, 0, none⟩), .pointer (some ⟨p, i, none⟩)] W fun e W' =>
   Said (u64 st old) (fun x => e = .returned (.tuple #[]) ∧ ∃ B', rep k x.2 B' ∧ Live w0 (B' ++ (p, A.setIfInBounds i (.int .u64 (x.1 : Nat)), t) :: L) W') (fun f => e = gave f ∧ Live w0 L W')
 c_text : ∀ {w0 W : World} {L B : List Blk} {st : σ} {k p i : Nat} {A : Array Value} {t : TypeId} {old : ByteArray} {most : Int}, rep (k + 1) st B → Live w0 (B ++ (p, A, t) :: L) W → A[i]? = some (.string old) → old.size < 140737488351233 → 0 ≤ most → most ≤ 1024 → 
  Calls Tryz.prog ftext #[.pointer (some ⟨r, 0, none⟩), .pointer (some ⟨p, i, none⟩), .int .i64 most] W fun e W' =>
   Said (text st old most) (fun x => e = .returned (.tuple #[]) ∧ ∃ B', rep k x.2 B' ∧ Live w0 (B' ++ (p, A.setIfInBounds i (.string x.1), t) :: L) W') (fun f => e = gave f ∧ Live w0 L W')
 c_count : ∀ {w0 W : World} {L B : List Blk} {st : σ} {k : Nat} {n most : Int}, rep (k + 1) st B → Live w0 (B ++ L) W → 0 ≤ n → n < 9223372036854775808 → 0 ≤ most → most ≤ 1024 →
  Calls Tryz.prog fcount #[.pointer (some ⟨r, 0, none⟩), .int .i64 n, .int .i64 most] W fun e W' =>
   Said (count st n most) (fun x => e = .returned (.int .i64 x.1) ∧ 0 ≤ x.1 ∧ x.1 ≤ most ∧ ∃ B', rep k x.2 B' ∧ Live w0 (B' ++ L) W') (fun f => e = gave f ∧ Live w0 L W')
instance : Coe Wkr WSem := ⟨Wkr.toWSem⟩
section
variable {K : WSem}
abbrev Stp (K : WSem) := K.σ × PMsg → Except Int (K.σ × PMsg)
def runS (K : WSem) : List (Stp K) → K.σ × PMsg → Except Int (K.σ × PMsg)
 | [], s => .ok s
 | f :: fs, s => match f s with
  | .ok s' => runS K fs s'
  | .error e => .error e
theorem runS_ok {f : Stp K} {fs : List (Stp K)} {s s' : K.σ × PMsg} (h : f s = .ok s') : runS K (f :: fs) s = runS K fs s' := by simp [runS, h]
theorem runS_bad {f : Stp K} {fs : List (Stp K)} {s : K.σ × PMsg} {e : Int} (h : f s = .error e) : runS K (f :: fs) s = .error e := by simp [runS, h]
def Aft (K : Wkr) (w0 : World) (L : List Blk) (p : Nat) (t : TypeId) (vo vs : Value) (k : Nat) (r : Except Int (K.σ × PMsg)) (e : Ending) (W' : World) : Prop :=
 (∃ s', r = .ok s' ∧ e = .returned (.tuple #[]) ∧ ∃ B', K.rep k s'.1 B' ∧ Live w0 (B' ++ (p, mcells s'.2 vo vs, t) :: L) W') ∨ ∃ f, r = .error f ∧ e = gave f ∧ Live w0 L W'
end
def st_num (K : WSem) (g : PMsg → Int) (u : PMsg → Int → PMsg) : Stp K := fun s =>
 match K.num s.1 (g s.2) with
 | .ok x => .ok (x.2, u s.2 x.1)
 | .error f => .error f
def st_byte (K : WSem) (g : PMsg → Nat) (u : PMsg → Nat → PMsg) : Stp K := fun s =>
 match K.byte s.1 (g s.2) with
 | .ok x => .ok (x.2, u s.2 x.1)
 | .error f => .error f
def st_i64 (K : WSem) (g : PMsg → Int) (u : PMsg → Int → PMsg) : Stp K := fun s =>
 match K.i64 s.1 (g s.2) with
 | .ok x => .ok (x.2, u s.2 x.1)
 | .error f => .error f
def st_u64 (K : WSem) (g : PMsg → Nat) (u : PMsg → Nat → PMsg) : Stp K := fun s =>
 match K.u64 s.1 (g s.2) with
 | .ok x => .ok (x.2, u s.2 x.1)
 | .error f => .error f
def st_text (K : WSem) (g : PMsg → ByteArray) (u : PMsg → ByteArray → PMsg) (most : Int) : Stp K := fun s =>
 match K.text s.1 (g s.2) most with
 | .ok x => .ok (x.2, u s.2 x.1)
 | .error f => .error f
section
variable {K : Wkr} {w0 W : World} {L B : List Blk} {p k : Nat} {t : TypeId} {vo vs : Value} {s : K.σ × PMsg}
def s_kind (K : WSem) : Stp K := st_byte K (fun m => m.kind) (fun m v => { m with kind := v })
theorem k_kind {s' : K.σ × PMsg} (h : s_kind K s = .ok s') : ∃ v, s'.2 = { s.2 with kind := v } := by
 unfold s_kind st_byte at h
 split at h
 ·cases h; exact ⟨_, rfl⟩
 ·cases h
theorem a_kind (hr : K.rep (k + 1) s.1 B) (h : Live w0 (B ++ (p, mcells s.2 vo vs, t) :: L) W) :
  Calls Tryz.prog K.fbyte #[.pointer (some ⟨K.r, 0, none⟩), .pointer (some ⟨p, 0, none⟩)] W fun e W' => Aft K w0 L p t vo vs k (s_kind K s) e W' := by
 refine (K.c_byte hr h (i := 0) rfl).mono ?_
 intro e W' hs
 unfold Said at hs
 unfold s_kind st_byte Aft
 split at hs
 ·rename_i x hx
  rw [hx]
  obtain ⟨rfl, B', hr', h'⟩ := hs
  exact .inl ⟨_, rfl, rfl, B', hr', h'⟩
 ·rename_i f hx
  rw [hx]
  obtain ⟨rfl, h'⟩ := hs
  exact .inr ⟨_, rfl, rfl, h'⟩
def s_move (K : WSem) : Stp K := st_num K (fun m => m.move) (fun m v => { m with move := v })
theorem k_move {s' : K.σ × PMsg} (h : s_move K s = .ok s') : ∃ v, s'.2 = { s.2 with move := v } := by
 unfold s_move st_num at h
 split at h
 ·cases h; exact ⟨_, rfl⟩
 ·cases h
theorem a_move (hr : K.rep (k + 1) s.1 B) (h : Live w0 (B ++ (p, mcells s.2 vo vs, t) :: L) W) :
  Calls Tryz.prog K.fnum #[.pointer (some ⟨K.r, 0, none⟩), .pointer (some ⟨p, 1, none⟩)] W fun e W' => Aft K w0 L p t vo vs k (s_move K s) e W' := by
 refine (K.c_num hr h (i := 1) rfl).mono ?_
 intro e W' hs
 unfold Said at hs
 unfold s_move st_num Aft
 split at hs
 ·rename_i x hx
  rw [hx]
  obtain ⟨rfl, B', hr', h'⟩ := hs
  exact .inl ⟨_, rfl, rfl, B', hr', h'⟩
 ·rename_i f hx
  rw [hx]
  obtain ⟨rfl, h'⟩ := hs
  exact .inr ⟨_, rfl, rfl, h'⟩
def s_part (K : WSem) : Stp K := st_num K (fun m => m.part) (fun m v => { m with part := v })
theorem k_part {s' : K.σ × PMsg} (h : s_part K s = .ok s') : ∃ v, s'.2 = { s.2 with part := v } := by
 unfold s_part st_num at h
 split at h
 ·cases h; exact ⟨_, rfl⟩
 ·cases h
theorem a_part (hr : K.rep (k + 1) s.1 B) (h : Live w0 (B ++ (p, mcells s.2 vo vs, t) :: L) W) :
  Calls Tryz.prog K.fnum #[.pointer (some ⟨K.r, 0, none⟩), .pointer (some ⟨p, 2, none⟩)] W fun e W' => Aft K w0 L p t vo vs k (s_part K s) e W' := by
 refine (K.c_num hr h (i := 2) rfl).mono ?_
 intro e W' hs
 unfold Said at hs
 unfold s_part st_num Aft
 split at hs
 ·rename_i x hx
  rw [hx]
  obtain ⟨rfl, B', hr', h'⟩ := hs
  exact .inl ⟨_, rfl, rfl, B', hr', h'⟩
 ·rename_i f hx
  rw [hx]
  obtain ⟨rfl, h'⟩ := hs
  exact .inr ⟨_, rfl, rfl, h'⟩
def s_to (K : WSem) : Stp K := st_num K (fun m => m.to) (fun m v => { m with to := v })
theorem k_to {s' : K.σ × PMsg} (h : s_to K s = .ok s') : ∃ v, s'.2 = { s.2 with to := v } := by
 unfold s_to st_num at h
 split at h
 ·cases h; exact ⟨_, rfl⟩
 ·cases h
theorem a_to (hr : K.rep (k + 1) s.1 B) (h : Live w0 (B ++ (p, mcells s.2 vo vs, t) :: L) W) :
  Calls Tryz.prog K.fnum #[.pointer (some ⟨K.r, 0, none⟩), .pointer (some ⟨p, 3, none⟩)] W fun e W' => Aft K w0 L p t vo vs k (s_to K s) e W' := by
 refine (K.c_num hr h (i := 3) rfl).mono ?_
 intro e W' hs
 unfold Said at hs
 unfold s_to st_num Aft
 split at hs
 ·rename_i x hx
  rw [hx]
  obtain ⟨rfl, B', hr', h'⟩ := hs
  exact .inl ⟨_, rfl, rfl, B', hr', h'⟩
 ·rename_i f hx
  rw [hx]
  obtain ⟨rfl, h'⟩ := hs
  exact .inr ⟨_, rfl, rfl, h'⟩
def s_n (K : WSem) : Stp K := st_num K (fun m => m.n) (fun m v => { m with n := v })
theorem k_n {s' : K.σ × PMsg} (h : s_n K s = .ok s') : ∃ v, s'.2 = { s.2 with n := v } := by
 unfold s_n st_num at h
 split at h
 ·cases h; exact ⟨_, rfl⟩
 ·cases h
theorem a_n (hr : K.rep (k + 1) s.1 B) (h : Live w0 (B ++ (p, mcells s.2 vo vs, t) :: L) W) :
  Calls Tryz.prog K.fnum #[.pointer (some ⟨K.r, 0, none⟩), .pointer (some ⟨p, 4, none⟩)] W fun e W' => Aft K w0 L p t vo vs k (s_n K s) e W' := by
 refine (K.c_num hr h (i := 4) rfl).mono ?_
 intro e W' hs
 unfold Said at hs
 unfold s_n st_num Aft
 split at hs
 ·rename_i x hx
  rw [hx]
  obtain ⟨rfl, B', hr', h'⟩ := hs
  exact .inl ⟨_, rfl, rfl, B', hr', h'⟩
 ·rename_i f hx
  rw [hx]
  obtain ⟨rfl, h'⟩ := hs
  exact .inr ⟨_, rfl, rfl, h'⟩
def s_count (K : WSem) : Stp K := st_num K (fun m => m.count) (fun m v => { m with count := v })
theorem k_count {s' : K.σ × PMsg} (h : s_count K s = .ok s') : ∃ v, s'.2 = { s.2 with count := v } := by
 unfold s_count st_num at h
 split at h
 ·cases h; exact ⟨_, rfl⟩
 ·cases h
theorem a_count (hr : K.rep (k + 1) s.1 B) (h : Live w0 (B ++ (p, mcells s.2 vo vs, t) :: L) W) :
  Calls Tryz.prog K.fnum #[.pointer (some ⟨K.r, 0, none⟩), .pointer (some ⟨p, 5, none⟩)] W fun e W' => Aft K w0 L p t vo vs k (s_count K s) e W' := by
 refine (K.c_num hr h (i := 5) rfl).mono ?_
 intro e W' hs
 unfold Said at hs
 unfold s_count st_num Aft
 split at hs
 ·rename_i x hx
  rw [hx]
  obtain ⟨rfl, B', hr', h'⟩ := hs
  exact .inl ⟨_, rfl, rfl, B', hr', h'⟩
 ·rename_i f hx
  rw [hx]
  obtain ⟨rfl, h'⟩ := hs
  exact .inr ⟨_, rfl, rfl, h'⟩
def s_code (K : WSem) : Stp K := st_num K (fun m => m.code) (fun m v => { m with code := v })
theorem k_code {s' : K.σ × PMsg} (h : s_code K s = .ok s') : ∃ v, s'.2 = { s.2 with code := v } := by
 unfold s_code st_num at h
 split at h
 ·cases h; exact ⟨_, rfl⟩
 ·cases h
theorem a_code (hr : K.rep (k + 1) s.1 B) (h : Live w0 (B ++ (p, mcells s.2 vo vs, t) :: L) W) :
  Calls Tryz.prog K.fnum #[.pointer (some ⟨K.r, 0, none⟩), .pointer (some ⟨p, 6, none⟩)] W fun e W' => Aft K w0 L p t vo vs k (s_code K s) e W' := by
 refine (K.c_num hr h (i := 6) rfl).mono ?_
 intro e W' hs
 unfold Said at hs
 unfold s_code st_num Aft
 split at hs
 ·rename_i x hx
  rw [hx]
  obtain ⟨rfl, B', hr', h'⟩ := hs
  exact .inl ⟨_, rfl, rfl, B', hr', h'⟩
 ·rename_i f hx
  rw [hx]
  obtain ⟨rfl, h'⟩ := hs
  exact .inr ⟨_, rfl, rfl, h'⟩
def s_digest (K : WSem) : Stp K := st_u64 K (fun m => m.digest) (fun m v => { m with digest := v })
theorem k_digest {s' : K.σ × PMsg} (h : s_digest K s = .ok s') : ∃ v, s'.2 = { s.2 with digest := v } := by
 unfold s_digest st_u64 at h
 split at h
 ·cases h; exact ⟨_, rfl⟩
 ·cases h
theorem a_digest (hr : K.rep (k + 1) s.1 B) (h : Live w0 (B ++ (p, mcells s.2 vo vs, t) :: L) W) (hf : s.2.digest < 18446744073709551616) :
  Calls Tryz.prog K.fu64 #[.pointer (some ⟨K.r, 0, none⟩), .pointer (some ⟨p, 7, none⟩)] W fun e W' => Aft K w0 L p t vo vs k (s_digest K s) e W' := by
 refine (K.c_u64 hr h (i := 7) rfl hf).mono ?_
 intro e W' hs
 unfold Said at hs
 unfold s_digest st_u64 Aft
 split at hs
 ·rename_i x hx
  rw [hx]
  obtain ⟨rfl, B', hr', h'⟩ := hs
  exact .inl ⟨_, rfl, rfl, B', hr', h'⟩
 ·rename_i f hx
  rw [hx]
  obtain ⟨rfl, h'⟩ := hs
  exact .inr ⟨_, rfl, rfl, h'⟩
def s_at_ (K : WSem) : Stp K := st_i64 K (fun m => m.at_) (fun m v => { m with at_ := v })
theorem k_at_ {s' : K.σ × PMsg} (h : s_at_ K s = .ok s') : ∃ v, s'.2 = { s.2 with at_ := v } := by
 unfold s_at_ st_i64 at h
 split at h
 ·cases h; exact ⟨_, rfl⟩
 ·cases h
theorem a_at_ (hr : K.rep (k + 1) s.1 B) (h : Live w0 (B ++ (p, mcells s.2 vo vs, t) :: L) W) (hf0 : -9223372036854775808 ≤ s.2.at_) (hf1 : s.2.at_ < 9223372036854775808) :
  Calls Tryz.prog K.fi64 #[.pointer (some ⟨K.r, 0, none⟩), .pointer (some ⟨p, 8, none⟩)] W fun e W' => Aft K w0 L p t vo vs k (s_at_ K s) e W' := by
 refine (K.c_i64 hr h (i := 8) rfl hf0 hf1).mono ?_
 intro e W' hs
 unfold Said at hs
 unfold s_at_ st_i64 Aft
 split at hs
 ·rename_i x hx
  rw [hx]
  obtain ⟨rfl, B', hr', h'⟩ := hs
  exact .inl ⟨_, rfl, rfl, B', hr', h'⟩
 ·rename_i f hx
  rw [hx]
  obtain ⟨rfl, h'⟩ := hs
  exact .inr ⟨_, rfl, rfl, h'⟩
def s_isrc (K : WSem) : Stp K := st_num K (fun m => m.isrc) (fun m v => { m with isrc := v })
theorem k_isrc {s' : K.σ × PMsg} (h : s_isrc K s = .ok s') : ∃ v, s'.2 = { s.2 with isrc := v } := by
 unfold s_isrc st_num at h
 split at h
 ·cases h; exact ⟨_, rfl⟩
 ·cases h
theorem a_isrc (hr : K.rep (k + 1) s.1 B) (h : Live w0 (B ++ (p, mcells s.2 vo vs, t) :: L) W) :
  Calls Tryz.prog K.fnum #[.pointer (some ⟨K.r, 0, none⟩), .pointer (some ⟨p, 9, none⟩)] W fun e W' => Aft K w0 L p t vo vs k (s_isrc K s) e W' := by
 refine (K.c_num hr h (i := 9) rfl).mono ?_
 intro e W' hs
 unfold Said at hs
 unfold s_isrc st_num Aft
 split at hs
 ·rename_i x hx
  rw [hx]
  obtain ⟨rfl, B', hr', h'⟩ := hs
  exact .inl ⟨_, rfl, rfl, B', hr', h'⟩
 ·rename_i f hx
  rw [hx]
  obtain ⟨rfl, h'⟩ := hs
  exact .inr ⟨_, rfl, rfl, h'⟩
def s_iseq (K : WSem) : Stp K := st_num K (fun m => m.iseq) (fun m v => { m with iseq := v })
theorem k_iseq {s' : K.σ × PMsg} (h : s_iseq K s = .ok s') : ∃ v, s'.2 = { s.2 with iseq := v } := by
 unfold s_iseq st_num at h
 split at h
 ·cases h; exact ⟨_, rfl⟩
 ·cases h
theorem a_iseq (hr : K.rep (k + 1) s.1 B) (h : Live w0 (B ++ (p, mcells s.2 vo vs, t) :: L) W) :
  Calls Tryz.prog K.fnum #[.pointer (some ⟨K.r, 0, none⟩), .pointer (some ⟨p, 10, none⟩)] W fun e W' => Aft K w0 L p t vo vs k (s_iseq K s) e W' := by
 refine (K.c_num hr h (i := 10) rfl).mono ?_
 intro e W' hs
 unfold Said at hs
 unfold s_iseq st_num Aft
 split at hs
 ·rename_i x hx
  rw [hx]
  obtain ⟨rfl, B', hr', h'⟩ := hs
  exact .inl ⟨_, rfl, rfl, B', hr', h'⟩
 ·rename_i f hx
  rw [hx]
  obtain ⟨rfl, h'⟩ := hs
  exact .inr ⟨_, rfl, rfl, h'⟩
def s_ilow (K : WSem) : Stp K := st_num K (fun m => m.ilow) (fun m v => { m with ilow := v })
theorem k_ilow {s' : K.σ × PMsg} (h : s_ilow K s = .ok s') : ∃ v, s'.2 = { s.2 with ilow := v } := by
 unfold s_ilow st_num at h
 split at h
 ·cases h; exact ⟨_, rfl⟩
 ·cases h
theorem a_ilow (hr : K.rep (k + 1) s.1 B) (h : Live w0 (B ++ (p, mcells s.2 vo vs, t) :: L) W) :
  Calls Tryz.prog K.fnum #[.pointer (some ⟨K.r, 0, none⟩), .pointer (some ⟨p, 11, none⟩)] W fun e W' => Aft K w0 L p t vo vs k (s_ilow K s) e W' := by
 refine (K.c_num hr h (i := 11) rfl).mono ?_
 intro e W' hs
 unfold Said at hs
 unfold s_ilow st_num Aft
 split at hs
 ·rename_i x hx
  rw [hx]
  obtain ⟨rfl, B', hr', h'⟩ := hs
  exact .inl ⟨_, rfl, rfl, B', hr', h'⟩
 ·rename_i f hx
  rw [hx]
  obtain ⟨rfl, h'⟩ := hs
  exact .inr ⟨_, rfl, rfl, h'⟩
def s_ikind (K : WSem) : Stp K := st_byte K (fun m => m.ikind) (fun m v => { m with ikind := v })
theorem k_ikind {s' : K.σ × PMsg} (h : s_ikind K s = .ok s') : ∃ v, s'.2 = { s.2 with ikind := v } := by
 unfold s_ikind st_byte at h
 split at h
 ·cases h; exact ⟨_, rfl⟩
 ·cases h
theorem a_ikind (hr : K.rep (k + 1) s.1 B) (h : Live w0 (B ++ (p, mcells s.2 vo vs, t) :: L) W) :
  Calls Tryz.prog K.fbyte #[.pointer (some ⟨K.r, 0, none⟩), .pointer (some ⟨p, 12, none⟩)] W fun e W' => Aft K w0 L p t vo vs k (s_ikind K s) e W' := by
 refine (K.c_byte hr h (i := 12) rfl).mono ?_
 intro e W' hs
 unfold Said at hs
 unfold s_ikind st_byte Aft
 split at hs
 ·rename_i x hx
  rw [hx]
  obtain ⟨rfl, B', hr', h'⟩ := hs
  exact .inl ⟨_, rfl, rfl, B', hr', h'⟩
 ·rename_i f hx
  rw [hx]
  obtain ⟨rfl, h'⟩ := hs
  exact .inr ⟨_, rfl, rfl, h'⟩
def s_ikey (K : WSem) : Stp K := st_text K (fun m => m.ikey) (fun m v => { m with ikey := v }) 255
theorem k_ikey {s' : K.σ × PMsg} (h : s_ikey K s = .ok s') : ∃ v, s'.2 = { s.2 with ikey := v } := by
 unfold s_ikey st_text at h
 split at h
 ·cases h; exact ⟨_, rfl⟩
 ·cases h
theorem a_ikey (hr : K.rep (k + 1) s.1 B) (h : Live w0 (B ++ (p, mcells s.2 vo vs, t) :: L) W) (hf : s.2.ikey.size < 140737488351233) :
  Calls Tryz.prog K.ftext #[.pointer (some ⟨K.r, 0, none⟩), .pointer (some ⟨p, 13, none⟩), .int .i64 255] W fun e W' => Aft K w0 L p t vo vs k (s_ikey K s) e W' := by
 refine (K.c_text hr h (i := 13) rfl hf (by decide) (by decide)).mono ?_
 intro e W' hs
 unfold Said at hs
 unfold s_ikey st_text Aft
 split at hs
 ·rename_i x hx
  rw [hx]
  obtain ⟨rfl, B', hr', h'⟩ := hs
  exact .inl ⟨_, rfl, rfl, B', hr', h'⟩
 ·rename_i f hx
  rw [hx]
  obtain ⟨rfl, h'⟩ := hs
  exact .inr ⟨_, rfl, rfl, h'⟩
def s_ipart (K : WSem) : Stp K := st_num K (fun m => m.ipart) (fun m v => { m with ipart := v })
theorem k_ipart {s' : K.σ × PMsg} (h : s_ipart K s = .ok s') : ∃ v, s'.2 = { s.2 with ipart := v } := by
 unfold s_ipart st_num at h
 split at h
 ·cases h; exact ⟨_, rfl⟩
 ·cases h
theorem a_ipart (hr : K.rep (k + 1) s.1 B) (h : Live w0 (B ++ (p, mcells s.2 vo vs, t) :: L) W) :
  Calls Tryz.prog K.fnum #[.pointer (some ⟨K.r, 0, none⟩), .pointer (some ⟨p, 14, none⟩)] W fun e W' => Aft K w0 L p t vo vs k (s_ipart K s) e W' := by
 refine (K.c_num hr h (i := 14) rfl).mono ?_
 intro e W' hs
 unfold Said at hs
 unfold s_ipart st_num Aft
 split at hs
 ·rename_i x hx
  rw [hx]
  obtain ⟨rfl, B', hr', h'⟩ := hs
  exact .inl ⟨_, rfl, rfl, B', hr', h'⟩
 ·rename_i f hx
  rw [hx]
  obtain ⟨rfl, h'⟩ := hs
  exact .inr ⟨_, rfl, rfl, h'⟩
def s_iat (K : WSem) : Stp K := st_i64 K (fun m => m.iat) (fun m v => { m with iat := v })
theorem k_iat {s' : K.σ × PMsg} (h : s_iat K s = .ok s') : ∃ v, s'.2 = { s.2 with iat := v } := by
 unfold s_iat st_i64 at h
 split at h
 ·cases h; exact ⟨_, rfl⟩
 ·cases h
theorem a_iat (hr : K.rep (k + 1) s.1 B) (h : Live w0 (B ++ (p, mcells s.2 vo vs, t) :: L) W) (hf0 : -9223372036854775808 ≤ s.2.iat) (hf1 : s.2.iat < 9223372036854775808) :
  Calls Tryz.prog K.fi64 #[.pointer (some ⟨K.r, 0, none⟩), .pointer (some ⟨p, 15, none⟩)] W fun e W' => Aft K w0 L p t vo vs k (s_iat K s) e W' := by
 refine (K.c_i64 hr h (i := 15) rfl hf0 hf1).mono ?_
 intro e W' hs
 unfold Said at hs
 unfold s_iat st_i64 Aft
 split at hs
 ·rename_i x hx
  rw [hx]
  obtain ⟨rfl, B', hr', h'⟩ := hs
  exact .inl ⟨_, rfl, rfl, B', hr', h'⟩
 ·rename_i f hx
  rw [hx]
  obtain ⟨rfl, h'⟩ := hs
  exact .inr ⟨_, rfl, rfl, h'⟩
def s_iN (K : WSem) : Stp K := st_i64 K (fun m => m.iN) (fun m v => { m with iN := v })
theorem k_iN {s' : K.σ × PMsg} (h : s_iN K s = .ok s') : ∃ v, s'.2 = { s.2 with iN := v } := by
 unfold s_iN st_i64 at h
 split at h
 ·cases h; exact ⟨_, rfl⟩
 ·cases h
theorem a_iN (hr : K.rep (k + 1) s.1 B) (h : Live w0 (B ++ (p, mcells s.2 vo vs, t) :: L) W) (hf0 : -9223372036854775808 ≤ s.2.iN) (hf1 : s.2.iN < 9223372036854775808) :
  Calls Tryz.prog K.fi64 #[.pointer (some ⟨K.r, 0, none⟩), .pointer (some ⟨p, 16, none⟩)] W fun e W' => Aft K w0 L p t vo vs k (s_iN K s) e W' := by
 refine (K.c_i64 hr h (i := 16) rfl hf0 hf1).mono ?_
 intro e W' hs
 unfold Said at hs
 unfold s_iN st_i64 Aft
 split at hs
 ·rename_i x hx
  rw [hx]
  obtain ⟨rfl, B', hr', h'⟩ := hs
  exact .inl ⟨_, rfl, rfl, B', hr', h'⟩
 ·rename_i f hx
  rw [hx]
  obtain ⟨rfl, h'⟩ := hs
  exact .inr ⟨_, rfl, rfl, h'⟩
def s_epoch (K : WSem) : Stp K := st_num K (fun m => m.epoch) (fun m v => { m with epoch := v })
theorem k_epoch {s' : K.σ × PMsg} (h : s_epoch K s = .ok s') : ∃ v, s'.2 = { s.2 with epoch := v } := by
 unfold s_epoch st_num at h
 split at h
 ·cases h; exact ⟨_, rfl⟩
 ·cases h
theorem a_epoch (hr : K.rep (k + 1) s.1 B) (h : Live w0 (B ++ (p, mcells s.2 vo vs, t) :: L) W) :
  Calls Tryz.prog K.fnum #[.pointer (some ⟨K.r, 0, none⟩), .pointer (some ⟨p, 17, none⟩)] W fun e W' => Aft K w0 L p t vo vs k (s_epoch K s) e W' := by
 refine (K.c_num hr h (i := 17) rfl).mono ?_
 intro e W' hs
 unfold Said at hs
 unfold s_epoch st_num Aft
 split at hs
 ·rename_i x hx
  rw [hx]
  obtain ⟨rfl, B', hr', h'⟩ := hs
  exact .inl ⟨_, rfl, rfl, B', hr', h'⟩
 ·rename_i f hx
  rw [hx]
  obtain ⟨rfl, h'⟩ := hs
  exact .inr ⟨_, rfl, rfl, h'⟩
def s_nodes (K : WSem) : Stp K := st_num K (fun m => m.nodes) (fun m v => { m with nodes := v })
theorem k_nodes {s' : K.σ × PMsg} (h : s_nodes K s = .ok s') : ∃ v, s'.2 = { s.2 with nodes := v } := by
 unfold s_nodes st_num at h
 split at h
 ·cases h; exact ⟨_, rfl⟩
 ·cases h
theorem a_nodes (hr : K.rep (k + 1) s.1 B) (h : Live w0 (B ++ (p, mcells s.2 vo vs, t) :: L) W) :
  Calls Tryz.prog K.fnum #[.pointer (some ⟨K.r, 0, none⟩), .pointer (some ⟨p, 18, none⟩)] W fun e W' => Aft K w0 L p t vo vs k (s_nodes K s) e W' := by
 refine (K.c_num hr h (i := 18) rfl).mono ?_
 intro e W' hs
 unfold Said at hs
 unfold s_nodes st_num Aft
 split at hs
 ·rename_i x hx
  rw [hx]
  obtain ⟨rfl, B', hr', h'⟩ := hs
  exact .inl ⟨_, rfl, rfl, B', hr', h'⟩
 ·rename_i f hx
  rw [hx]
  obtain ⟨rfl, h'⟩ := hs
  exact .inr ⟨_, rfl, rfl, h'⟩
def s_data (K : WSem) : Stp K := st_text K (fun m => m.data) (fun m v => { m with data := v }) 1024
theorem k_data {s' : K.σ × PMsg} (h : s_data K s = .ok s') : ∃ v, s'.2 = { s.2 with data := v } := by
 unfold s_data st_text at h
 split at h
 ·cases h; exact ⟨_, rfl⟩
 ·cases h
theorem a_data (hr : K.rep (k + 1) s.1 B) (h : Live w0 (B ++ (p, mcells s.2 vo vs, t) :: L) W) (hf : s.2.data.size < 140737488351233) :
  Calls Tryz.prog K.ftext #[.pointer (some ⟨K.r, 0, none⟩), .pointer (some ⟨p, 21, none⟩), .int .i64 1024] W fun e W' => Aft K w0 L p t vo vs k (s_data K s) e W' := by
 refine (K.c_text hr h (i := 21) rfl hf (by decide) (by decide)).mono ?_
 intro e W' hs
 unfold Said at hs
 unfold s_data st_text Aft
 split at hs
 ·rename_i x hx
  rw [hx]
  obtain ⟨rfl, B', hr', h'⟩ := hs
  exact .inl ⟨_, rfl, rfl, B', hr', h'⟩
 ·rename_i f hx
  rw [hx]
  obtain ⟨rfl, h'⟩ := hs
  exact .inr ⟨_, rfl, rfl, h'⟩
end
end Go.Proofs.YthkeiclhllikjaaGreat
