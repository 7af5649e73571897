/-
  The readings whose first fault stays are the message's reading.
-/
import Derived.Test.YtmmhchpilcjflaaMsgXe
import Derived.Test.YtmmhchpilcjflaaMsgBk
set_option linter.unusedSimpArgs false
set_option linter.unusedVariables false
namespace Go.Proofs.Ytmmhchpilcjflaa
open Go.RowKit

/-- A message so far, the place, the fault. -/
abbrev ESt := PMsg × Nat × Int
/-- A reading and one whose fault stays. -/
def Sk (s : ByteArray) (r : Except Int (Nat × PMsg)) (e : ESt) : Prop :=
  match r with
  | .ok x => e = (x.2, x.1, 0) ∧ x.1 ≤ s.size
  | .error f => e.2.2 = f ∧ f ≠ 0
def SimStep (s : ByteArray) (f : Stp (rSem s)) (g : ESt → ESt) : Prop := (∀ (n : Nat) (m : PMsg), n ≤ s.size → Sk s (f (n, m)) (g (m, n, 0))) ∧ ∀ (m : PMsg) (n : Nat) (b : Int), b ≠ 0 → (g (m, n, b)).2.2 = b
def Sims (s : ByteArray) : List (Stp (rSem s)) → List (ESt → ESt) → Prop
  | [], [] => True
  | f :: fs, g :: gs => SimStep s f g ∧ Sims s fs gs
  | _, _ => False
theorem sims_stick {s : ByteArray} : ∀ (fs : List (Stp (rSem s))) (gs : List (ESt → ESt)), Sims s fs gs → ∀ (e : ESt), e.2.2 ≠ 0 → (gs.foldl (fun e g => g e) e).2.2 = e.2.2
  | [], [], _, _, _ => rfl
  | f :: fs, g :: gs, h, (m, n, b), hb => by
    have h1 := h.1.2 m n b hb
    rw [List.foldl_cons, sims_stick fs gs h.2 _ (by rw [h1]; exact hb), h1]
  | [], _ :: _, h, _, _ => h.elim
  | _ :: _, [], h, _, _ => h.elim
theorem sims_run {s : ByteArray} : ∀ (fs : List (Stp (rSem s))) (gs : List (ESt → ESt)), Sims s fs gs → ∀ (n : Nat) (m : PMsg), n ≤ s.size → Sk s (runS (rSem s) fs (n, m)) (gs.foldl (fun e g => g e) (m, n, 0))
  | [], [], _, n, m, hn => ⟨rfl, hn⟩
  | f :: fs, g :: gs, h, n, m, hn => by
    have h1 := h.1.1 n m hn
    cases hf : f (n, m) with
    | ok x =>
      rw [hf] at h1
      obtain ⟨h2, h3⟩ := h1
      rw [runS_ok hf, List.foldl_cons, h2]
      exact sims_run fs gs h.2 x.1 x.2 h3
    | error e =>
      rw [hf] at h1
      obtain ⟨h2, h3⟩ := h1
      rw [runS_bad hf, List.foldl_cons]
      exact ⟨(sims_stick fs gs h.2 _ (by rw [h2]; exact h3)).trans h2, h3⟩
  | [], _ :: _, h, _, _, _ => h.elim
  | _ :: _, [], h, _, _, _ => h.elim
section
variable {s : ByteArray} {n m : Nat} {b : Int}
theorem numE_bad (hb : b ≠ 0) : numE s n b = (0, n, b) := by unfold numE; rw [if_pos hb]
theorem mostE_bad (hb : b ≠ 0) : mostE s n b m = (0, n, b) := by unfold mostE; rw [if_pos hb]
theorem byteE_bad (hb : b ≠ 0) : byteE s n b = (0, n, b) := by unfold byteE; rw [if_pos hb]
theorem textE_bad (hb : b ≠ 0) : (textE s n b m).2.2 = b := by unfold textE; rw [mostE_bad hb, if_pos hb]
theorem loopE_bad (hb : b ≠ 0) : ∀ (k n : Nat), (loopE s k n b).2.2 = b
  | 0, _ => rfl
  | k + 1, n => by
    unfold loopE
    rw [mostE_bad hb]
    exact loopE_bad hb k n
theorem listE_bad (hb : b ≠ 0) : (listE s n b m).2.2 = b := by
  unfold listE
  rw [mostE_bad hb]
  rfl
theorem most_sim : (∃ v n', mostR s n m = .ok (v, n') ∧ mostE s n 0 m = (v, n', 0)) ∨ ∃ f, mostR s n m = .error f ∧ mostE s n 0 m = (0, n, f) ∧ f ≠ 0 := by
  unfold mostR mostE
  rw [if_neg (by decide)]
  cases h : rd 0 0 ((bytesOf s).drop n) with
  | ok x =>
    obtain ⟨v, z⟩ := x
    simp only
    by_cases hv : v ≤ m
    · rw [if_pos hv, if_pos hv]
      exact .inl ⟨_, _, rfl, rfl⟩
    · rw [if_neg hv, if_neg hv]
      exact .inr ⟨_, rfl, rfl, by decide⟩
  | error f => exact .inr ⟨f, rfl, rfl, rd_err h⟩
theorem num_sim : (∃ v n', numR s n = .ok (v, n') ∧ numE s n 0 = (v, n', 0)) ∨ ∃ f, numR s n = .error f ∧ numE s n 0 = (0, n, f) ∧ f ≠ 0 := by
  unfold numR numE
  rw [if_neg (by decide)]
  cases h : rd 0 0 ((bytesOf s).drop n) with
  | ok x => exact .inl ⟨_, _, rfl, rfl⟩
  | error f => exact .inr ⟨f, rfl, rfl, rd_err h⟩
/-! Each step. -/
def gE_num (s : ByteArray) (u : PMsg → Int → PMsg) : ESt → ESt := fun e => (u e.1 ((mostE s e.2.1 e.2.2 2147483647).1 : Nat), (mostE s e.2.1 e.2.2 2147483647).2)
def gE_byte (s : ByteArray) (u : PMsg → Nat → PMsg) : ESt → ESt := fun e => (u e.1 (byteE s e.2.1 e.2.2).1, (byteE s e.2.1 e.2.2).2)
def gE_i64 (s : ByteArray) (u : PMsg → Int → PMsg) : ESt → ESt := fun e => (u e.1 (zag (numE s e.2.1 e.2.2).1), (numE s e.2.1 e.2.2).2)
def gE_u64 (s : ByteArray) (u : PMsg → Nat → PMsg) : ESt → ESt := fun e => (u e.1 (numE s e.2.1 e.2.2).1, (numE s e.2.1 e.2.2).2)
def gE_text (s : ByteArray) (u : PMsg → ByteArray → PMsg) (m : Nat) : ESt → ESt := fun e => (u e.1 (textE s e.2.1 e.2.2 m).1, (textE s e.2.1 e.2.2 m).2)
def gE_list (s : ByteArray) (u : PMsg → List Int → PMsg) (m : Nat) : ESt → ESt := fun e => (u e.1 (listE s e.2.1 e.2.2 m).1, (listE s e.2.1 e.2.2 m).2)
theorem sim_num (g : PMsg → Int) (u : PMsg → Int → PMsg) : SimStep s (st_num (rSem s) g u) (gE_num s u) := by
  refine ⟨fun n p hn => ?_, fun p n b hb => by show (mostE s n b 2147483647).2.2 = b; rw [mostE_bad hb]⟩
  have hle := mostE_le (m := 2147483647) (b := 0) hn
  unfold st_num gE_num
  simp only [rSem, rNum]
  rcases most_sim (s := s) (n := n) (m := 2147483647) with ⟨v, n', h1, h2⟩ | ⟨f, h1, h2, h3⟩
  · rw [h2] at hle
    simp only [h1, h2]
    exact ⟨rfl, hle⟩
  · simp only [h1, h2]
    exact ⟨rfl, h3⟩
theorem sim_byte (g : PMsg → Nat) (u : PMsg → Nat → PMsg) : SimStep s (st_byte (rSem s) g u) (gE_byte s u) := by
  refine ⟨fun n p hn => ?_, fun p n b hb => by show (byteE s n b).2.2 = b; rw [byteE_bad hb]⟩
  unfold st_byte gE_byte
  simp only [rSem, rByte, byteE]
  by_cases h : n < s.size
  · have h2 : ¬ n = s.size := by omega
    simp only [if_pos h, if_neg h2, ne_eq, not_true_eq_false, if_false]
    exact ⟨rfl, h⟩
  · have h2 : n = s.size := by omega
    simp only [if_neg h, if_pos h2, ne_eq, not_true_eq_false, if_false]
    exact ⟨rfl, by decide⟩
theorem sim_i64 (g : PMsg → Int) (u : PMsg → Int → PMsg) : SimStep s (st_i64 (rSem s) g u) (gE_i64 s u) := by
  refine ⟨fun n p hn => ?_, fun p n b hb => by show (numE s n b).2.2 = b; rw [numE_bad hb]⟩
  have hle := numE_le (b := 0) hn
  unfold st_i64 gE_i64
  simp only [rSem, rI64]
  rcases num_sim (s := s) (n := n) with ⟨v, n', h1, h2⟩ | ⟨f, h1, h2, h3⟩
  · rw [h2] at hle
    simp only [h1, h2]
    exact ⟨rfl, hle⟩
  · simp only [h1, h2]
    exact ⟨rfl, h3⟩
theorem sim_u64 (g : PMsg → Nat) (u : PMsg → Nat → PMsg) : SimStep s (st_u64 (rSem s) g u) (gE_u64 s u) := by
  refine ⟨fun n p hn => ?_, fun p n b hb => by show (numE s n b).2.2 = b; rw [numE_bad hb]⟩
  have hle := numE_le (b := 0) hn
  unfold st_u64 gE_u64
  simp only [rSem]
  rcases num_sim (s := s) (n := n) with ⟨v, n', h1, h2⟩ | ⟨f, h1, h2, h3⟩
  · rw [h2] at hle
    simp only [h1, h2]
    exact ⟨rfl, hle⟩
  · simp only [h1, h2]
    exact ⟨rfl, h3⟩
theorem sim_text (g : PMsg → ByteArray) (u : PMsg → ByteArray → PMsg) (k : Nat) (K : Int) (hk : K.toNat = k) : SimStep s (st_text (rSem s) g u K) (gE_text s u k) := by
  refine ⟨fun n p hn => ?_, fun p n b hb => textE_bad hb⟩
  have hle := textE_le (m := k) (b := 0) hn
  unfold st_text gE_text
  simp only [rSem, textR, hk]
  unfold textE at hle ⊢
  rcases most_sim (s := s) (n := n) (m := k) with ⟨v, n', h1, h2⟩ | ⟨f, h1, h2, h3⟩
  · simp only [h1, h2, ne_eq, not_true_eq_false, if_false] at hle ⊢
    by_cases hv : v ≤ s.size - n'
    · simp only [if_pos hv] at hle ⊢
      exact ⟨rfl, hle⟩
    · simp only [if_neg hv]
      exact ⟨rfl, by decide⟩
  · simp only [h1, h2, ne_eq, h3, not_false_eq_true, if_true]
    exact ⟨rfl, h3⟩
theorem loopM_o2 {K : WSem} {st st' st2 : K.σ} {x v : Int} {xs vs : List Int} (h : K.num st x = .ok (v, st')) (h2 : loopM K st' xs = .ok (vs, st2)) : loopM K st (x :: xs) = .ok (v :: vs, st2) := by
  rw [loopM, h]
  simp only [h2]
theorem loopM_f1 {K : WSem} {st : K.σ} {x f : Int} {xs : List Int} (h : K.num st x = .error f) : loopM K st (x :: xs) = .error f := by
  rw [loopM, h]
theorem loopM_f2 {K : WSem} {st st' : K.σ} {x v f : Int} {xs : List Int} (h : K.num st x = .ok (v, st')) (h2 : loopM K st' xs = .error f) : loopM K st (x :: xs) = .error f := by
  rw [loopM, h]
  simp only [h2]
theorem loop_sim : ∀ (l : List Int) (n : Nat), (∃ (v : List Int) (n' : Nat), loopM (rSem s) n l = .ok (v, n') ∧ loopE s l.length n 0 = (v, n', 0)) ∨ ∃ f, loopM (rSem s) n l = .error f ∧ (loopE s l.length n 0).2.2 = f ∧ f ≠ 0
  | [], n => .inl ⟨[], n, rfl, rfl⟩
  | x :: xs, n => by
    simp only [List.length_cons]
    unfold loopE
    rcases most_sim (s := s) (n := n) (m := 2147483647) with ⟨v, n', h1, h2⟩ | ⟨f, h1, h2, h3⟩
    · have hn : (rSem s).num n x = .ok ((v : Int), n') := by
        show rNum s n = _
        unfold rNum
        rw [h1]
        rfl
      simp only [h2]
      rcases loop_sim xs n' with ⟨v2, n2, g1, g2⟩ | ⟨f, g1, g2, g3⟩
      · simp only [g2]
        exact .inl ⟨_, _, loopM_o2 hn g1, rfl⟩
      · exact .inr ⟨_, loopM_f2 hn g1, g2, g3⟩
    · have hn : (rSem s).num n x = .error f := by
        show rNum s n = _
        unfold rNum
        rw [h1]
        rfl
      simp only [h2]
      exact .inr ⟨_, loopM_f1 hn, loopE_bad h3 _ _, h3⟩
theorem nums_sim (l : List Int) (k : Nat) (K : Int) (hk : K.toNat = k) (n : Nat) : (∃ v n', numsM (rSem s) n l K = .ok (v, n') ∧ listE s n 0 k = (v, n', 0)) ∨ ∃ f, numsM (rSem s) n l K = .error f ∧ (listE s n 0 k).2.2 = f ∧ f ≠ 0 := by
  unfold numsM listE
  simp only [rSem, rCount, hk]
  rcases most_sim (s := s) (n := n) (m := k) with ⟨v, n', h1, h2⟩ | ⟨f, h1, h2, h3⟩
  · simp only [h1, h2, Int.toNat_natCast]
    have hl : v = ((List.range v).map fun j => l.getD j 0).length := by simp
    have h := loop_sim (s := s) ((List.range v).map fun j => l.getD j 0) n'
    rw [← hl] at h
    exact h
  · simp only [h1, h2]
    exact .inr ⟨_, rfl, rfl, h3⟩
theorem sim_owner : SimStep s (s_owner (rSem s)) (gE_list s (fun m v => { m with owner := v }) 64) := by
  refine ⟨fun n p hn => ?_, fun p n b hb => listE_bad hb⟩
  have hle := listE_le (m := 64) (b := 0) hn
  unfold s_owner gE_list
  rcases nums_sim (s := s) p.owner 64 64 rfl n with ⟨v, n', h1, h2⟩ | ⟨f, h1, h2, h3⟩
  · rw [h2] at hle
    simp only [h1, h2]
    exact ⟨rfl, hle⟩
  · simp only [h1]
    exact ⟨h2, h3⟩
theorem sim_set : SimStep s (s_set (rSem s)) (gE_list s (fun m v => { m with set := v }) 1024) := by
  refine ⟨fun n p hn => ?_, fun p n b hb => listE_bad hb⟩
  have hle := listE_le (m := 1024) (b := 0) hn
  unfold s_set gE_list
  rcases nums_sim (s := s) p.set 1024 1024 rfl n with ⟨v, n', h1, h2⟩ | ⟨f, h1, h2, h3⟩
  · rw [h2] at hle
    simp only [h1, h2]
    exact ⟨rfl, hle⟩
  · simp only [h1]
    exact ⟨h2, h3⟩
end
def itemG (s : ByteArray) : List (ESt → ESt) := [gE_num s (fun m v => { m with isrc := v }), gE_num s (fun m v => { m with iseq := v }), gE_num s (fun m v => { m with ilow := v }), gE_byte s (fun m v => { m with ikind := v }), gE_text s (fun m v => { m with ikey := v }) 255, gE_num s (fun m v => { m with ipart := v }), gE_i64 s (fun m v => { m with iat := v }), gE_i64 s (fun m v => { m with iN := v })]
def tableG (s : ByteArray) : List (ESt → ESt) := [gE_num s (fun m v => { m with epoch := v }), gE_num s (fun m v => { m with nodes := v }), gE_list s (fun m v => { m with owner := v }) 64]
abbrev mvG (s : ByteArray) : ESt → ESt := gE_num s (fun m v => { m with move := v })
abbrev ptG (s : ByteArray) : ESt → ESt := gE_num s (fun m v => { m with part := v })
abbrev nG (s : ByteArray) : ESt → ESt := gE_num s (fun m v => { m with n := v })
abbrev cdG (s : ByteArray) : ESt → ESt := gE_num s (fun m v => { m with code := v })
abbrev isG (s : ByteArray) : ESt → ESt := gE_num s (fun m v => { m with isrc := v })
abbrev iqG (s : ByteArray) : ESt → ESt := gE_num s (fun m v => { m with iseq := v })
def walkG (s : ByteArray) (c : Nat) : List (ESt → ESt) :=
  match c with
  | 1 => itemG s
  | 2 => isG s :: iqG s :: cdG s :: []
  | 3 => isG s :: iqG s :: tableG s
  | 4 => mvG s :: ptG s :: gE_num s (fun m v => { m with to := v }) :: []
  | 5 => mvG s :: ptG s :: nG s :: gE_num s (fun m v => { m with count := v }) :: gE_text s (fun m v => { m with data := v }) 1024 :: []
  | 6 => mvG s :: ptG s :: nG s :: gE_list s (fun m v => { m with set := v }) 1024 :: []
  | 7 => mvG s :: ptG s :: nG s :: itemG s
  | 8 => mvG s :: ptG s :: nG s :: []
  | 9 => mvG s :: ptG s :: nG s :: gE_i64 s (fun m v => { m with at_ := v }) :: gE_u64 s (fun m v => { m with digest := v }) :: []
  | 10 => mvG s :: ptG s :: cdG s :: []
  | 11 => mvG s :: ptG s :: tableG s
  | 12 => mvG s :: ptG s :: []
  | 13 => mvG s :: ptG s :: []
  | 14 => tableG s
  | _ => []
section
variable {s : ByteArray}
theorem sims_item : Sims s (itemS (rSem s)) (itemG s) := ⟨sim_num _ _, sim_num _ _, sim_num _ _, sim_byte _ _, sim_text _ _ 255 255 rfl, sim_num _ _, sim_i64 _ _, sim_i64 _ _, trivial⟩
theorem sims_table : Sims s (tableS (rSem s)) (tableG s) := ⟨sim_num _ _, sim_num _ _, sim_owner, trivial⟩
theorem sims_walk {c : Nat} (h1 : 1 ≤ c) (h2 : c ≤ 14) : Sims s (walkS (rSem s) c) (walkG s c) := by
  have : c = 1 ∨ c = 2 ∨ c = 3 ∨ c = 4 ∨ c = 5 ∨ c = 6 ∨ c = 7 ∨ c = 8 ∨ c = 9 ∨ c = 10 ∨ c = 11 ∨ c = 12 ∨ c = 13 ∨ c = 14 := by omega
  rcases this with rfl | rfl | rfl | rfl | rfl | rfl | rfl | rfl | rfl | rfl | rfl | rfl | rfl | rfl
  · exact sims_item
  · exact ⟨sim_num _ _, sim_num _ _, sim_num _ _, trivial⟩
  · exact ⟨sim_num _ _, sim_num _ _, sims_table⟩
  · exact ⟨sim_num _ _, sim_num _ _, sim_num _ _, trivial⟩
  · exact ⟨sim_num _ _, sim_num _ _, sim_num _ _, sim_num _ _, sim_text _ _ 1024 1024 rfl, trivial⟩
  · exact ⟨sim_num _ _, sim_num _ _, sim_num _ _, sim_set, trivial⟩
  · exact ⟨sim_num _ _, sim_num _ _, sim_num _ _, sims_item⟩
  · exact ⟨sim_num _ _, sim_num _ _, sim_num _ _, trivial⟩
  · exact ⟨sim_num _ _, sim_num _ _, sim_num _ _, sim_i64 _ _, sim_u64 _ _, trivial⟩
  · exact ⟨sim_num _ _, sim_num _ _, sim_num _ _, trivial⟩
  · exact ⟨sim_num _ _, sim_num _ _, sims_table⟩
  · exact ⟨sim_num _ _, sim_num _ _, trivial⟩
  · exact ⟨sim_num _ _, sim_num _ _, trivial⟩
  · exact sims_table
theorem body_fold {c n : Nat} {b : Int} (h1 : 1 ≤ c) (h2 : c ≤ 14) : bodyE s c n b = (walkG s c).foldl (fun e g => g e) ({ PMsg.zero with kind := c }, n, b) := by
  have : c = 1 ∨ c = 2 ∨ c = 3 ∨ c = 4 ∨ c = 5 ∨ c = 6 ∨ c = 7 ∨ c = 8 ∨ c = 9 ∨ c = 10 ∨ c = 11 ∨ c = 12 ∨ c = 13 ∨ c = 14 := by omega
  rcases this with rfl | rfl | rfl | rfl | rfl | rfl | rfl | rfl | rfl | rfl | rfl | rfl | rfl | rfl <;> rfl
theorem walk_open : walkM (rSem s) ((0 : Nat), PMsg.zero) = if 0 < s.size then (if 1 ≤ (bytesOf s).getD 0 0 ∧ (bytesOf s).getD 0 0 ≤ 14 then runS (rSem s) (walkS (rSem s) ((bytesOf s).getD 0 0)) ((1 : Nat), { PMsg.zero with kind := (bytesOf s).getD 0 0 }) else .error 10) else .error 7 := by
  by_cases h : 0 < s.size
  · have e : s_kind (rSem s) ((0 : Nat), PMsg.zero) = .ok ((1 : Nat), { PMsg.zero with kind := (bytesOf s).getD 0 0 }) := by
      have e2 : (rSem s).byte (0 : Nat) PMsg.zero.kind = .ok ((bytesOf s).getD 0 0, (1 : Nat)) := if_pos h
      unfold s_kind st_byte
      rw [e2]
    unfold walkM
    rw [e, if_pos h]
  · have e : s_kind (rSem s) ((0 : Nat), PMsg.zero) = .error 7 := by
      have e2 : (rSem s).byte (0 : Nat) PMsg.zero.kind = .error 7 := if_neg h
      unfold s_kind st_byte
      rw [e2]
    unfold walkM
    rw [e, if_neg h]
/-- What the document reads is what is read. -/
theorem msg_read : msgE s = (backM s, errR s) := by
  unfold backM errR readM
  rw [walk_open]
  by_cases h : 0 < s.size
  · rw [if_pos h]
    have hK : byteE s 0 0 = ((bytesOf s).getD 0 0, 1, 0) := by unfold byteE; rw [if_neg (by decide), if_neg (by omega)]
    generalize (bytesOf s).getD 0 0 = c at hK ⊢
    by_cases hc : 1 ≤ c ∧ c ≤ 14
    · rw [if_pos hc, msgE_body hK hc.1 hc.2 rfl]
      have hS := sims_run _ _ (sims_walk (s := s) hc.1 hc.2) 1 { PMsg.zero with kind := c } h
      rw [← body_fold hc.1 hc.2] at hS
      generalize runS (rSem s) (walkS (rSem s) c) ((1 : Nat), { PMsg.zero with kind := c }) = r at hS
      cases r with
      | ok x =>
        obtain ⟨(n : Nat), m⟩ := x
        obtain ⟨h3, h4⟩ := hS
        rw [h3, if_neg (show ¬ (0 : Int) ≠ 0 by decide)]
        unfold readEnd
        by_cases hn : n < s.size
        · have e1 : (if n < s.size then (Except.error 8 : Except Int PMsg) else .ok m) = .error 8 := if_pos hn
          simp only [e1, if_pos hn]
        · have e1 : (if n < s.size then (Except.error 8 : Except Int PMsg) else .ok m) = .ok m := if_neg hn
          simp only [e1, if_neg hn]
      | error f =>
        obtain ⟨h3, h4⟩ := hS
        rw [if_pos (by rw [h3]; exact h4), h3]
        rfl
    · rw [if_neg hc]
      unfold msgE
      rw [hK, if_neg (show ¬ (0 : Int) ≠ 0 by decide), if_pos (by simp only; omega)]
      rfl
  · rw [if_neg h]
    have hK : byteE s 0 0 = (0, 0, 7) := by unfold byteE; rw [if_neg (by decide), if_pos (by omega)]
    unfold msgE
    rw [hK, if_pos (by decide)]
    rfl
end
end Go.Proofs.Ytmmhchpilcjflaa
