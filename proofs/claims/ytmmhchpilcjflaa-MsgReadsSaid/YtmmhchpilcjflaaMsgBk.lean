/-
  What the message's functions return, in one form whether they fail or not; what MsgBack leans on.
-/
import Derived.Test.YtmmhchpilcjflaaMsgFrm
import Derived.Test.YtmmhchpilcjflaaMsgSm
import Derived.Test.YtmmhchpilcjflaaMsgRef
import Derived.Test.YtmmhchpilcjflaaRowM
set_option linter.unusedSimpArgs false
set_option linter.unusedVariables false
namespace Go.Proofs.Ytmmhchpilcjflaa
open Go.RowKit

theorem fits_g {m : PMsg} (h : m.FitsN) (g : greatB m = false) : m.Fits := by
  have := great_no g
  exact ⟨h.digest, h.at0, h.at1, h.iat0, h.iat1, h.iN0, h.iN1, by omega, by omega⟩
def bytesOr (m : PMsg) : ByteArray :=
  match bytesM m with
  | .ok s => s
  | .error _ => .empty
def dataOr (m : PMsg) : ByteArray :=
  match dataM m with
  | .ok s => s
  | .error _ => .empty
def errR (b : ByteArray) : Int :=
  match readM b with
  | .ok _ => 0
  | .error f => f
def backO (d : ByteArray) : PMsg :=
  match ofM d with
  | .ok m => m
  | .error _ => .zero
def errO (d : ByteArray) : Int :=
  match ofM d with
  | .ok _ => 0
  | .error f => f
theorem err_iff {m : PMsg} : errM m = 0 ↔ bytesM m = .ok (bytesOr m) := by
  unfold errM bytesOr
  cases h : bytesM m with
  | ok s => simp
  | error f => simp [bytes_ne h]
theorem errR_iff {b : ByteArray} : errR b = 0 ↔ readM b = .ok (backM b) := by
  unfold errR backM
  cases h : readM b with
  | ok s => simp
  | error f => simp [read_ne h]
theorem of_ne {d : ByteArray} {f : Int} (h : ofM d = .error f) : f ≠ 0 := by
  unfold ofM at h
  split at h
  · exact read_ne h
  · rename_i f' hx
    cases h
    exact whole_ne hx
theorem errO_iff {d : ByteArray} : errO d = 0 ↔ ofM d = .ok (backO d) := by
  unfold errO backO
  cases h : ofM d with
  | ok s => simp
  | error f => simp [of_ne h]
theorem bytesOr_size {m : PMsg} (hf : m.Fits) (hk : m.kind < 256) (hik : m.ikind < 256) : (bytesOr m).size ≤ 16000 := by
  unfold bytesOr
  cases h : bytesM m with
  | ok s => exact bytes_len_le hf hk hik h
  | error f => exact Nat.zero_le _
theorem dataOr_size {m : PMsg} (hf : m.Fits) (hk : m.kind < 256) (hik : m.ikind < 256) : (dataOr m).size ≤ 16012 := by
  unfold dataOr
  cases h : bytesM m with
  | ok s =>
    have := bytes_len_le hf hk hik h
    rw [data_ok hf hk hik h]
    simp only
    rw [frame_size]
    omega
  | error f => rw [data_bad h]; exact Nat.zero_le _
section
variable {w0 W : World} {L : List Blk} {m : PMsg} {vo vs : Value} {b d : ByteArray}
theorem Bytes_e (hf : m.Fits) (hk : m.kind < 256) (hik : m.ikind < 256) (hvo : Rd W vo m.owner) (hvs : Rd W vs m.set) (hlo : m.owner.length ≤ 1000000000000) (hls : m.set.length ≤ 1000000000000) :
    Calls Try.prog 15 #[.agg (mcells m vo vs)] W fun e W' => e = .returned (.tuple #[.string (bytesOr m), .int .i64 (errM m)]) ∧ Below W.heap.size W W' := by
  refine (Bytes_any hf hk hik hvo hvs hlo hls).mono ?_
  rintro e W' ⟨hb, hs⟩
  refine ⟨?_, hb⟩
  unfold Said at hs
  unfold bytesOr errM
  cases h : bytesM m with
  | ok s => rw [h] at hs; exact hs
  | error f => rw [h] at hs; exact hs
theorem Data_e (hf : m.Fits) (hk : m.kind < 256) (hik : m.ikind < 256) (hvo : Rd W vo m.owner) (hvs : Rd W vs m.set) (hlo : m.owner.length ≤ 1000000000000) (hls : m.set.length ≤ 1000000000000) :
    Calls Try.prog 21 #[.agg (mcells m vo vs)] W fun e W' => e = .returned (.tuple #[.string (dataOr m), .int .i64 (errM m)]) ∧ Below W.heap.size W W' := by
  refine (Data_any hf hk hik hvo hvs hlo hls).mono ?_
  rintro e W' ⟨hb, hs⟩
  refine ⟨?_, hb⟩
  unfold Said at hs
  unfold dataOr errM
  cases h : bytesM m with
  | ok s =>
    rw [data_ok hf hk hik h] at hs ⊢
    exact hs
  | error f =>
    rw [data_bad h] at hs ⊢
    exact hs
theorem Read_e (hb : b.size < 140737488351233) (h : Live w0 L W) :
    Calls Try.prog 16 #[.string b] W fun e W' => ∃ vo vs Ro Rs, e = .returned (.tuple #[.agg (mcells (backM b) vo vs), .int .i64 (errR b)]) ∧ Slot w0 vo (backM b).owner Ro ∧ Slot w0 vs (backM b).set Rs ∧ Live w0 (Ro ++ (Rs ++ L)) W' ∧ (backM b).owner.length ≤ 1024 ∧ (backM b).set.length ≤ 1024 := by
  refine (Read_any hb h).mono ?_
  intro e W' hs
  unfold Said at hs
  unfold backM errR
  cases hm : readM b with
  | ok m' =>
    rw [hm] at hs
    obtain ⟨vo, vs, Ro, Rs, he, ho, hs, hL⟩ := hs
    exact ⟨vo, vs, Ro, Rs, he, ho, hs, hL, (read_short hm).1, (read_short hm).2⟩
  | error f =>
    rw [hm] at hs
    exact ⟨_, _, [], [], hs.1, .inl ⟨.inl ⟨rfl, rfl⟩, rfl⟩, .inl ⟨.inl ⟨rfl, rfl⟩, rfl⟩, hs.2, Nat.zero_le _, Nat.zero_le _⟩
theorem of_short {d : ByteArray} {m : PMsg} (h : ofM d = .ok m) : m.owner.length ≤ 1024 ∧ m.set.length ≤ 1024 := by
  unfold ofM at h
  split at h
  · exact read_short h
  · cases h
theorem Of_e (hd : d.size < 140737488351233) (h : Live w0 L W) :
    Calls Try.prog 24 #[.string d] W fun e W' => ∃ vo vs Ro Rs, e = .returned (.tuple #[.agg (mcells (backO d) vo vs), .int .i64 (errO d)]) ∧ Slot w0 vo (backO d).owner Ro ∧ Slot w0 vs (backO d).set Rs ∧ Live w0 (Ro ++ (Rs ++ L)) W' ∧ (backO d).owner.length ≤ 1024 ∧ (backO d).set.length ≤ 1024 := by
  refine (Of_any hd h).mono ?_
  intro e W' hs
  unfold Said at hs
  unfold backO errO
  cases hm : ofM d with
  | ok m' =>
    rw [hm] at hs
    obtain ⟨vo, vs, Ro, Rs, he, ho, hs, hL⟩ := hs
    exact ⟨vo, vs, Ro, Rs, he, ho, hs, hL, (of_short hm).1, (of_short hm).2⟩
  | error f =>
    rw [hm] at hs
    exact ⟨_, _, [], [], hs.1, .inl ⟨.inl ⟨rfl, rfl⟩, rfl⟩, .inl ⟨.inl ⟨rfl, rfl⟩, rfl⟩, hs.2, Nat.zero_le _, Nat.zero_le _⟩
theorem Slot.rdm {v : Value} {l : List Int} {R L' : List Blk} (h : Slot w0 v l R) (hl : Live w0 L' W) (hs : ∀ p, p ∈ R → p ∈ L') : Rd W v l := by
  rcases h with ⟨h, rfl⟩ | h
  · exact h.kept fun k hk => hl.1.block k hk
  · rcases h with ⟨rfl, hx, _⟩ | ⟨g, cap, cur, rfl, rfl, h1, h2, h3, h4⟩
    · have : l = [] := by simpa [ints] using hx
      exact .inl ⟨rfl, this⟩
    · have hat := hl.mem_at (hs _ (List.mem_singleton.2 rfl))
      rw [ints_length] at h1
      refine .inr ⟨⟨g, 0, none⟩, cap, by rw [ints_length], h1, fun j u hj => ?_⟩
      have e : (⟨g, 0, none⟩ : Addr).add j = ⟨g, j, none⟩ := by unfold Addr.add; split <;> simp_all
      rw [e, cells_at hat]
      have h5 : (cur.toList.take (ints l).length)[j]? = (ints l)[j]? := by rw [h4]
      have hjl : j < (ints l).length := (List.getElem?_eq_some_iff.1 hj).1
      rw [List.getElem?_take, if_pos hjl] at h5
      rw [← Array.getElem?_toList, h5, hj]
theorem Live.dropAll {L : List Blk} (h : Live w0 L W) : Live w0 [] W := ⟨h.1, by simp, by simp⟩
/-! What a row that is loaded, or stored, comes to. -/
theorem ld_row {w : World} {g : Nat} (hg : w.heap[g]? = some (.cells (mcells m vo vs) 29 (0, 0))) : (Instr.loadAt 29 (.pointer (some ⟨g, 0, none⟩))).run Try.prog w = .ok (.agg (mcells m vo vs)) w := by
  simp only [Instr.loadAt, Instr.sureAddr, Sem.run_bind, Sem.run_pure, Result.andThen_ok, run_loadVar_row w g 29 29 (mcells m vo vs) (0, 0) _ hg Try.underlying29 rfl (mcells_info _ _ _)]
theorem st_row {w : World} {g : Nat} {m2 : PMsg} {vo2 vs2 : Value} (hg : w.heap[g]? = some (.cells (mcells m2 vo2 vs2) 29 (0, 0))) (h1 : (mcells m vo vs).all (·.oneCell') = true) : (Instr.storeAt 29 (.pointer (some ⟨g, 0, none⟩)) (.agg (mcells m vo vs))).run Try.prog w = .ok () (w.setRow g (mcells m vo vs)) := by
  simp only [Instr.storeAt, Instr.sureAddr, Sem.run_bind, Sem.run_pure, Result.andThen_ok, run_storeVar_row w g 29 29 (mcells m2 vo2 vs2) (mcells m vo vs) hg (mcells_info _ _ _) rfl h1]
theorem al_row {w : World} : (Instr.alloc 29 true (.tuple #[])).run Try.prog w = .ok (.pointer (some ⟨w.heap.size, 0, none⟩)) (w.alloc (.cells zcells 29)) := by
  simp [go_sem]
  rfl
theorem bx_row {w : World} : (Instr.box 29 (.agg (mcells m vo vs))).run Try.prog w = .ok (.pointer (some ⟨w.heap.size, 0, none⟩)) (w.alloc (.cells (mcells m vo vs) 29)) := by
  simp [go_sem]
theorem bd_row {w : World} : (Instr.build 29 #[]).run Try.prog w = .ok (.agg zcells) w := by
  simp [go_sem]
  rfl
theorem B_ne {t : TypeId} (ht : Try.prog.underlying t = some (.int .i64)) {X Y : Operand} {w : World} (x y : Int) : ((do eqGuard .neq t X Y (.int .i64 x) (.int .i64 y); binOp .neq t (.int .i64 x) (.int .i64 y)) : Sem Value).run Try.prog w = .ok (.bool (x != y)) w := by simp [go_sem, ht]
theorem B_eq {t : TypeId} (ht : Try.prog.underlying t = some (.int .i64)) {X Y : Operand} {w : World} (x y : Int) : ((do eqGuard .eql t X Y (.int .i64 x) (.int .i64 y); binOp .eql t (.int .i64 x) (.int .i64 y)) : Sem Value).run Try.prog w = .ok (.bool (x == y)) w := by simp [go_sem, ht]
theorem B_gt {t : TypeId} (ht : Try.prog.underlying t = some (.int .i64)) {X Y : Operand} {w : World} (x y : Int) : ((do eqGuard .gtr t X Y (.int .i64 x) (.int .i64 y); binOp .gtr t (.int .i64 x) (.int .i64 y)) : Sem Value).run Try.prog w = .ok (.bool (decide (x > y))) w := by simp [go_sem, ht]
theorem B_neb {X Y : Operand} {w : World} (x y : Bool) : ((do eqGuard .neq 4 X Y (.bool x) (.bool y); binOp .neq 4 (.bool x) (.bool y)) : Sem Value).run Try.prog w = .ok (.bool (x != y)) w := by cases x <;> cases y <;> simp [go_sem]
theorem B_eqs {X Y : Operand} {w : World} (x y : ByteArray) : ((do eqGuard .eql 9 X Y (.string x) (.string y); binOp .eql 9 (.string x) (.string y)) : Sem Value).run Try.prog w = .ok (.bool (x.toList == y.toList)) w := by simp [go_sem]
/-- A run whose Boolean is known. -/
theorem B_to {s : Sem Value} {w w' : World} {x y : Bool} (h : s.run Try.prog w = .ok (.bool x) w') (e : x = y) : s.run Try.prog w = .ok (.bool y) w' := e ▸ h
theorem B_ge {t : TypeId} (ht : Try.prog.underlying t = some (.int .i64)) {X Y : Operand} {w : World} (x y : Int) : ((do eqGuard .geq t X Y (.int .i64 x) (.int .i64 y); binOp .geq t (.int .i64 x) (.int .i64 y)) : Sem Value).run Try.prog w = .ok (.bool (decide (x ≥ y))) w := by simp [go_sem, ht]
theorem B_lt {t : TypeId} (ht : Try.prog.underlying t = some (.int .i64)) {X Y : Operand} {w : World} (x y : Int) : ((do eqGuard .lss t X Y (.int .i64 x) (.int .i64 y); binOp .lss t (.int .i64 x) (.int .i64 y)) : Sem Value).run Try.prog w = .ok (.bool (decide (x < y))) w := by simp [go_sem, ht]
theorem bs_u8 {w : World} (x : Int) : (Instr.buildSlice 38 1 #[(0, .int .u8 x)]).run Try.prog w = .ok (.slice (some ⟨w.heap.size, 0, none⟩) 1 1) (w.alloc (.cells #[.int .u8 x] 5)) := by
  simp [go_sem]
theorem B_cat {X Y : Operand} {w : World} (x y : ByteArray) (h : x.size + y.size ≤ 100000) : ((do eqGuard .add 9 X Y (.string x) (.string y); binOp .add 9 (.string x) (.string y)) : Sem Value).run Try.prog w = .ok (.string (x ++ y)) w := by
  simp [go_sem]
  omega
theorem sl_hi {w : World} (s : ByteArray) (k : Nat) (h : k ≤ s.size) : (Instr.sliceAt 9 (.string s) none (some (.int .i64 (k : Nat))) none).run Try.prog w = .ok (.string (s.extract 0 k)) w := by
  simp [go_sem, h]
theorem bytes_app (x y : ByteArray) : bytesOf (x ++ y) = bytesOf x ++ bytesOf y := by
  simp [bytesOf, ByteArray.data_append]
/-- One byte as a text. -/
theorem cv_u8 {w : World} {L : List Blk} {x g : Nat} (hx : x < 256) (h : Live w0 ((g, #[.int .u8 (x : Nat)], 5) :: L) w) : (convert 38 9 (.slice (some ⟨g, 0, none⟩) 1 1)).run Try.prog w = .ok (.string (packL [x])) w := by
  have hr : RowIs 5 (.slice (some ⟨g, 0, none⟩) 1 1) (u8s [x]) [(g, #[.int .u8 (x : Nat)], 5)] := .inr ⟨g, 1, #[.int .u8 (x : Nat)], rfl, rfl, by simp [u8s], by unfold maxLen; omega, rfl, rfl⟩
  exact string_run hr (B := [(g, #[.int .u8 (x : Nat)], 5)]) h (by simpa using hx)
end
end Go.Proofs.Ytmmhchpilcjflaa
