/-
  meterlaw04.MsgKnown: the chapter's examples.
-/
import Derived.Test.YtmmhchpilcjflaaMsgQi
import Derived.Laws.MakeOwn
import Derived.Laws.OwnMore
set_option linter.unusedSimpArgs false
set_option linter.unusedVariables false
namespace Go.Proofs.Ytmmhchpilcjflaa
open Go.RowKit

def longKey : ByteArray := ⟨(List.replicate 256 0).toArray⟩
def k1 : PMsg := { PMsg.zero with kind := 12, n := 1 }
def k2 : PMsg := { PMsg.zero with kind := 12, move := -1 }
def k3 : PMsg := { PMsg.zero with kind := 1, ikey := longKey }
theorem vb0 : vbytes 0 = [0] := vbytes_small (by decide)
theorem k1_walk : (walkM wSem (([] : List Nat), k1) : Except Int (List Nat × PMsg)) = .ok ([] ++ [12] ++ vbytes 0 ++ vbytes 0, k1) := rfl
theorem k1_err : errM k1 = 1 := by
  unfold errM bytesM
  rw [k1_walk, vb0]
  kernel_rfl
theorem k2_err : errM k2 = 1 := by
  unfold errM bytesM
  kernel_rfl
theorem k3_err : errM k3 = 1 := by
  unfold errM bytesM
  kernel_rfl
theorem k0_err : errM .zero = 10 := by
  unfold errM bytesM
  kernel_rfl
theorem made_conv (w : World) (n : Nat) : (convert 38 9 (.slice (some ⟨w.heap.size, 0, none⟩) n n)).run Try.prog (w.alloc (.cells (madeCells #[.int .u8 0] n) 5)) = .ok (.string ⟨(List.replicate n 0).toArray⟩) (w.alloc (.cells (madeCells #[.int .u8 0] n) 5)) := by
  have h := run_convert_bytes_back (P := Try.prog) (w.alloc (.cells (madeCells #[.int .u8 0] n) 5)) 38 9 5 ⟨w.heap.size, 0, none⟩ n (List.replicate n 0) Try.underlying38 Try.underlying5 Try.underlying9 (fun j hj => by
    have hj2 : j < n := by simpa using hj
    have e : (⟨w.heap.size, 0, none⟩ : Addr).add j = ⟨w.heap.size, j, none⟩ := by unfold Addr.add; split <;> simp_all
    rw [e, World.cell?_alloc_mark, ← Array.getElem?_toList, toList_madeCells_one, List.getElem?_replicate, if_pos hj2]
    simp)
  rw [List.length_replicate] at h
  exact h
theorem made_run (w : World) (n : Nat) (hn : n ≤ 1000) : (Instr.makeSlice 38 (.int .i64 n) (.int .i64 n)).run Try.prog w = .ok (.slice (some ⟨w.heap.size, 0, none⟩) n n) (w.alloc (.cells (madeCells #[.int .u8 0] n) 5)) := by
  obtain ⟨i0, hi, hz0, hz1, hz2⟩ := info_parts infoU8
  have h := run_makeSlice (P := Try.prog) w 38 5 i0 (.int .u8 0) Try.underlying38 hi hz0 .i64 .i64 n n (by omega) (by omega) (by rw [hz1]; omega) (by rw [hz2]; omega) (by omega)
  rw [hz1, Int.toNat_natCast, Nat.mul_one] at h
  exact h
theorem mk_run : ∃ Z : Array Value, (∀ w : World, (Instr.makeSlice 38 (.int .i64 256) (.int .i64 256)).run Try.prog w = .ok (.slice (some ⟨w.heap.size, 0, none⟩) 256 256) (w.alloc (.cells Z 5))) ∧
    ∀ w : World, (convert 38 9 (.slice (some ⟨w.heap.size, 0, none⟩) 256 256)).run Try.prog (w.alloc (.cells Z 5)) = .ok (.string longKey) (w.alloc (.cells Z 5)) :=
  ⟨madeCells #[.int .u8 0] 256, fun w => made_run w 256 (by decide), fun w => made_conv w 256⟩

theorem wpList_load_row_g {P : Program} {ops : Array Oper} {rest : List Oper} {o : Oper} {a : Act} {w : World} {Q : Exit → Act → World → Prop} (hw : Region.wanted o (yielded ops a.tmps) = true) (ty : TypeId) (x : Operand) (ho : o.op = .load ty x)
    (g : Nat) (hx : a.eval x = .pointer (some ⟨g, 0, none⟩)) (t : TypeId) (cs : Array Value) (fr : Nat × Nat) (d : TypeDesc) (hg : w.heap[g]? = some (.cells cs t fr))
    (hu : P.underlying ty = some d) (hd : (match d with | .struct _ | .array _ _ => true | _ => false) = true) (hi : (P.info? ty).map (·.size) = some cs.size)
    (h : wpList P ops Q rest (a.put o.dst (.agg cs)) w) : wpList P ops Q (o :: rest) a w :=
  wpList_step fun K hK => by
    rw [if_pos hw]
    exact wp_load_row ty x ho g hx t cs fr d hg hu hd hi (hK _ _ h)
theorem Live.sub {w0 W : World} {L L' : List Blk} (h : Live w0 L W) (hn : (L'.map (·.1)).Nodup) (hs : ∀ p ∈ L', p ∈ L) : Live w0 L' W := ⟨h.1, hn, fun p hp => h.2.2 p (hs p hp)⟩
section
variable {W : World}
set_option maxHeartbeats 16000000 in
set_option maxRecDepth 100000 in
theorem known_ok : Calls Try.prog 4 #[] W fun e W' => e = .returned (.bool true) ∧ Below W.heap.size W W' := by
  obtain ⟨Z, hmk, hcv⟩ := mk_run
  have nilR : ∀ w : World, Rd w (.slice none 0 0) [] := fun w => .inl ⟨rfl, rfl⟩
  have hb : ∀ w : World, Calls Try.prog 15 #[.agg (mcells ab (.slice none 0 0) (.slice none 0 0))] w fun e W' => e = .returned (.tuple #[.string ⟨#[12, 1, 2]⟩, .int .i64 0]) ∧ Below w.heap.size w W' := fun w => by
    have h := Bytes_any (W := w) (m := ab) (vo := .slice none 0 0) (vs := .slice none 0 0) ⟨by decide, by decide, by decide, by decide, by decide, by decide, by decide, by decide, by decide⟩ (by decide) (by decide) (nilR w) (nilR w) (by decide) (by decide)
    rw [ab_bytes] at h
    exact h.mono fun e W' hh => ⟨hh.2, hh.1⟩
  have hr : ∀ (w : World), Calls Try.prog 16 #[.string ⟨#[12, 1, 2]⟩] w fun e W' => ∃ vo vs Ro Rs, e = .returned (.tuple #[.agg (mcells ab vo vs), .int .i64 0]) ∧ Slot w vo ab.owner Ro ∧ Slot w vs ab.set Rs ∧ Live w (Ro ++ (Rs ++ [])) W' := fun w => by
    have h := Read_any (w0 := w) (L := []) (W := w) (b := ⟨#[12, 1, 2]⟩) (by decide) (Live.init w)
    rw [ab_read] at h
    exact h
  have hbad : ∀ (b : ByteArray) (f : Int), b.size < 140737488351233 → readM b = .error f → ∀ w : World, Calls Try.prog 16 #[.string b] w fun e W' => e = .returned (.tuple #[.agg zcells, .int .i64 f]) ∧ Below w.heap.size w W' := fun b f hb hf w => by
    have h := Read_any (w0 := w) (L := []) (W := w) (b := b) hb (Live.init w)
    rw [hf] at h
    exact h.mono fun e W' hh => ⟨hh.1, hh.2.1⟩
  have hR : ∀ (m : PMsg) (f : Int), errM m = f → m.Fits → m.kind < 256 → m.ikind < 256 → m.owner = [] → m.set = [] → ∀ w : World, Calls Try.prog 17 #[.agg (mcells m (.slice none 0 0) (.slice none 0 0))] w fun e W' => e = .returned (.int .i64 f) ∧ Below w.heap.size w W' := fun m f he hf hk hik ho hs w => by
    have h := Right_any (W := w) hf hk hik (by rw [ho]; exact nilR w) (by rw [hs]; exact nilR w) (by rw [ho]; decide) (by rw [hs]; decide)
    rw [he] at h
    exact h
  have hR1 := hR k1 1 k1_err ⟨by decide, by decide, by decide, by decide, by decide, by decide, by decide, by decide, by decide⟩ (by decide) (by decide) rfl rfl
  have hR2 := hR k2 1 k2_err ⟨by decide, by decide, by decide, by decide, by decide, by decide, by decide, by decide, by decide⟩ (by decide) (by decide) rfl rfl
  have hR3 := hR k3 1 k3_err ⟨by decide, by decide, by decide, by decide, by decide, by decide, by decide, by decide, by decide⟩ (by decide) (by decide) rfl rfl
  have hR0 := hR .zero 10 k0_err zero_fits (by decide) (by decide) rfl rfl
  clear hR
  go_enter Try.func4, Try.ntmps4
  go_wp2_with fail
  refine Calls.mono (hb W) ?_
  rintro e W1 ⟨rfl, B1⟩
  go_wp2_with fail
  refine Calls.mono (hr W1) ?_
  rintro e W2 ⟨vo, vs, Ro, Rs, rfl, ho, hs, hL2⟩
  have hL3 := hL2.alloc zcells 29
  have hL4 := hL3.row (mcells ab vo vs)
  have hst := hL3.at_
  have hone : (mcells ab vo vs).all (·.oneCell') = true := mcells_one (slot_one ho) (slot_one hs)
  go_wp2_with (refine wpList_store_row rfl 29 (.tmp 3) (.tmp 21) rfl W2.heap.size (mcells ab vo vs) rfl rfl 29 zcells hst (mcells_info _ _ _) rfl hone ?_; change wpList _ _ _ _ _ ((W2.alloc (.cells zcells 29)).setRow W2.heap.size (mcells ab vo vs)); generalize hg3 : W2.heap.size = g3 at *; generalize (W2.alloc (.cells zcells 29)).setRow g3 (mcells ab vo vs) = W3 at *)
  refine Calls.mono (hbad ⟨#[12, 1]⟩ 7 (by decide) rd_short W3) ?_
  rintro e V4 ⟨rfl, B4⟩
  have M4 := hL4.call B4
  have N4 := M4.alloc zcells 29
  have O4 := N4.row zcells
  have hst4 := N4.at_
  go_wp2_with (refine wpList_store_row rfl 29 (.tmp 5) (.tmp 25) rfl V4.heap.size zcells rfl rfl 29 zcells hst4 (mcells_info _ _ _) rfl (mcells_one rfl rfl) ?_; change wpList _ _ _ _ _ ((V4.alloc (.cells zcells 29)).setRow V4.heap.size zcells); generalize (V4.alloc (.cells zcells 29)).setRow V4.heap.size zcells = U4 at *)
  refine Calls.mono (hbad ⟨#[12, 1, 2, 0]⟩ 8 (by decide) rd_form U4) ?_
  rintro e V5 ⟨rfl, B5⟩
  have M5 := O4.call B5
  have N5 := M5.alloc zcells 29
  have O5 := N5.row zcells
  have hst5 := N5.at_
  go_wp2_with (refine wpList_store_row rfl 29 (.tmp 7) (.tmp 29) rfl V5.heap.size zcells rfl rfl 29 zcells hst5 (mcells_info _ _ _) rfl (mcells_one rfl rfl) ?_; change wpList _ _ _ _ _ ((V5.alloc (.cells zcells 29)).setRow V5.heap.size zcells); generalize (V5.alloc (.cells zcells 29)).setRow V5.heap.size zcells = U5 at *)
  refine Calls.mono (hbad ⟨#[15, 1, 2]⟩ 10 (by decide) rd_kind U5) ?_
  rintro e V6 ⟨rfl, B6⟩
  have M6 := O5.call B6
  have N6 := M6.alloc zcells 29
  have O6 := N6.row zcells
  have hst6 := N6.at_
  go_wp2_with (refine wpList_store_row rfl 29 (.tmp 9) (.tmp 33) rfl V6.heap.size zcells rfl rfl 29 zcells hst6 (mcells_info _ _ _) rfl (mcells_one rfl rfl) ?_; change wpList _ _ _ _ _ ((V6.alloc (.cells zcells 29)).setRow V6.heap.size zcells); generalize (V6.alloc (.cells zcells 29)).setRow V6.heap.size zcells = U6 at *)
  refine Calls.mono (hbad ⟨#[]⟩ 7 (by decide) rd_none U6) ?_
  rintro e V7 ⟨rfl, B7⟩
  have M7 := O6.call B7
  have N7 := M7.alloc zcells 29
  have O7 := N7.row zcells
  have hst7 := N7.at_
  go_wp2_with (refine wpList_store_row rfl 29 (.tmp 11) (.tmp 37) rfl V7.heap.size zcells rfl rfl 29 zcells hst7 (mcells_info _ _ _) rfl (mcells_one rfl rfl) ?_; change wpList _ _ _ _ _ ((V7.alloc (.cells zcells 29)).setRow V7.heap.size zcells); generalize (V7.alloc (.cells zcells 29)).setRow V7.heap.size zcells = U7 at *)
  refine Calls.mono awake_ok ?_
  rintro e X1 ⟨rfl, C1⟩
  have hs1 : ∀ (w : World) (o : Obj), (w.alloc o).heap.size = w.heap.size + 1 := fun w o => by simp
  have P1 := (O7.alloc Z 5).alloc (#[.int .i64 0, .int .i64 0, .int .i64 0, .int .u8 0, .string longKey, .int .i64 0, .int .i64 0, .int .i64 0] : Array Value) 24
  simp only [hs1] at P1
  have P2 := P1.call C1
  have hm3 : X1.heap[g3]? = some (.cells (mcells ab vo vs) 29 (0, 0)) := P2.mem_at (by simp)
  have hk24 : X1.heap[U7.heap.size + 1]? = some (.cells #[.int .i64 0, .int .i64 0, .int .i64 0, .int .u8 0, .string longKey, .int .i64 0, .int .i64 0, .int .i64 0] 24 (0, 0)) := P2.mem_at (by simp)
  have ro : Rd X1 vo ab.owner := ho.rd (L := Rs) (P2.sub (by
    have h := hL2.2.1
    simpa using h) (by
    intro p hp
    simp only [List.mem_append] at hp
    simp only [List.mem_cons, List.mem_append]
    rcases hp with hp | hp <;> simp [hp]))
  have rs : Rd X1 vs ab.set := hs.rd (L := []) (P2.sub (by
    have h := hL2.dropl.2.1
    simpa using h) (by
    intro p hp
    simp only [List.mem_append] at hp
    simp only [List.mem_cons, List.mem_append]
    rcases hp with hp | hp <;> simp_all))
  have hsame : Calls Try.prog 13 #[.agg (mcells ab vo vs), .agg (mcells ab (.slice none 0 0) (.slice none 0 0))] X1 fun e W' => e = .returned (.bool true) ∧ Below X1.heap.size X1 W' := by
    have h := Same_any (W := X1) (a := ab) (b := ab) ro rs (nilR X1) (nilR X1) (by decide) (by decide) (by decide) (by decide)
    have e : sameB ab ab = true := by kernel_rfl
    rw [e] at h
    exact h
  clear hst4 hst5 hst6 hst7 hone hst ro rs hb hr hbad
  go_wp2_with (refine wpList_load_row_g (by rfl) 29 (.tmp 3) rfl g3 rfl 29 (mcells ab vo vs) (0, 0) _ hm3 Try.underlying29 rfl (mcells_info _ _ _) ?_)
  refine Calls.mono hsame ?_
  rintro e X2 ⟨rfl, C2⟩
  have P3 := P2.call C2
  go_wp2_with fail
  refine Calls.mono (hR1 X2) ?_
  rintro e X3 ⟨rfl, C3⟩
  have P4 := P3.call C3
  go_wp2_with fail
  refine Calls.mono (hR2 X3) ?_
  rintro e X4 ⟨rfl, C4⟩
  have P5 := P4.call C4
  go_wp2_with fail
  refine Calls.mono (hR0 X4) ?_
  rintro e X5 ⟨rfl, C5⟩
  have P6 := P5.call C5
  have hk24' : X5.heap[U7.heap.size + 1]? = some (.cells #[.int .i64 0, .int .i64 0, .int .i64 0, .int .u8 0, .string longKey, .int .i64 0, .int .i64 0, .int .i64 0] 24 (0, 0)) := P6.mem_at (by simp)
  go_wp2_with (refine wpList_load_row_g (by rfl) 24 (.tmp 13) rfl (U7.heap.size + 1) rfl 24 #[.int .i64 0, .int .i64 0, .int .i64 0, .int .u8 0, .string longKey, .int .i64 0, .int .i64 0, .int .i64 0] (0, 0) _ hk24' Try.underlying24 rfl (by kernel_rfl) ?_)
  refine Calls.mono (hR3 X5) ?_
  rintro e X6 ⟨rfl, C6⟩
  go_wp2
  go_ret
  exact ⟨rfl, B1.trans ((P6.call C6).1.mono B1.size)⟩
end
end Go.Proofs.Ytmmhchpilcjflaa
