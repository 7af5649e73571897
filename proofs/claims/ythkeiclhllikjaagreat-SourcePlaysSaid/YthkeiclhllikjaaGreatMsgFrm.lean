/-
  msg.Data and msg.Of: a message in a frame, in every case.
-/
import Derived.Test.YthkeiclhllikjaaGreatFrB
import Derived.Test.YthkeiclhllikjaaGreatMsgQi
set_option linter.unusedSimpArgs false
set_option linter.unusedVariables false
namespace Go.Proofs.YthkeiclhllikjaaGreat
open Go.RowKit
theorem bytes_ne {m : PMsg} {f : Int} (h : bytesM m = .error f) : f ≠ 0 := by
 unfold bytesM bytesEnd at h
 split at h
 ·rename_i f' hx
  cases h
  exact walkM_ne wSound hx
 ·split at h
  ·cases h
  ·cases h; decide
theorem whole_ne {b : ByteArray} {f : Int} (h : wholeM b = .error f) : f ≠ 0 := by
 unfold wholeM at h
 split at h
 ·split at h
  ·cases h; decide
  ·cases h
 ·rename_i f' hx
  cases h
  exact next_ne hx
def dataM (m : PMsg) : Except Int ByteArray :=
 match bytesM m with
 | .ok b => putM b
 | .error f => .error f
def ofM (d : ByteArray) : Except Int PMsg :=
 match wholeM d with
 | .ok b => readM b
 | .error f => .error f
theorem bytes_len_le {m : PMsg} {b : ByteArray} (hf : m.Fits) (hk : m.kind < 256) (hik : m.ikind < 256) (h : bytesM m = .ok b) : b.size ≤ 16000 := by
 rw [bytes_em hf hk hik] at h
 split at h
 ·split at h
  ·rename_i ho
   cases h
   rw [packB_size]
   exact out_le hf (by simpa using (Bool.and_eq_true _ _ ▸ ho : _ ∧ _).1)
  ·cases h
 ·cases h
theorem data_ok {m : PMsg} {b : ByteArray} (hf : m.Fits) (hk : m.kind < 256) (hik : m.ikind < 256) (h : bytesM m = .ok b) : dataM m = .ok (packL (frameL b)) := by
 have := bytes_len_le hf hk hik h
 unfold dataM putM
 rw [h]
 simp only
 rw [if_neg (by omega)]
theorem data_bad {m : PMsg} {f : Int} (h : bytesM m = .error f) : dataM m = .error f := by
 unfold dataM
 rw [h]
theorem frame_size (b : ByteArray) : (packL (frameL b)).size = 12 + b.size := by
 rw [packL_size]
 simp only [frameL, List.length_append, bytes_size, le4_len]
 have e : (headL b.size).length = 8 := rfl
 omega
theorem of_data {m : PMsg} {b : ByteArray} (hf : m.Fits) (hk : m.kind < 256) (hik : m.ikind < 256) (h : bytesM m = .ok b) : ofM (packL (frameL b)) = .ok m := by
 have := bytes_len_le hf hk hik h
 unfold ofM
 rw [whole_put (by omega)]
 exact (bytesM_ok hf hk hik h).2
section
variable {w0 W : World} {L : List Blk} {m : PMsg} {vo vs : Value} {d : ByteArray}
set_option maxHeartbeats 4000000 in
set_option maxRecDepth 100000 in
theorem Data_any (hf : m.Fits) (hk : m.kind < 256) (hik : m.ikind < 256) (hvo : Rd W vo m.owner) (hvs : Rd W vs m.set) (hlo : m.owner.length ≤ 1000000000000) (hls : m.set.length ≤ 1000000000000) :
  Calls Tryz.prog 40 #[.agg (mcells m vo vs)] W fun e W' => Below W.heap.size W W' ∧ Said (dataM m) (fun s => e = .returned (.tuple #[.string s, .int .i64 0])) (fun f => e = .returned (.tuple #[.string .empty, .int .i64 f])) := by
 have h0 := (Live.init W).alloc (mcells m vo vs) 37
 have hld := h0.at_
 have hb := Bytes_any (W := W.alloc (.cells (mcells m vo vs) 37)) hf hk hik (hvo.kept fun k hk => h0.1.block k hk) (hvs.kept fun k hk => h0.1.block k hk) hlo hls
 obtain ⟨rB, hrB⟩ : ∃ x, x = bytesM m := ⟨_, rfl⟩
 obtain ⟨rD, hrD⟩ : ∃ x, x = dataM m := ⟨_, rfl⟩
 rw [← hrB] at hb
 rw [← hrD]
 have Hf := Lib.hid hf
 have Hk := Lib.hid hk
 have Hik := Lib.hid hik
 have HrB := Lib.hid hrB
 have HrD := Lib.hid hrD
 clear hvo hvs hlo hls hf hk hik hrB hrD
 go_enter Tryz.func40, Tryz.ntmps40
 go_wp2_with (refine wpList_load_row rfl 37 (.tmp 1) rfl W.heap.size rfl 37 (mcells m vo vs) (0, 0) _ hld Tryz.underlying37 rfl (mcells_info _ _ _) ?_)
 refine Calls.mono hb ?_
 intro e W' hs
 obtain ⟨hbl, hs⟩ := hs
 have h1 := h0.call hbl
 clear hb h0 hld hbl
 unfold Said at hs
 cases rB with
 | ok b =>
  have hbk := HrB.out.symm
  have hz := bytes_len_le Hf.out Hk.out Hik.out hbk
  have hd : rD = putM b := by rw [HrD.out]; unfold dataM; rw [hbk]
  have hp := Put_any (s := b) (by omega) h1
  rw [← hd] at hp
  have Hz := Lib.hid hz
  clear hz hbk hd h1
  subst hs
  go_wp2_with fail
  refine Calls.mono hp ?_
  intro e w2 hs2
  unfold Said at hs2
  cases rD with
  | ok c =>
   obtain ⟨rfl, h2⟩ := hs2
   clear hp
   go_wp2
   exact bodyPost_ret (v := .tuple #[.string c, .int .i64 0]) (by simp [results, Tryz.results40, go_sem] <;> rfl) rfl ⟨h2.1, rfl⟩
  | error f =>
   obtain ⟨rfl, h2⟩ := hs2
   clear hp
   go_wp2
   exact bodyPost_ret (v := .tuple #[.string .empty, .int .i64 f]) (by simp [results, Tryz.results40, go_sem] <;> rfl) rfl ⟨h2.1, rfl⟩
 | error f =>
  have hbk := HrB.out.symm
  have hne := bytes_ne hbk
  have hd : rD = .error f := by rw [HrD.out]; exact data_bad hbk
  have e2 : (f != 0) = true := bne_iff_ne.2 hne
  have Hd := Lib.hid hd
  clear hne hbk hd
  subst hs
  go_wp2
  refine bodyPost_ret (v := .tuple #[.string .empty, .int .i64 f]) (by simp [results, Tryz.results40, go_sem] <;> rfl) rfl ⟨h1.1, ?_⟩
  rw [Hd.out]
  exact rfl
theorem of_results {tmps : Array Value} {w : World} {g : Nat} {cs : Array Value} (hp : tmps.getD 2 undef = .pointer (some ⟨g, 0, none⟩)) (hg : w.heap[g]? = some (.cells cs 37 (0, 0))) (hs : cs.size = 22) :
  (results Tryz.f41 tmps).run Tryz.prog w = .ok (.tuple #[.agg cs, tmps.getD 3 undef]) w := by
 rw [results_cell_tmp (p := 2) (u := 3) (ty := 37) rfl, hp]
 have h := run_loadVar_row (P := Tryz.prog) w g 37 37 cs (0, 0) _ hg Tryz.underlying37 rfl (by rw [info29, hs])
 simp [asAddr, h]
set_option maxHeartbeats 4000000 in
set_option maxRecDepth 100000 in
theorem Of_any (hd : d.size < 140737488351233) (h : Live w0 L W) :
  Calls Tryz.prog 41 #[.string d] W fun e W' => Said (ofM d) (fun m' => ∃ vo vs Ro Rs, e = .returned (.tuple #[.agg (mcells m' vo vs), .int .i64 0]) ∧ Slot w0 vo m'.owner Ro ∧ Slot w0 vs m'.set Rs ∧ Live w0 (Ro ++ (Rs ++ L)) W')
   (fun f => e = .returned (.tuple #[.agg zcells, .int .i64 f]) ∧ Live w0 L W') := by
 obtain ⟨rO, hrO⟩ : ∃ x, x = ofM d := ⟨_, rfl⟩
 obtain ⟨rW, hrW⟩ : ∃ x, x = wholeM d := ⟨_, rfl⟩
 have hw := Whole_any hd (h.alloc zcells 37)
 rw [← hrO]
 rw [← hrW] at hw
 have HrO := Lib.hid hrO
 have HrW := Lib.hid hrW
 have Hd := Lib.hid hd
 clear hrO hrW hd
 go_enter Tryz.func41, Tryz.ntmps41
 go_wp2_with fail
 refine Calls.mono hw ?_
 intro e w1 hs
 unfold Said at hs
 cases rW with
 | ok b =>
  obtain ⟨rfl, h1⟩ := hs
  have hbz : b.size < 140737488351233 := by
   have hz : b.size ≤ d.size := by
    have hh := HrW.out.symm
    unfold wholeM at hh
    split at hh
    ·rename_i x hx
     split at hh
     ·cases hh
     ·cases hh
      unfold nextM at hx
      repeat' split at hx
      all_goals (cases hx)
      rw [ByteArray.size_extract]
      omega
    ·cases hh
   have := Hd.out
   omega
  have hO : rO = readM b := by rw [HrO.out]; unfold ofM; rw [← HrW.out]
  have hr := Read_any hbz h1
  rw [← hO] at hr
  clear hbz hO hw
  go_wp2_with fail
  refine Calls.mono hr ?_
  intro e w2 hs2
  unfold Said at hs2
  cases rO with
  | ok m' =>
   obtain ⟨vo, vs, Ro, Rs, rfl, ho, hsl, h2⟩ := hs2
   have h3 : Live w0 ((W.heap.size, zcells, 37) :: (Ro ++ (Rs ++ L))) w2 := h2.perm (((List.perm_middle (l₁ := Rs)).append_left Ro).trans (List.perm_middle (l₁ := Ro)))
   have hst := h3.at_
   have hone : (mcells m' vo vs).all (·.oneCell') = true := mcells_one (slot_one ho) (slot_one hsl)
   have h6 := h3.row (mcells m' vo vs)
   clear hr h1 h2
   go_wp2_with (refine wpList_store_row rfl 37 (.tmp 2) (.tmp 17) rfl W.heap.size (mcells m' vo vs) rfl rfl 37 zcells hst (mcells_info _ _ _) rfl hone ?_)
   refine bodyPost_ret (v := .tuple #[.agg (mcells m' vo vs), .int .i64 0]) (of_results rfl h6.at_ rfl) rfl ?_
   exact ⟨vo, vs, Ro, Rs, rfl, ho, hsl, h6.tail⟩
  | error f =>
   obtain ⟨rfl, h2⟩ := hs2
   have hst := h2.at_
   have h6 := h2.row zcells
   clear hr h1
   go_wp2_with (refine wpList_store_row rfl 37 (.tmp 2) (.tmp 17) rfl W.heap.size zcells rfl rfl 37 zcells hst (mcells_info _ _ _) rfl (mcells_one rfl rfl) ?_)
   refine bodyPost_ret (v := .tuple #[.agg zcells, .int .i64 f]) (of_results rfl h6.at_ rfl) rfl ?_
   exact ⟨rfl, h6.tail⟩
 | error f =>
  obtain ⟨rfl, h1⟩ := hs
  have hne := whole_ne HrW.out.symm
  have hO : rO = .error f := by rw [HrO.out]; unfold ofM; rw [← HrW.out]
  have e2 : (f != 0) = true := bne_iff_ne.2 hne
  have hst := h1.at_
  have h6 := h1.row zcells
  have HO := Lib.hid hO
  clear hne hO hw
  go_wp2_with (refine wpList_store_row rfl 37 (.tmp 2) (.tmp 13) rfl W.heap.size zcells rfl rfl 37 zcells hst (mcells_info _ _ _) rfl (mcells_one rfl rfl) ?_)
  refine bodyPost_ret (v := .tuple #[.agg zcells, .int .i64 f]) (of_results rfl h6.at_ rfl) rfl ?_
  rw [HO.out]
  exact ⟨rfl, h6.tail⟩
end
end Go.Proofs.YthkeiclhllikjaaGreat
