/-
  The walk of agg.Of: what a list adds up to.
-/
import Derived.Test.YtoiakejagmeliaaAggU
import Derived.LoopTactic
set_option linter.unusedSimpArgs false
set_option linter.unusedVariables false
namespace Go.Proofs.Ytoiakejagmeliaa
open Go.RowKit

def OfRel (zs : List Int) (len : Nat) (w : World) (k : Nat) (wr : World) : Prop :=
  wr.heap[w.heap.size]? = some (.cells A8.zero.arr 24 (0, 0)) ∧ wr.heap[w.heap.size + 1]? = some (.cells (of8 (zs.take k)).arr 24 (0, 0)) ∧ Below w.heap.size w wr

set_option maxHeartbeats 1000000 in
theorem of_any (b off len cap : Nat) (zs : List Int) (w : World) (hz : len ≤ zs.length) (hbig : len ≤ 9223372036854775806) (hbw : b < w.heap.size)
    (hc : ∀ j, j < len → w.cell? ⟨b, off + j, none⟩ = some (.int .i64 (zs.getD j 0))) :
    Calls Try.prog 19 #[.slice (some ⟨b, off, none⟩) len cap] w fun e w' => e = .returned (.agg (of8 (zs.take len)).arr) ∧ Below w.heap.size w w' := by
  have Hc := Lib.hid hc
  clear hc
  go_enter Try.func19, Try.ntmps19
  go_wp2
  go_loopw [5, 8] (fun _ t wr => ∃ k : Nat, k ≤ len ∧ t = .int .i64 k ∧ OfRel zs len w k wr) (fun _ t _ => len - (intOf t).toNat)
  case atStart =>
    refine ⟨0, Nat.zero_le _, rfl, blk_old (blk_new _ _ _ rfl), ?_, ((Below.refl _ _).alloc (Nat.le_refl _) _).alloc (by simp) _⟩
    have e0 : of8 (zs.take 0) = A8.zero := rfl
    rw [e0]
    exact blk_new _ _ _ (by simp)
  case round =>
    obtain ⟨k, hk, rfl, hz0, hacc, hbl⟩ := hrel
    obtain ⟨q, hq⟩ : ∃ q, q = of8 (zs.take k) := ⟨_, rfl⟩
    rw [← hq] at hacc
    have Hq := Lib.hid hq
    clear hq
    by_cases hlt : k < len
    · have hsn := of8_snoc zs k (by omega)
      have hcell := (hbl.cell (p := ⟨b, off + k, none⟩) hbw).trans (Hc.out k hlt)
      obtain ⟨v, hv⟩ : ∃ v, v = zs.getD k 0 := ⟨_, rfl⟩
      rw [← hv] at hcell hsn
      rw [← Hq.out] at hsn
      clear hv
      obtain ⟨c, s, mn, mx, h0, h1, h2, h3⟩ := q
      have hcz := cells_at hz0
      have hca := cells_at hacc
      have hfa := thaw_at hacc
      simp only [A8.arr] at hca
      have Hz := Lib.hid hz0
      have Ha := Lib.hid hacc
      have Hb := Lib.hid hbl
      have Hs := Lib.hid hsn
      clear hsn hz0 hacc hbl hcz
      go_wp2_with fail
      refine (put_8 ⟨c, s, mn, mx, h0, h1, h2, h3⟩ v _).mono ?_
      rintro e w' ⟨rfl, hb⟩
      clear hca hfa hcell
      have hz1 := (hb.block _ (blk_lt Hz.out)).trans Hz.out
      have ha1 := (hb.block _ (blk_lt Ha.out)).trans Ha.out
      have hl1 : Below w.heap.size w w' := Hb.out.trans (hb.mono Hb.out.size)
      clear hb
      have hca := cells_at ha1
      have hfa := thaw_at ha1
      simp only [A8.arr] at hca
      have Hz1 := Lib.hid hz1
      have Ha1 := Lib.hid ha1
      have Hb1 := Lib.hid hl1
      clear hz1 ha1 hl1
      have e8 : ∃ x0 x1 x2 x3 x4 x5 x6 x7 : Int, put8 ⟨c, s, mn, mx, h0, h1, h2, h3⟩ v = ⟨x0, x1, x2, x3, x4, x5, x6, x7⟩ := ⟨_, _, _, _, _, _, _, _, rfl⟩
      obtain ⟨x0, x1, x2, x3, x4, x5, x6, x7, e8⟩ := e8
      rw [e8]
      have Hs2 := Lib.hid (Hs.out.trans e8)
      clear e8
      unfold A8.arr
      dsimp only
      go_wp2
      clear hca hfa
      have h8 := store8 Ha1.out Hb1.out (by omega) (.int .i64 x0) (.int .i64 x1) (.int .i64 x2) (.int .i64 x3) (.int .i64 x4) (.int .i64 x5) (.int .i64 x6) (.int .i64 x7)
      have hz8 := fun (p : Addr) (hp : p.block = w.heap.size + 1) (v : Value) (W : World) (h : W.heap[w.heap.size]? = some (.cells A8.zero.arr 24 (0, 0))) => blk_set h (p := p) (by rw [hp]; omega) v
      have hz9 := hz8 ⟨w.heap.size + 1, 7, none⟩ rfl (.int .i64 x7) _ (hz8 ⟨w.heap.size + 1, 6, none⟩ rfl (.int .i64 x6) _ (hz8 ⟨w.heap.size + 1, 5, none⟩ rfl (.int .i64 x5) _ (hz8 ⟨w.heap.size + 1, 4, none⟩ rfl (.int .i64 x4) _ (hz8 ⟨w.heap.size + 1, 3, none⟩ rfl (.int .i64 x3) _ (hz8 ⟨w.heap.size + 1, 2, none⟩ rfl (.int .i64 x2) _ (hz8 ⟨w.heap.size + 1, 1, none⟩ rfl (.int .i64 x1) _ (hz8 ⟨w.heap.size + 1, 0, none⟩ rfl (.int .i64 x0) _ Hz1.out)))))))
      generalize (World.setCell (World.setCell (World.setCell (World.setCell (World.setCell (World.setCell (World.setCell (World.setCell _ _ _) _ _) _ _) _ _) _ _) _ _) _ _) _ _) = WN at h8 hz9 ⊢
      go_roundw
      case rel =>
        refine ⟨k + 1, by omega, by go_num, hz9, ?_, h8.2⟩
        rw [Hs2.out]
        exact h8.1
      case measure => simp [intOf]; omega
    · have hke : k = len := by omega
      subst hke
      obtain ⟨c, s, mn, mx, h0, h1, h2, h3⟩ := q
      have hcz := cells_at hz0
      have hfz := thaw_at hz0
      have hca := cells_at hacc
      simp only [A8.arr, A8.zero] at hca hcz
      have Hz := Lib.hid hz0
      have Ha := Lib.hid hacc
      have Hb := Lib.hid hbl
      clear hz0 hacc hbl
      go_wp2
      clear hca hcz hfz
      have h8 := store8 Hz.out Hb.out (by omega) (.int .i64 c) (.int .i64 s) (.int .i64 mn) (.int .i64 mx) (.int .i64 h0) (.int .i64 h1) (.int .i64 h2) (.int .i64 h3)
      generalize (World.setCell (World.setCell (World.setCell (World.setCell (World.setCell (World.setCell (World.setCell (World.setCell _ _ _) _ _) _ _) _ _) _ _) _ _) _ _) _ _) = WN at h8 ⊢
      have hc8 := cells_at h8.1
      exact bodyPost_ret (v := .agg #[.int .i64 c, .int .i64 s, .int .i64 mn, .int .i64 mx, .int .i64 h0, .int .i64 h1, .int .i64 h2, .int .i64 h3]) (by simp [results, Try.results19, go_sem, hc8]) rfl ⟨by rw [← Hq.out]; rfl, h8.2⟩
end Go.Proofs.Ytoiakejagmeliaa
