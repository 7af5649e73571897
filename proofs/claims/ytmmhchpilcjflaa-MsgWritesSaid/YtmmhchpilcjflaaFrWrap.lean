/-
  frame.Put: a text's frame.
-/
import Derived.Test.YtmmhchpilcjflaaFrNext
set_option linter.unusedSimpArgs false
set_option linter.unusedVariables false
namespace Go.Proofs.Ytmmhchpilcjflaa
open Go.RowKit

def packL (xs : List Nat) : ByteArray := ⟨(xs.map UInt8.ofNat).toArray⟩
def headL (n : Nat) : List Nat := le4 n ++ le4 (crcM (le4 n))
/-- A text's frame. -/
def frameL (s : ByteArray) : List Nat := headL s.size ++ bytesOf s ++ le4 (crcM (bytesOf s))
def putM (s : ByteArray) : Except Int ByteArray := if 16384 < s.size then .error 3 else .ok (packL (frameL s))
theorem packL_bytes {xs : List Nat} (h : ∀ x ∈ xs, x < 256) : bytesOf (packL xs) = xs := by
  unfold bytesOf packL
  simp only [List.map_map]
  refine (List.map_congr_left fun x hx => ?_).trans (List.map_id xs)
  simp only [Function.comp_apply, id]
  exact UInt8.toNat_ofNat_of_lt' (h x hx)
theorem packL_size (xs : List Nat) : (packL xs).size = xs.length := by
  show ((xs.map UInt8.ofNat).toArray).size = _
  simp
theorem headL_all (n : Nat) : ∀ b ∈ headL n, b < 256 := by
  intro b hb
  rcases List.mem_append.1 hb with hb | hb
  · exact le4_all _ b hb
  · exact le4_all _ b hb
theorem bytesOf_lt {s : ByteArray} : ∀ b ∈ bytesOf s, b < 256 := by
  intro b hb
  obtain ⟨u, _, rfl⟩ := List.mem_map.1 hb
  exact UInt8.toNat_lt u
theorem frameL_all (s : ByteArray) : ∀ b ∈ frameL s, b < 256 := by
  intro b hb
  rcases List.mem_append.1 hb with hb | hb
  · rcases List.mem_append.1 hb with hb | hb
    · exact headL_all _ b hb
    · exact bytesOf_lt b hb
  · exact le4_all _ b hb
section
variable {w0 W : World} {L : List Blk} {s : ByteArray}
set_option maxHeartbeats 4000000 in
set_option maxRecDepth 100000 in
theorem Put_any (hs : s.size < 140737488351233) (hL : Live w0 L W) :
    Calls Try.prog 43 #[.string s] W fun e W' => Said (putM s) (fun b => e = .returned (.tuple #[.string b, .int .i64 0]) ∧ Live w0 L W') (fun f => e = .returned (.tuple #[.string .empty, .int .i64 f]) ∧ Live w0 L W') := by
  obtain ⟨i0, hi, hz0, hz1, hz2⟩ := info_parts infoU8
  unfold putM
  by_cases h3 : 16384 < s.size
  · rw [if_pos h3]
    have q2 : decide ((s.size : Int) > 16384) = true := decide_eq_true (by omega)
    clear h3
    go_enter Try.func43, Try.ntmps43
    go_wp2
    refine bodyPost_ret (v := .tuple #[.string .empty, .int .i64 3]) (by simp [results, Try.results43, go_sem] <;> rfl) rfl ?_
    exact ⟨rfl, hL⟩
  · rw [if_neg h3]
    have q2 : decide ((s.size : Int) > 16384) = false := decide_eq_false (by omega)
    have hz : s.size ≤ 16384 := by omega
    have f1 : (s.size : Int) % 4294967296 = s.size := by omega
    have Hz := Lib.hid hz
    have Hlen2 := Lib.hid (show (headL s.size ++ bytesOf s).length + 20 ≤ 140737488355328 by
      have e : (bytesOf s).length = s.size := by simp [bytesOf]
      have e2 : (headL s.size).length = 8 := rfl
      rw [List.length_append]
      omega)
    clear h3 hz
    go_enter Try.func43, Try.ntmps43
    go_wp2_with fail
    refine (put_any (xs := []) (B := []) (v := .slice none 0 0) (n := s.size) (by have := Hz.out; omega) (RowIs.nil _) hL (by simp)).mono ?_
    rintro e w1 ⟨v1, B1, rfl, hr1, h1⟩
    rw [List.nil_append] at hr1
    have hst := string_run hr1 h1 (le4_all _)
    have hcv : ∀ w : World, w = w1 → (convert 38 9 v1).run Try.prog w = .ok (.string (packL (le4 s.size))) w := by
      rintro w rfl
      exact hst
    have hcv1 := hcv w1 rfl
    clear hst hcv
    go_wp2_with fail
    refine (crc_any (s := packL (le4 s.size)) (by rw [packL_size, le4_len]; decide) h1).mono ?_
    rintro e w2 ⟨rfl, h2⟩
    rw [packL_bytes (le4_all _)]
    obtain ⟨a1, n1, c1, rfl⟩ := hr1.shape
    clear hcv1
    go_wp2_with fail
    refine (put_any (xs := le4 s.size) (B := B1) (n := crcM (le4 s.size)) crcM_lt hr1 h2 (by rw [le4_len]; decide)).mono ?_
    rintro e w3 ⟨v2, B2, rfl, hr2, h3⟩
    have hr2' : RowIs 5 v2 (u8s (headL s.size)) B2 := hr2
    clear hr1 hr2
    obtain ⟨a2, n2, c2, rfl⟩ := hr2'.shape
    have Hr2 := Lib.hid hr2'
    clear hr2' h1 h2
    have Hlen := Lib.hid (show (u8s (headL s.size)).length + s.size ≤ 140737488355328 by
      have := Hz.out
      have e : (u8s (headL s.size)).length = 8 := by rw [u8s_length]; rfl
      omega)
    go_wp2_with (at_builtin; refine wpList_append_row_string rfl (.tmp 17) (.tmp 18) 38 9 rfl 5 i0 Try.underlying38 Try.underlying9 hi hz0 hz1 hz2 _ (u8s (headL s.size)) rfl Hr2.out h3 s rfl Hlen.out ?_)
    intro v3 w4 B3 hr3 h4
    have hr3' : RowIs 5 v3 (u8s (headL s.size ++ bytesOf s)) B3 := by rw [u8s_append, u8s_bytesOf]; exact hr3
    clear hr3 h3
    obtain ⟨a3, n3, c3, rfl⟩ := hr3'.shape
    have Hr3 := Lib.hid hr3'
    clear hr3'
    go_wp2_with fail
    refine (crc_any (s := s) hs h4).mono ?_
    rintro e w5 ⟨rfl, h5⟩
    go_wp2_with fail
    refine (put_any (xs := headL s.size ++ bytesOf s) (B := B3) (n := crcM (bytesOf s)) crcM_lt Hr3.out h5 Hlen2.out).mono ?_
    rintro e w6 ⟨v6, B6, rfl, hr6, h6⟩
    have hcv1 := string_run hr6 h6 (frameL_all s)
    obtain ⟨a6, n6, c6, rfl⟩ := hr6.shape
    go_wp2
    refine bodyPost_ret (v := .tuple #[.string (packL (frameL s)), .int .i64 0]) (by simp [results, Try.results43, go_sem, packL, frameL]) rfl ?_
    exact ⟨rfl, hr6.rest h6⟩
end
end Go.Proofs.Ytmmhchpilcjflaa
