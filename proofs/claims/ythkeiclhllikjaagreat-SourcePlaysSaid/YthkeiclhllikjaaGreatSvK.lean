/-
  The keys of a map from ints, sorted: the library's contracts at this program.
-/
import Derived.Test.YthkeiclhllikjaaGreatSvH
import Derived.Shelf.SlIterI.Nil
import Derived.Shelf.SortM.Plain
import Derived.Shelf.SortM.SortNone
set_option linter.unusedSimpArgs false
set_option linter.unusedVariables false
namespace Go.Proofs.YthkeiclhllikjaaGreat
open Go.RowKit Go.Maps Go.Sort Go.Shelf
def Tryz.keysA_ren : Go.Shelf.Ren := ⟨fun | 7 => 37 | 10 => 56 | n => n, fun | 23 => 58 | 26 => 3 | 3 => 33 | 28 => 82 | 0 => 0 | 27 => 81 | 33 => 99 | 4 => 4 | n => n, fun | n => n⟩
theorem Tryz.keysA : Go.Proofs.SlLaysZI.n7 Tryz.prog Tryz.keysA_ren := {
 mixed := by kernel_rfl,
 f7 := ⟨Tryz.f37.name, by decide, Tryz.func37.trans (congrArg some (by kernel_rfl))⟩,
 f10 := ⟨Tryz.f56.name, by decide, Tryz.func56.trans (congrArg some (by kernel_rfl))⟩,
 t0 := Tryz.underlying0,
 a0 := Tryz.isAgg0,
 z0 := Tryz.sizeOf0,
 v0 := Tryz.zeroValue0,
 t4 := Tryz.underlying4,
 a4 := Tryz.isAgg4,
 z4 := Tryz.sizeOf4,
 v4 := Tryz.zeroValue4,
 t23 := Tryz.underlying58,
 a23 := Tryz.isAgg58,
 z23 := Tryz.sizeOf58,
 v23 := Tryz.zeroValue58,
 t26 := Tryz.underlying3,
 a26 := Tryz.isAgg3,
 z26 := Tryz.sizeOf3,
 v26 := Tryz.zeroValue3,
 t27 := Tryz.underlying81,
 a27 := Tryz.isAgg81,
 z27 := Tryz.sizeOf81,
 v27 := Tryz.zeroValue81,
 t28 := Tryz.underlying82,
 a28 := Tryz.isAgg82,
 z28 := Tryz.sizeOf82,
 v28 := Tryz.zeroValue82,
 t33 := Tryz.underlying99,
 a33 := Tryz.isAgg99,
 z33 := Tryz.sizeOf99,
 v33 := Tryz.zeroValue99 }
def Tryz.sortedA_ren : Go.Shelf.Ren := ⟨fun | 6 => 36 | 8 => 54 | 9 => 55 | 11 => 75 | 13 => 77 | 12 => 76 | 23 => 106 | 24 => 107 | 14 => 97 | 15 => 98 | 16 => 99 | 17 => 100 | 18 => 101 | 19 => 102 | 20 => 103 | 21 => 104 | 22 => 105 | 25 => 117 | 26 => 118 | 27 => 119 | 28 => 120 | 29 => 121 | 30 => 122 | 31 => 125 | n => n, fun | 26 => 3 | 28 => 82 | 24 => 26 | 0 => 0 | 3 => 3 | 37 => 120 | 48 => 113 | 50 => 35 | 4 => 4 | 40 => 146 | 39 => 145 | 45 => 38 | 5 => 5 | 9 => 9 | 51 => 180 | 55 => 160 | 57 => 189 | 58 => 190 | 33 => 99 | n => n, fun | n => n⟩
theorem Tryz.sortedA : Go.Proofs.SlLaysZI.n6 Tryz.prog Tryz.sortedA_ren := {
 mixed := by kernel_rfl,
 f6 := ⟨Tryz.f36.name, by decide, Tryz.func36.trans (congrArg some (by kernel_rfl))⟩,
 f8 := ⟨Tryz.f54.name, by decide, Tryz.func54.trans (congrArg some (by kernel_rfl))⟩,
 f11 := ⟨Tryz.f75.name, by decide, Tryz.func75.trans (congrArg some (by kernel_rfl))⟩,
 t0 := Tryz.underlying0,
 a0 := Tryz.isAgg0,
 z0 := Tryz.sizeOf0,
 v0 := Tryz.zeroValue0,
 t24 := Tryz.underlying26,
 a24 := Tryz.isAgg26,
 z24 := Tryz.sizeOf26,
 v24 := Tryz.zeroValue26,
 t26 := Tryz.underlying3,
 a26 := Tryz.isAgg3,
 z26 := Tryz.sizeOf3,
 v26 := Tryz.zeroValue3,
 t28 := Tryz.underlying82,
 a28 := Tryz.isAgg82,
 z28 := Tryz.sizeOf82,
 v28 := Tryz.zeroValue82,
 i26 := by kernel_rfl }
def Tryz.sortA_ren : Go.Shelf.Ren := ⟨fun | 5 => 55 | 8 => 77 | 7 => 76 | 19 => 106 | 20 => 107 | 10 => 97 | 11 => 98 | 12 => 99 | 13 => 100 | 14 => 101 | 15 => 102 | 16 => 103 | 17 => 104 | 18 => 105 | 30 => 117 | 31 => 118 | 32 => 119 | 33 => 120 | 34 => 121 | 35 => 122 | 40 => 125 | n => n, fun | 23 => 26 | 25 => 3 | 3 => 3 | 32 => 120 | 22 => 26 | 0 => 0 | 44 => 113 | 46 => 35 | 4 => 4 | 36 => 146 | 35 => 145 | 41 => 38 | 5 => 5 | 9 => 9 | 53 => 180 | 57 => 160 | 63 => 189 | 64 => 190 | n => n, fun | n => n⟩
theorem Tryz.sortA : Go.Proofs.SlLaysM.n5 Tryz.prog Tryz.sortA_ren := {
 mixed := by kernel_rfl,
 f5 := ⟨Tryz.f55.name, by decide, Tryz.func55.trans (congrArg some (by kernel_rfl))⟩,
 f7 := ⟨Tryz.f76.name, by decide, Tryz.func76.trans (congrArg some (by kernel_rfl))⟩,
 f8 := Tryz.func77.trans (congrArg some (by kernel_rfl)),
 f10 := ⟨Tryz.f97.name, by decide, Tryz.func97.trans (congrArg some (by kernel_rfl))⟩,
 f11 := ⟨Tryz.f98.name, by decide, Tryz.func98.trans (congrArg some (by kernel_rfl))⟩,
 f12 := ⟨Tryz.f99.name, by decide, Tryz.func99.trans (congrArg some (by kernel_rfl))⟩,
 f13 := ⟨Tryz.f100.name, by decide, Tryz.func100.trans (congrArg some (by kernel_rfl))⟩,
 f14 := ⟨Tryz.f101.name, by decide, Tryz.func101.trans (congrArg some (by kernel_rfl))⟩,
 f15 := ⟨Tryz.f102.name, by decide, Tryz.func102.trans (congrArg some (by kernel_rfl))⟩,
 f16 := ⟨Tryz.f103.name, by decide, Tryz.func103.trans (congrArg some (by kernel_rfl))⟩,
 f17 := ⟨Tryz.f104.name, by decide, Tryz.func104.trans (congrArg some (by kernel_rfl))⟩,
 f18 := ⟨Tryz.f105.name, by decide, Tryz.func105.trans (congrArg some (by kernel_rfl))⟩,
 f19 := Tryz.func106.trans (congrArg some (by kernel_rfl)),
 f20 := Tryz.func107.trans (congrArg some (by kernel_rfl)),
 f30 := ⟨Tryz.f117.name, by decide, Tryz.func117.trans (congrArg some (by kernel_rfl))⟩,
 f31 := Tryz.func118.trans (congrArg some (by kernel_rfl)),
 f32 := Tryz.func119.trans (congrArg some (by kernel_rfl)),
 f33 := ⟨Tryz.f120.name, by decide, Tryz.func120.trans (congrArg some (by kernel_rfl))⟩,
 f34 := ⟨Tryz.f121.name, by decide, Tryz.func121.trans (congrArg some (by kernel_rfl))⟩,
 f35 := ⟨Tryz.f122.name, by decide, Tryz.func122.trans (congrArg some (by kernel_rfl))⟩,
 f40 := ⟨Tryz.f125.name, by decide, Tryz.func125.trans (congrArg some (by kernel_rfl))⟩,
 t0 := Tryz.underlying0,
 a0 := Tryz.isAgg0,
 z0 := Tryz.sizeOf0,
 v0 := Tryz.zeroValue0,
 t3 := Tryz.underlying3,
 a3 := Tryz.isAgg3,
 z3 := Tryz.sizeOf3,
 v3 := Tryz.zeroValue3,
 t4 := Tryz.underlying4,
 a4 := Tryz.isAgg4,
 z4 := Tryz.sizeOf4,
 v4 := Tryz.zeroValue4,
 t5 := Tryz.underlying5,
 a5 := Tryz.isAgg5,
 z5 := Tryz.sizeOf5,
 v5 := Tryz.zeroValue5,
 t9 := Tryz.underlying9,
 a9 := Tryz.isAgg9,
 z9 := Tryz.sizeOf9,
 v9 := Tryz.zeroValue9,
 t22 := Tryz.underlying26,
 a22 := Tryz.isAgg26,
 z22 := Tryz.sizeOf26,
 v22 := Tryz.zeroValue26,
 t23 := Tryz.underlying26,
 a23 := Tryz.isAgg26,
 z23 := Tryz.sizeOf26,
 v23 := Tryz.zeroValue26,
 t25 := Tryz.underlying3,
 a25 := Tryz.isAgg3,
 z25 := Tryz.sizeOf3,
 v25 := Tryz.zeroValue3,
 t32 := Tryz.underlying120,
 a32 := Tryz.isAgg120,
 z32 := Tryz.sizeOf120,
 v32 := Tryz.zeroValue120,
 t35 := Tryz.underlying145,
 a35 := Tryz.isAgg145,
 z35 := Tryz.sizeOf145,
 v35 := Tryz.zeroValue145,
 t36 := Tryz.underlying146,
 a36 := Tryz.isAgg146,
 z36 := Tryz.sizeOf146,
 v36 := Tryz.zeroValue146,
 t41 := Tryz.underlying38,
 a41 := Tryz.isAgg38,
 z41 := Tryz.sizeOf38,
 v41 := Tryz.zeroValue38,
 t44 := Tryz.underlying113,
 a44 := Tryz.isAgg113,
 z44 := Tryz.sizeOf113,
 v44 := Tryz.zeroValue113,
 t46 := Tryz.underlying35,
 a46 := Tryz.isAgg35,
 z46 := Tryz.sizeOf35,
 v46 := Tryz.zeroValue35,
 t53 := Tryz.underlying180,
 a53 := Tryz.isAgg180,
 z53 := Tryz.sizeOf180,
 v53 := Tryz.zeroValue180,
 t57 := Tryz.underlying160,
 a57 := Tryz.isAgg160,
 z57 := Tryz.sizeOf160,
 v57 := Tryz.zeroValue160,
 t63 := Tryz.underlying189,
 a63 := Tryz.isAgg189,
 z63 := Tryz.sizeOf189,
 v63 := Tryz.zeroValue189,
 t64 := Tryz.underlying190,
 a64 := Tryz.isAgg190,
 z64 := Tryz.sizeOf190,
 v64 := Tryz.zeroValue190 }
theorem sortsA (m : Nat) : AnyZI.SortsIn Tryz.prog Tryz.sortedA_ren Fence.wide m :=
 ⟨fun blk off cap ss W hH hblk hsz => callsIn_wide.2 (AnyM.slices_Sort_int Tryz.sortA blk off cap ss W hH hblk hsz),
  fun p cap W => callsIn_wide.2 (AnyM.slices_Sort_int_none Tryz.sortA p cap W)⟩
abbrev KTY : TypeId := 58
theorem keys_call {b : Nat} {W : World} : Calls Tryz.prog 37 #[.map (some b)] W fun e w' => e = .returned (.func (.func 56) #[] #[.pointer (some ⟨W.heap.size, 0, none⟩)]) ∧ w' = W.alloc (.cells #[.map (some b)] KTY) :=
 (callsIn_wide (n := 6)).1 (AnyZI.keys_in Tryz.keysA Fence.wide 6 trivial rfl (some b) W)
set_option maxHeartbeats 1000000 in
theorem sorted_any {w0 W : World} {L : List Thg} {g b : Nat} {l : Ents} (hL : LV w0 (bk g #[.map (some b)] KTY :: L) W) (hm : mp b l ∈ L) (hr : l.Pairwise fun p q => p.1 < q.1) (hl : l.length ≤ 1000000) :
  Calls Tryz.prog 36 #[.func (.func 56) #[] #[.pointer (some ⟨g, 0, none⟩)]] W fun e W' => ∃ v X, e = .returned v ∧ PRow 3 1 v l.length ((l.map (·.1)).map encZ) X ∧ LV w0 (X ++ (bk g #[.map (some b)] KTY :: L)) W' := by
 refine (callsIn_wide (n := 6)).1 ?_
 have hown : MapAt W b l := hL.tail.mem_map hm
 have hsz : Maps.size (mapD l) = l.length := size_mapD l
 have hseq : SeqGives Fence.wide 3 Tryz.prog 56 #[.pointer (some ⟨g, 0, none⟩)] encZ (fun ss => ss.Perm (intKeys (mapD l))) (Maps.size (mapD l)) W :=
  AnyZI.keys_gives (ρ := Tryz.keysA_ren) { Tryz.keysA with } Fence.wide _ trivial rfl (by omega) g b _ _ W (blk_lt hL.at_) (hL.cell 0) hown
 have cS := AnyZI.sorted_in Tryz.sortedA Fence.wide 6 trivial trivial trivial trivial rfl (by omega) (sortsA _) (enters_of Tryz.func55 (by kernel_rfl) rfl) 56 #[.pointer (some ⟨g, 0, none⟩)] trivial (enters_of Tryz.func56 (by kernel_rfl) rfl) _ _ (by rw [hsz]; unfold maxLen; omega) (by rw [hsz]; omega) _ hseq
 refine CallsIn.mono cS ?_
 rintro e w' ⟨v, ss, rfl, hS, hrow, hnil, hb⟩
 have h1 : ss.mergeSort (fun x y => decide (x ≤ y)) = l.map (·.1) := by
  have h2 := mergeSort_of_perm_i hS
  rw [intKeys_mapD] at h2
  refine h2.trans (List.mergeSort_of_pairwise (List.pairwise_map.2 (hr.imp fun h => ?_)))
  exact decide_eq_true (by omega)
 have h3 : ss.length = l.length := by
  have h4 := hS.length_eq
  rw [intKeys_mapD] at h4
  simpa using h4
 rw [h1, h3] at hrow
 obtain ⟨X, hX, hL2⟩ := owned_thing hL ⟨hb.os, hb.tape, hb.output, hb.size, fun k hk _ => hb.block k hk⟩ hrow
 exact ⟨v, X, rfl, hX, hL2⟩
end Go.Proofs.YthkeiclhllikjaaGreat
/-
 What a source sends at a tick.
-/
namespace Go.Proofs.YthkeiclhllikjaaGreat
open Go.RowKit
theorem o_callS {P : Program} {ops : Array Oper} {Q : Exit → Act → World → Prop} {o : Oper} {a : Act} {w : World} {n d : Nat} {v : Value} {m m' : List (Nat × Value)} {K : Act → World → Prop} {w0 : World} {L : List Thg} (i : Nat) {f : FuncId} {args : Array Value} (H : Fr a n m) (hi : ops[i]? = some o) (hd : o.dst = some d) (hg : Region.wanted o (yielded ops a.tmps) = true) (hr : (execOp a.eval o).run P w = .ok (.enter f args) w) (hn : Nat.blt d n = true)
  (hL : LV w0 L w) (hc : Calls P f args w fun e w2 => e = .returned v ∧ Below w.heap.size w w2) (hp : Picks ((d, v) :: m) m') (k : ∀ a' w2, Fr a' n m' → LV w0 L w2 → K a' w2) : wpOp P ops Q i K a w := by
 refine o_call i H hi hd hg hr hn (hc.mono ?_)
 rintro e w2 ⟨rfl, hb⟩
 exact ⟨v, rfl, fun a' HH => k a' w2 (HH _ hp) (hL.call hb)⟩
structure PItem.Ok (x : PItem) : Prop where
 kind : x.kind < 256
 key : x.key.size < 140737488351233
 at0 : -9223372036854775808 ≤ x.at_
 at1 : x.at_ < 9223372036854775808
 n0 : -9223372036854775808 ≤ x.n
 n1 : x.n < 9223372036854775808
theorem itm_fits {x : PItem} (h : x.Ok) : (itm x).Fits := ⟨zero_fits.digest, zero_fits.at0, zero_fits.at1, h.at0, h.at1, h.n0, h.n1, h.key, zero_fits.data⟩
theorem rd_nul (w : World) : Rd w (.slice none 0 0) [] := .inl ⟨rfl, rfl⟩
theorem infoPk : (Tryz.prog.info? 45).map (fun i => (i.zero, i.size, i.bytes)) = some (some (.agg #[.int .i64 0, .int .i64 0, .string .empty]), 3, 32) := by kernel_rfl
theorem data_ne {m : PMsg} {f : Int} (h : dataM m = .error f) : f ≠ 0 := by
 unfold dataM at h
 cases hb : bytesM m with
 | error g =>
  rw [hb] at h
  cases h
  exact bytes_ne hb
 | ok b =>
  rw [hb] at h
  unfold putM at h
  simp only at h
  split at h
  ·cases h
   decide
  ·cases h
section
variable {w0 W w : World} {L X : List Thg} {S : PSrc} {v : Value} {bo ba p g : Nat} {x y : PItem}
theorem bd_msg : (Instr.build 37 #[(0, .int .u8 1), (9, .agg (itC x))]).run Tryz.prog w = .ok (.agg (mcells (itm x) (.slice none 0 0) (.slice none 0 0))) w := by
 simp [go_sem]
 rfl
theorem bd_pk {a b : Int} {s : ByteArray} : (Instr.build 45 #[(0, .int .i64 a), (1, .int .i64 b), (2, .string s)]).run Tryz.prog w = .ok (.agg #[.int .i64 a, .int .i64 b, .string s]) w := by
 simp [go_sem]
theorem bs_pk {a b : Int} {s : ByteArray} : (Instr.buildSlice 41 1 #[(0, .agg #[.int .i64 a, .int .i64 b, .string s])]).run Tryz.prog w = .ok (.slice (some ⟨w.heap.size, 0, none⟩) 1 1) (w.alloc (.cells #[.int .i64 a, .int .i64 b, .string s] 45)) := by
 simp [go_sem]
theorem take_filt {l : List PItem} {f : PItem → Option (Int × Int × ByteArray)} {j : Nat} (hj : j < l.length) : ((l.take (j + 1)).filterMap f) = (l.take j).filterMap f ++ (match f l[j] with | some q => [q] | none => []) := by
 rw [List.take_add_one, List.filterMap_append, List.getElem?_eq_getElem hj]
 congr 1
 cases h : f l[j] <;> simp [h]
theorem opItems_mem {M : List (PItem × Nat)} (h : x ∈ opItems M) : ∃ c, (x, c) ∈ M := by
 obtain ⟨q, hq, rfl⟩ := List.mem_map.1 h
 exact ⟨q.2, (List.mem_filter.1 hq).1⟩
theorem LV.fr5 {a b c d e : Thg} {R : List Thg} (h : LV w0 (a :: b :: c :: d :: e :: (X ++ R)) w) : LV w0 (X ++ (a :: b :: c :: d :: e :: R)) w := h.perm (List.perm_append_comm_assoc [a, b, c, d, e] X R)
theorem LV.bk5 {a b c d e : Thg} {R : List Thg} (h : LV w0 (X ++ (a :: b :: c :: d :: e :: R)) w) : LV w0 (a :: b :: c :: d :: e :: (X ++ R)) w := h.perm (List.perm_append_comm_assoc X [a, b, c, d, e] R)
theorem LV.bk3 {c d e : Thg} {R : List Thg} (h : LV w0 (X ++ (c :: d :: e :: R)) w) : LV w0 (c :: d :: e :: (X ++ R)) w := h.perm (List.perm_append_comm_assoc X [c, d, e] R)
theorem LV.fr3 {c d e : Thg} {R : List Thg} (h : LV w0 (c :: d :: e :: (X ++ R)) w) : LV w0 (X ++ (c :: d :: e :: R)) w := h.perm (List.perm_append_comm_assoc [c, d, e] X R)
theorem LV.drop3 {c d e : Thg} {K R LK : List Thg} (h : LV w0 (X ++ (c :: d :: e :: (K ++ R))) w) (_ : LK = K ++ R) : LV w0 (X ++ (c :: d :: e :: R)) w := by
 have h1 : LV w0 (K ++ (X ++ (c :: d :: e :: R))) w := h.perm (by
  have e1 : (X ++ (c :: d :: e :: (K ++ R))).Perm (X ++ (K ++ (c :: d :: e :: R))) := (List.perm_append_comm_assoc [c, d, e] K R).append_left X
  exact e1.trans (List.perm_append_comm_assoc X K _))
 exact h1.dropl
set_option maxRecDepth 100000 in
set_option maxHeartbeats 4000000 in
theorem tick_any (hL : LV w0 (bk p (srC S v bo ba) 60 :: mp bo (opE S.L) :: mp ba (anE S.L) :: L) W) (hv : ∀ w, LV w0 L w → Rd w v S.t.own) (hn : S.L.length < 100000) (l1 : S.t.own.length ≤ 1000000000000) (hok : ∀ q ∈ S.L, q.1.Ok) (s0 : 0 ≤ S.src) (s1 : S.src < 1000) :
  Calls Tryz.prog 15 #[.pointer (some ⟨p, 0, none⟩)] W fun e W' => ∃ v' X, e = .returned v' ∧ PRow 45 3 v' (pktsM S).length (pkF (pktsM S)) X ∧
   LV w0 (X ++ (bk p (srC S v bo ba) 60 :: mp bo (opE S.L) :: mp ba (anE S.L) :: L)) W' := by
 obtain ⟨A, c, rfl⟩ := (hv W (hL.tail.tail.tail)).slc
 obtain ⟨i0, hi, hz0, hz1, hz2⟩ := info_parts infoPk
 go_enter Tryz.func15, Tryz.ntmps15
 refine wp_fr (n := 70) (m := [(0, _)]) ⟨rfl, rfl, by intro p hp; simp only [List.mem_cons, List.not_mem_nil, or_false] at hp; rcases hp with rfl <;> rfl⟩ fun a0 H0 => ?_
 repeat (go_not_at_region 0; go_step)
 refine wp_region_lit ?_
 refine h_o H0 rfl (R_as H0 rfl rfl) (P1 0 rfl) fun _ H1 => ?_
 refine h_end ?_
 repeat (go_not_at_region 1; go_step)
 refine wp_region_lit ?_
 refine h_o H1 rfl (R_mv H1 rfl rfl) (P2 11 0 rfl rfl) fun _ H2 => ?_
 refine h_call H2 rfl (wn rfl) (R_call1 H2 rfl rfl (fun w => by simp [go_sem])) rfl ?_
 refine (none_any (hL.cell 4)).mono ?_
 rintro e wx ⟨rfl, rfl⟩
 refine ⟨_, rfl, fun a3 HH => ?_⟩
 have H3 := HH _ (P2 12 0 rfl rfl)
 refine h_end ?_
 repeat (go_not_at_region 3; go_step)
 refine wp_cond_false (H3.ev (x := .tmp 12) rfl) ?_
 repeat (go_not_at_region 3; go_step)
 refine wp_region_lit ?_
 refine h_o H3 rfl (R_as H3 rfl rfl) (P2 3 0 rfl rfl) fun _ H4 => ?_
 refine h_end ?_
 repeat (go_not_at_region 4; go_step)
 refine wp_region_lit ?_
 refine h_o H4 rfl (R_mv H4 rfl rfl) (P3 13 3 0 rfl rfl rfl) fun _ H5 => ?_
 refine h_o H5 rfl (R_nc H5 rfl rfl) (P3 14 3 0 rfl rfl rfl) fun _ H6 => ?_
 refine h_o H6 rfl (R_fa H6 rfl rfl fs_2) (P3 15 3 0 rfl rfl rfl) fun _ H7 => ?_
 refine h_o H7 rfl (R_ld H7 rfl rfl (ld_mi (hL.cell 4))) (P3 16 3 0 rfl rfl rfl) fun _ H8 => ?_
 refine h_call H8 rfl (wn rfl) (R_call1 H8 rfl rfl (fun w => by simp [go_sem])) rfl ?_
 refine (keys_call (b := bo)).mono ?_
 rintro e w9 ⟨rfl, rfl⟩
 have hL2 := hL.alloc #[.map (some bo)] KTY
 refine ⟨_, rfl, fun a9 HH => ?_⟩
 have H9 := HH _ (P3 17 3 0 rfl rfl rfl)
 refine h_call H9 rfl (wn rfl) (R_call1 H9 rfl rfl (fun w => by simp [go_sem])) rfl ?_
 refine (sorted_any (l := opE S.L) hL2 (by simp) ents_rise (Nat.le_trans ents_size (by omega))).mono ?_
 rintro e w10 ⟨vk, Xk, rfl, hrk, hL3⟩
 clear hL hL2
 have hL := (hL3.perm (List.perm_append_comm_assoc Xk [_] _)).tail
 clear hL3
 have hsl : ∃ q cc, vk = .slice q (opE S.L).length cc := by
  rcases hrk.2 with ⟨rfl, h0, _⟩ | ⟨g, cap, cur, rfl, _⟩
  ·exact ⟨none, 0, by rw [h0]⟩
  ·exact ⟨_, _, rfl⟩
 obtain ⟨qk, ck, rfl⟩ := hsl
 refine ⟨_, rfl, fun a10 HH => ?_⟩
 have H10 := HH _ (P3 18 3 0 rfl rfl rfl)
 refine h_o H10 rfl (R_lenS H10 rfl rfl Tryz.underlying26) (P4 19 18 3 0 rfl rfl rfl rfl) fun _ H11 => ?_
 refine h_o H11 rfl (R_mv H11 rfl rfl) (P5 20 19 18 3 0 rfl rfl rfl rfl rfl) fun _ H12 => ?_
 refine h_end ?_
 replace hL := hL.bk3
 obtain ⟨LK, hLK⟩ : ∃ LK, LK = Xk ++ L := ⟨_, rfl⟩
 have hkey : ∀ w, LV w0 LK w → ∀ j (hj : j < (opE S.L).length), ∃ ad, qk = some ad ∧ w.cell? (ad.add j) = some (.int .i64 ((opE S.L)[j]).1) := by
  intro w h j hj
  rw [hLK] at h
  rcases hrk.2 with ⟨h1, h0, _⟩ | ⟨g, cap, cur, h1, h2, h3, h4, h5, h6⟩
  ·omega
  ·cases h1
   subst h2
   refine ⟨_, rfl, ?_⟩
   have e1 : (⟨g, 0, none⟩ : Addr).add j = ⟨g, j, none⟩ := by cases j <;> simp [Addr.add]
   rw [e1, LV.cell h j]
   have h7 : (cur.toList.take ((opE S.L).length * 1))[j]? = (((opE S.L).map (·.1)).map encZ)[j]? := by rw [h6]
   rw [List.getElem?_take, if_pos (by omega), Array.getElem?_toList] at h7
   rw [h7]
   simp [hj]
 have hv2 : ∀ w, LV w0 LK w → Rd w (.slice A S.t.own.length c) S.t.own := fun w h => hv w (by rw [hLK] at h; exact h.dropl)
 rw [← hLK] at hL
 clear hrk
 repeat (go_not_at_region 5; go_step)
 obtain ⟨I, hI⟩ : ∃ I : Nat → Act → World → Prop, ∀ n a' w', I n a' w' ↔ ∃ (j : Nat) (vl : Value) (X : List Thg), n = (opE S.L).length - j ∧ j ≤ (opE S.L).length ∧ Fr a' 70 [(0, .pointer (some ⟨p, 0, none⟩)), (3, vl), (18, .slice qk (opE S.L).length ck), (19, .int .i64 ((opE S.L).length : Nat)), (20, .int .i64 (j : Nat))] ∧ PRow 45 3 vl (((opItems S.L).take j).filterMap (pkt S)).length (pkF (((opItems S.L).take j).filterMap (pkt S))) X ∧ LV w0 (bk p (srC S (.slice A S.t.own.length c) bo ba) 60 :: mp bo (opE S.L) :: mp ba (anE S.L) :: (X ++ LK)) w' := ⟨_, fun _ _ _ => Iff.rfl⟩
 have HI := Lib.hid hI
 clear hI
 refine wp_loop_ghost I (opE S.L).length ((HI.out _ _ _).2 ⟨0, _, [], rfl, Nat.zero_le _, H12.pick _ (P5 0 3 18 19 20 rfl rfl rfl rfl rfl), PRow.nil, hL⟩) ?_
 clear hL H12
 intro n a1 wl hi
 obtain ⟨j, vl, X, rfl, hj, H0, hr, hL⟩ := (HI.out _ _ _).1 hi
 clear hi
 have hlen : (opE S.L).length ≤ S.L.length := ents_size
 have hlo := lowN_le (L := S.L)
 have hlen2 : (((opItems S.L).take j).filterMap (pkt S)).length ≤ j := by
  refine Nat.le_trans (List.length_filterMap_le _ _) ?_
  rw [List.length_take]
  omega
 by_cases hjl : j < (opE S.L).length
 ·repeat (go_not_at_region 5; go_step)
  refine wp_region_lit ?_
  refine h_o H0 rfl (R_bin H0 rfl rfl rfl (B_to (y := true) (B_lt Tryz.underlying3 _ _) (decide_eq_true (by omega)))) (P6 21 0 3 18 19 20 rfl rfl rfl rfl rfl rfl) fun _ H1 => ?_
  refine h_end ?_
  repeat (go_not_at_region 6; go_step)
  refine wp_cond_true (H1.ev (x := .tmp 21) rfl) ?_
  obtain ⟨ad, rfl, hcell⟩ := hkey wl hL.tail.tail.tail.dropl j hjl
  obtain ⟨k, hk, k0, k1, hlk⟩ := opE_at hjl
  rw [hk] at hcell
  have hji : j < (opItems S.L).length := by rw [← opE_len]; exact hjl
  obtain ⟨x, hx⟩ : ∃ x, x = (opItems S.L)[j]'hji := ⟨_, rfl⟩
  rw [← hx] at hlk
  have hxo : x.Ok := by
   obtain ⟨cc, hc⟩ := opItems_mem (x := x) (M := S.L) (by rw [hx]; exact List.getElem_mem hji)
   exact hok _ hc
  have htk := take_filt (f := pkt S) hji
  rw [← hx] at htk
  repeat (go_not_at_region 6; go_step)
  refine wp_region_lit ?_
  refine h_o H1 rfl (R_ixa H1 rfl rfl rfl (ix_at hjl)) (P6 22 0 3 18 19 20 rfl rfl rfl rfl rfl rfl) fun _ H2 => ?_
  refine h_o H2 rfl (R_ld H2 rfl rfl (ld_int hcell)) (P6 23 0 3 18 19 20 rfl rfl rfl rfl rfl rfl) fun _ H3 => ?_
  refine h_o H3 rfl (R_as H3 rfl rfl) (P6 5 0 3 18 19 20 rfl rfl rfl rfl rfl rfl) fun _ H4 => ?_
  refine h_end ?_
  have hlkr : ∀ w, LV w0 (bk p (srC S (.slice A S.t.own.length c) bo ba) 60 :: mp bo (opE S.L) :: mp ba (anE S.L) :: (X ++ LK)) w → (Instr.lookup 58 (.map (some bo)) (.int .i64 k) false).run Tryz.prog w = .ok (.agg (itC x)) w := by
   intro w h
   have h2 := look_run (k := k) (by omega) (by omega) Tryz.underlying58 (zeroIt w) (h.tail.mem_map (by simp) : MapAt w bo (opE S.L))
   rw [h2, hlk]
   rfl
  repeat (go_not_at_region 7; go_step)
  refine wp_region_lit ?_
  refine h_o H4 rfl (R_mv H4 rfl rfl) (P7 24 5 0 3 18 19 20 rfl rfl rfl rfl rfl rfl rfl) fun _ H5 => ?_
  refine h_o H5 rfl (R_nc H5 rfl rfl) (P7 25 5 0 3 18 19 20 rfl rfl rfl rfl rfl rfl rfl) fun _ H6 => ?_
  refine h_o H6 rfl (R_fa H6 rfl rfl fs_2) (P7 26 5 0 3 18 19 20 rfl rfl rfl rfl rfl rfl rfl) fun _ H7 => ?_
  refine h_o H7 rfl (R_ld H7 rfl rfl (ld_mi (hL.cell 4))) (P7 27 5 0 3 18 19 20 rfl rfl rfl rfl rfl rfl rfl) fun _ H8 => ?_
  refine h_o H8 rfl (R_mv H8 rfl rfl) (P7 28 27 0 3 18 19 20 rfl rfl rfl rfl rfl rfl rfl) fun _ H9 => ?_
  refine h_o H9 rfl (R_lk H9 rfl rfl rfl (hlkr _ hL)) (P6 29 0 3 18 19 20 rfl rfl rfl rfl rfl rfl) fun _ H10 => ?_
  refine h_opS (bk wl.heap.size (itC itZ) 33 :: bk p (srC S (.slice A S.t.own.length c) bo ba) 60 :: mp bo (opE S.L) :: mp ba (anE S.L) :: (X ++ LK)) H10 rfl (wn rfl) (R_alloc rfl al_it) (hL.alloc _ _) rfl (P7 6 29 0 3 18 19 20 rfl rfl rfl rfl rfl rfl rfl) fun _ w11 H11 hL => ?_
  refine h_stS (bk wl.heap.size (itC x) 33 :: bk p (srC S (.slice A S.t.own.length c) bo ba) 60 :: mp bo (opE S.L) :: mp ba (anE S.L) :: (X ++ LK)) H11 rfl (wn rfl) (R_st H11 rfl rfl rfl (st_it (x := itZ) hL.at_)) (hL.row _) fun _ w12 H12 hL => ?_
  refine h_end ?_
  repeat (go_not_at_region 8; go_step)
  refine wp_region_lit ?_
  refine h_o H12 rfl (R_mv H12 rfl rfl) (P7 30 6 0 3 18 19 20 rfl rfl rfl rfl rfl rfl rfl) fun _ H13 => ?_
  refine h_o H13 rfl (R_nc H13 rfl rfl) (P7 31 6 0 3 18 19 20 rfl rfl rfl rfl rfl rfl rfl) fun _ H14 => ?_
  refine h_o H14 rfl (R_fa H14 rfl rfl fs_4) (P7 32 6 0 3 18 19 20 rfl rfl rfl rfl rfl rfl rfl) fun _ H15 => ?_
  refine h_o H15 rfl (R_ld H15 rfl rfl (ld_int (hL.tail.cell 6))) (P7 33 6 0 3 18 19 20 rfl rfl rfl rfl rfl rfl rfl) fun _ H16 => ?_
  refine h_o H16 rfl (R_fa H16 rfl rfl (fi_k (by decide))) (P8 34 33 6 0 3 18 19 20 rfl rfl rfl rfl rfl rfl rfl rfl) fun _ H17 => ?_
  refine h_stS (bk wl.heap.size (itC { x with low := (lowN S.L : Nat) }) 33 :: bk p (srC S (.slice A S.t.own.length c) bo ba) 60 :: mp bo (opE S.L) :: mp ba (anE S.L) :: (X ++ LK)) H17 rfl (wn rfl) (R_st H17 rfl rfl rfl (st_i (i := 2) hL rfl)) (hL.put 2 _) fun _ w18 H18 hL => ?_
  refine h_end ?_
  obtain ⟨y, hy⟩ : ∃ y : PItem, y = { x with low := (lowN S.L : Nat) } := ⟨_, rfl⟩
  rw [← hy] at hL
  have hyo : y.Ok := by rw [hy]; exact ⟨hxo.kind, hxo.key, hxo.at0, hxo.at1, hxo.n0, hxo.n1⟩
  repeat (go_not_at_region 9; go_step)
  refine wp_region_held_drew (S := fun w' => LV w0 (bk wl.heap.size (itC y) 33 :: bk p (srC S (.slice A S.t.own.length c) bo ba) 60 :: mp bo (opE S.L) :: mp ba (anE S.L) :: (X ++ LK)) w') (by kernel_rfl) hL.drew (fun hL' => ?_)
  replace hL := hL'
  clear hL'
  refine a_opZ 0 H18 rfl rfl (by kernel_rfl) (wn rfl) (fun w hL => R_mv H18 rfl rfl) (hL) rfl (P7 36 6 0 3 18 19 20 rfl rfl rfl rfl rfl rfl rfl) fun _ H19 => ?_
  refine a_opZ 4 H19 rfl rfl (by kernel_rfl) (wn rfl) (fun w hL => R_mv H19 rfl rfl) (hL) rfl (P8 40 36 6 0 3 18 19 20 rfl rfl rfl rfl rfl rfl rfl rfl) fun _ H20 => ?_
  refine a_opZ 5 H20 rfl rfl (by kernel_rfl) (wn rfl) (fun w hL => R_ld H20 rfl rfl (ld_it hL.at_)) (hL) rfl (P9 41 40 36 6 0 3 18 19 20 rfl rfl rfl rfl rfl rfl rfl rfl rfl) fun _ H21 => ?_
  refine a_opZ 1 H21 rfl rfl (by kernel_rfl) (wn rfl) (fun w hL => R_nc H21 rfl rfl) (hL) rfl (P9 37 41 40 6 0 3 18 19 20 rfl rfl rfl rfl rfl rfl rfl rfl rfl) fun _ H22 => ?_
  refine a_opZ 2 H22 rfl rfl (by kernel_rfl) (wn rfl) (fun w hL => R_fa H22 rfl rfl fs_1) (hL) rfl (P9 38 41 40 6 0 3 18 19 20 rfl rfl rfl rfl rfl rfl rfl rfl rfl) fun _ H23 => ?_
  refine a_opZ 3 H23 rfl rfl (by kernel_rfl) (wn rfl) (fun w hL => R_ld H23 rfl rfl (ld_tbo (t := S.t) (hL.tail.cell 1) (hL.tail.cell 2) (hL.tail.cell 3))) (hL) rfl (P9 39 41 40 6 0 3 18 19 20 rfl rfl rfl rfl rfl rfl rfl rfl rfl) fun _ H24 => ?_
  refine a_all1 6 (by kernel_rfl) ?_
  refine o_callS 6 H24 rfl rfl (wn rfl) (R_call2 H24 rfl rfl rfl (fun w => by simp [go_sem])) rfl hL (part_any (x := y) hL.tail.at_ (hv2 _ hL.tail.tail.tail.tail.dropl) l1 hyo.key) (P8 42 39 6 0 3 18 19 20 rfl rfl rfl rfl rfl rfl rfl rfl) fun a25 w25 H25 hL' => ⟨hL', ?_⟩
  replace hL := hL'
  refine a_all1 7 (by kernel_rfl) ?_
  refine o_callS 7 H25 rfl rfl (wn rfl) (R_call2 H25 rfl rfl rfl (fun w => by simp [go_sem])) rfl hL (owner_any (hv2 _ hL.tail.tail.tail.tail.dropl) l1 _) (P7 43 6 0 3 18 19 20 rfl rfl rfl rfl rfl rfl rfl) fun a26 w26 H26 hL' => ⟨hL', ?_⟩
  replace hL := hL'
  refine a_opZ 8 H26 rfl rfl (by kernel_rfl) (wn rfl) (fun w hL => R_mv H26 rfl rfl) (hL) rfl (P7 35 6 0 3 18 19 20 rfl rfl rfl rfl rfl rfl rfl) fun _ H27 => ?_
  refine a_opZ 9 H27 rfl rfl (by kernel_rfl) (wn rfl) (fun w hL => R_ext H27 rfl rfl rfl) (hL) rfl (P8 44 35 6 0 3 18 19 20 rfl rfl rfl rfl rfl rfl rfl rfl) fun _ H28 => ?_
  refine a_opZ 10 H28 rfl rfl (by kernel_rfl) (wn rfl) (fun w hL => R_ext H28 rfl rfl rfl) (hL) rfl (P8 45 44 6 0 3 18 19 20 rfl rfl rfl rfl rfl rfl rfl rfl) fun _ H29 => ?_
  refine a_opZ 11 H29 rfl rfl (by kernel_rfl) (wn rfl) (fun w hL => R_as H29 rfl rfl) (hL) rfl (P8 7 45 6 0 3 18 19 20 rfl rfl rfl rfl rfl rfl rfl rfl) fun _ H30 => ?_
  refine a_opZ 12 H30 rfl rfl (by kernel_rfl) (wn rfl) (fun w hL => R_as H30 rfl rfl) (hL) rfl (P8 8 7 6 0 3 18 19 20 rfl rfl rfl rfl rfl rfl rfl rfl) fun _ H31 => ?_
  refine wpAnyH_done (by kernel_rfl) ?_ _
  obtain ⟨ok, hokk⟩ : ∃ b, b = (ownT S.t (partS S.t y)).2 := ⟨_, rfl⟩
  obtain ⟨to, hto⟩ : ∃ b, b = (ownT S.t (partS S.t y)).1 := ⟨_, rfl⟩
  replace H31 := H31.pick [(8, .bool ok), (7, .int .i64 to), (6, _), (0, _), (3, _), (18, _), (19, _), (20, _)] (by rw [hokk, hto]; exact (P8 8 7 6 0 3 18 19 20 rfl rfl rfl rfl rfl rfl rfl rfl))
  have hD := fun w => Data_any (W := w) (itm_fits hyo) (show (1 : Nat) < 256 by decide) hyo.kind (rd_nul w) (rd_nul w) (Nat.zero_le _) (Nat.zero_le _)
  have hpk : pkt S x = match dataM (itm y) with | .ok d => if ok = true then some (4 + S.src, to, d) else none | .error _ => none := by
   unfold pkt
   rw [hokk, hto, hy]
   rfl
  cases hd : dataM (itm y) with
  | error f =>
   rw [hd] at hD hpk
   simp only [Said] at hD
   simp only at hpk
   repeat (go_not_at_region 10; go_step)
   refine wp_region_lit ?_
   refine h_o H31 rfl (R_ld H31 rfl rfl (ld_it hL.at_)) (P8 47 8 7 0 3 18 19 20 rfl rfl rfl rfl rfl rfl rfl rfl) fun _ H32 => ?_
   refine h_o H32 rfl (R_bd2 H32 rfl rfl rfl bd_msg) (P8 48 8 7 0 3 18 19 20 rfl rfl rfl rfl rfl rfl rfl rfl) fun _ H33 => ?_
   refine h_call H33 rfl (wn rfl) (R_call1 H33 rfl rfl (fun w => by simp [go_sem])) rfl ?_
   refine (hD _).mono ?_
   rintro e w34 ⟨hb, rfl⟩
   replace hL := hL.call hb
   clear hb
   refine ⟨_, rfl, fun a34 HH => ?_⟩
   have H34 := HH _ (P8 49 8 7 0 3 18 19 20 rfl rfl rfl rfl rfl rfl rfl rfl)
   refine h_o H34 rfl (R_mv H34 rfl rfl) (P8 46 8 7 0 3 18 19 20 rfl rfl rfl rfl rfl rfl rfl rfl) fun _ H35 => ?_
   refine h_o H35 rfl (R_ext H35 rfl rfl rfl) (P9 50 46 8 7 0 3 18 19 20 rfl rfl rfl rfl rfl rfl rfl rfl rfl) fun _ H36 => ?_
   refine h_o H36 rfl (R_ext H36 rfl rfl rfl) (P9 51 50 8 7 0 3 18 19 20 rfl rfl rfl rfl rfl rfl rfl rfl rfl) fun _ H37 => ?_
   refine h_o H37 rfl (R_as H37 rfl rfl) (P9 9 51 8 7 0 3 18 19 20 rfl rfl rfl rfl rfl rfl rfl rfl rfl) fun _ H38 => ?_
   refine h_o H38 rfl (R_as H38 rfl rfl) (P9 10 9 8 7 0 3 18 19 20 rfl rfl rfl rfl rfl rfl rfl rfl rfl) fun _ H39 => ?_
   refine h_end ?_
   have hfn := data_ne hd
   repeat (go_not_at_region 11; go_step)
   refine wp_region_lit ?_
   cases ok
   ·refine h_op H39 rfl (wn rfl) (R_mv H39 rfl rfl) rfl (P7 52 10 0 3 18 19 20 rfl rfl rfl rfl rfl rfl rfl) fun a40 H40 => ?_
    refine h_o H40 rfl (R_mv H40 rfl rfl) (P7 53 10 0 3 18 19 20 rfl rfl rfl rfl rfl rfl rfl) fun _ H41 => ?_
    refine h_skip H41 rfl (H41.wf rfl rfl rfl) rfl (P7 54 53 0 3 18 19 20 rfl rfl rfl rfl rfl rfl rfl) fun _ H42 => ?_
    refine h_skip H42 rfl (H42.wf rfl rfl rfl) rfl (P7 55 53 0 3 18 19 20 rfl rfl rfl rfl rfl rfl rfl) fun _ H43 => ?_
    refine h_o H43 rfl (R_pick H43 rfl rfl rfl) (P6 56 0 3 18 19 20 rfl rfl rfl rfl rfl rfl) fun _ H44 => ?_
    refine h_end ?_
    repeat (go_not_at_region 13; go_step)
    refine wp_cond_false (H44.ev (x := .tmp 56) rfl) ?_
    repeat (go_not_at_region 13; go_step)
    repeat (go_not_at_region 13; go_step)
    refine wp_region_lit ?_
    refine h_o H44 rfl (R_bin H44 rfl rfl rfl (B_add Tryz.underlying3 _ _ (by omega) (by omega))) (P6 68 0 3 18 19 20 rfl rfl rfl rfl rfl rfl) fun _ H45 => ?_
    refine h_o H45 rfl (R_mv H45 rfl rfl) (P5 20 0 3 18 19 rfl rfl rfl rfl rfl) fun _ H46 => ?_
    refine h_end ?_
    repeat (go_not_at_region 999; go_step)
    rw [hpk] at htk
    rw [List.append_nil] at htk
    rw [← htk] at hr
    replace hL := hL.tail
    refine ⟨(opE S.L).length - (j + 1), by omega, (HI.out _ _ _).2 ⟨j + 1, _, _, rfl, hjl, H46.pick _ (P5 0 3 18 19 20 rfl rfl rfl rfl rfl), hr, hL⟩⟩
   ·refine h_op H39 rfl (wn rfl) (R_mv H39 rfl rfl) rfl (P7 52 10 0 3 18 19 20 rfl rfl rfl rfl rfl rfl rfl) fun a40 H40 => ?_
    refine h_o H40 rfl (R_mv H40 rfl rfl) (P7 53 10 0 3 18 19 20 rfl rfl rfl rfl rfl rfl rfl) fun _ H41 => ?_
    refine h_op H41 rfl (H41.wt rfl rfl rfl) (R_mv H41 rfl rfl) rfl (P7 54 53 0 3 18 19 20 rfl rfl rfl rfl rfl rfl rfl) fun _ H42 => ?_
    refine h_op H42 rfl (H42.wt rfl rfl rfl) (R_bin H42 rfl rfl rfl (B_to (y := false) (B_eq Tryz.underlying23 _ _) (beq_eq_false_iff_ne.2 hfn))) rfl (P7 55 53 0 3 18 19 20 rfl rfl rfl rfl rfl rfl rfl) fun _ H43 => ?_
    refine h_o H43 rfl (R_pick H43 rfl rfl rfl) (P6 56 0 3 18 19 20 rfl rfl rfl rfl rfl rfl) fun _ H44 => ?_
    refine h_end ?_
    repeat (go_not_at_region 13; go_step)
    refine wp_cond_false (H44.ev (x := .tmp 56) rfl) ?_
    repeat (go_not_at_region 13; go_step)
    repeat (go_not_at_region 13; go_step)
    refine wp_region_lit ?_
    refine h_o H44 rfl (R_bin H44 rfl rfl rfl (B_add Tryz.underlying3 _ _ (by omega) (by omega))) (P6 68 0 3 18 19 20 rfl rfl rfl rfl rfl rfl) fun _ H45 => ?_
    refine h_o H45 rfl (R_mv H45 rfl rfl) (P5 20 0 3 18 19 rfl rfl rfl rfl rfl) fun _ H46 => ?_
    refine h_end ?_
    repeat (go_not_at_region 999; go_step)
    rw [hpk] at htk
    rw [List.append_nil] at htk
    rw [← htk] at hr
    replace hL := hL.tail
    refine ⟨(opE S.L).length - (j + 1), by omega, (HI.out _ _ _).2 ⟨j + 1, _, _, rfl, hjl, H46.pick _ (P5 0 3 18 19 20 rfl rfl rfl rfl rfl), hr, hL⟩⟩
  | ok d =>
   rw [hd] at hD hpk
   simp only [Said] at hD
   simp only at hpk
   repeat (go_not_at_region 10; go_step)
   refine wp_region_lit ?_
   refine h_o H31 rfl (R_ld H31 rfl rfl (ld_it hL.at_)) (P8 47 8 7 0 3 18 19 20 rfl rfl rfl rfl rfl rfl rfl rfl) fun _ H32 => ?_
   refine h_o H32 rfl (R_bd2 H32 rfl rfl rfl bd_msg) (P8 48 8 7 0 3 18 19 20 rfl rfl rfl rfl rfl rfl rfl rfl) fun _ H33 => ?_
   refine h_call H33 rfl (wn rfl) (R_call1 H33 rfl rfl (fun w => by simp [go_sem])) rfl ?_
   refine (hD _).mono ?_
   rintro e w34 ⟨hb, rfl⟩
   replace hL := hL.call hb
   clear hb
   refine ⟨_, rfl, fun a34 HH => ?_⟩
   have H34 := HH _ (P8 49 8 7 0 3 18 19 20 rfl rfl rfl rfl rfl rfl rfl rfl)
   refine h_o H34 rfl (R_mv H34 rfl rfl) (P8 46 8 7 0 3 18 19 20 rfl rfl rfl rfl rfl rfl rfl rfl) fun _ H35 => ?_
   refine h_o H35 rfl (R_ext H35 rfl rfl rfl) (P9 50 46 8 7 0 3 18 19 20 rfl rfl rfl rfl rfl rfl rfl rfl rfl) fun _ H36 => ?_
   refine h_o H36 rfl (R_ext H36 rfl rfl rfl) (P9 51 50 8 7 0 3 18 19 20 rfl rfl rfl rfl rfl rfl rfl rfl rfl) fun _ H37 => ?_
   refine h_o H37 rfl (R_as H37 rfl rfl) (P9 9 51 8 7 0 3 18 19 20 rfl rfl rfl rfl rfl rfl rfl rfl rfl) fun _ H38 => ?_
   refine h_o H38 rfl (R_as H38 rfl rfl) (P9 10 9 8 7 0 3 18 19 20 rfl rfl rfl rfl rfl rfl rfl rfl rfl) fun _ H39 => ?_
   refine h_end ?_
   repeat (go_not_at_region 11; go_step)
   refine wp_region_lit ?_
   cases ok
   ·simp only [Bool.false_eq_true, if_false] at hpk
    refine h_o H39 rfl (R_mv H39 rfl rfl) (P7 52 10 0 3 18 19 20 rfl rfl rfl rfl rfl rfl rfl) fun _ H40 => ?_
    refine h_o H40 rfl (R_mv H40 rfl rfl) (P7 53 10 0 3 18 19 20 rfl rfl rfl rfl rfl rfl rfl) fun _ H41 => ?_
    refine h_skip H41 rfl (H41.wf rfl rfl rfl) rfl (P7 54 53 0 3 18 19 20 rfl rfl rfl rfl rfl rfl rfl) fun _ H42 => ?_
    refine h_skip H42 rfl (H42.wf rfl rfl rfl) rfl (P7 55 53 0 3 18 19 20 rfl rfl rfl rfl rfl rfl rfl) fun _ H43 => ?_
    refine h_o H43 rfl (R_pick H43 rfl rfl rfl) (P6 56 0 3 18 19 20 rfl rfl rfl rfl rfl rfl) fun _ H44 => ?_
    refine h_end ?_
    repeat (go_not_at_region 13; go_step)
    refine wp_cond_false (H44.ev (x := .tmp 56) rfl) ?_
    repeat (go_not_at_region 13; go_step)
    repeat (go_not_at_region 13; go_step)
    refine wp_region_lit ?_
    refine h_o H44 rfl (R_bin H44 rfl rfl rfl (B_add Tryz.underlying3 _ _ (by omega) (by omega))) (P6 68 0 3 18 19 20 rfl rfl rfl rfl rfl rfl) fun _ H45 => ?_
    refine h_o H45 rfl (R_mv H45 rfl rfl) (P5 20 0 3 18 19 rfl rfl rfl rfl rfl) fun _ H46 => ?_
    refine h_end ?_
    repeat (go_not_at_region 999; go_step)
    rw [hpk] at htk
    rw [List.append_nil] at htk
    rw [← htk] at hr
    replace hL := hL.tail
    refine ⟨(opE S.L).length - (j + 1), by omega, (HI.out _ _ _).2 ⟨j + 1, _, _, rfl, hjl, H46.pick _ (P5 0 3 18 19 20 rfl rfl rfl rfl rfl), hr, hL⟩⟩
   ·simp only [if_true] at hpk
    rw [hpk] at htk
    refine h_o H39 rfl (R_mv H39 rfl rfl) (P9 52 10 9 7 0 3 18 19 20 rfl rfl rfl rfl rfl rfl rfl rfl rfl) fun _ H40 => ?_
    refine h_o H40 rfl (R_mv H40 rfl rfl) (P9 53 10 9 7 0 3 18 19 20 rfl rfl rfl rfl rfl rfl rfl rfl rfl) fun _ H41 => ?_
    refine h_op H41 rfl (H41.wt rfl rfl rfl) (R_mv H41 rfl rfl) rfl (P9 54 53 9 7 0 3 18 19 20 rfl rfl rfl rfl rfl rfl rfl rfl rfl) fun _ H42 => ?_
    refine h_op H42 rfl (H42.wt rfl rfl rfl) (R_bin H42 rfl rfl rfl (B_to (y := true) (B_eq Tryz.underlying23 _ _) (by decide))) rfl (P9 55 53 9 7 0 3 18 19 20 rfl rfl rfl rfl rfl rfl rfl rfl rfl) fun _ H43 => ?_
    refine h_o H43 rfl (R_pick H43 rfl rfl rfl) (P8 56 9 7 0 3 18 19 20 rfl rfl rfl rfl rfl rfl rfl rfl) fun _ H44 => ?_
    refine h_end ?_
    repeat (go_not_at_region 12; go_step)
    refine wp_cond_true (H44.ev (x := .tmp 56) rfl) ?_
    repeat (go_not_at_region 12; go_step)
    refine wp_region_lit ?_
    refine h_o H44 rfl (R_mv H44 rfl rfl) (P8 57 9 7 0 3 18 19 20 rfl rfl rfl rfl rfl rfl rfl rfl) fun _ H45 => ?_
    refine h_o H45 rfl (R_mv H45 rfl rfl) (P9 58 57 9 7 0 3 18 19 20 rfl rfl rfl rfl rfl rfl rfl rfl rfl) fun _ H46 => ?_
    refine h_o H46 rfl (R_nc H46 rfl rfl) (P9 59 57 9 7 0 3 18 19 20 rfl rfl rfl rfl rfl rfl rfl rfl rfl) fun _ H47 => ?_
    refine h_o H47 rfl (R_fa H47 rfl rfl fs_0) (P9 60 57 9 7 0 3 18 19 20 rfl rfl rfl rfl rfl rfl rfl rfl rfl) fun _ H48 => ?_
    refine h_o H48 rfl (R_ld H48 rfl rfl (ld_int (hL.tail.cell 0))) (P9 61 57 9 7 0 3 18 19 20 rfl rfl rfl rfl rfl rfl rfl rfl rfl) fun _ H49 => ?_
    refine h_o H49 rfl (R_bin H49 rfl rfl rfl (B_add Tryz.underlying3 _ _ (by omega) (by omega))) (P9 62 57 9 7 0 3 18 19 20 rfl rfl rfl rfl rfl rfl rfl rfl rfl) fun _ H50 => ?_
    refine h_o H50 rfl (R_mv H50 rfl rfl) (P9 63 62 57 9 0 3 18 19 20 rfl rfl rfl rfl rfl rfl rfl rfl rfl) fun _ H51 => ?_
    refine h_o H51 rfl (R_mv H51 rfl rfl) (P9 64 63 62 57 0 3 18 19 20 rfl rfl rfl rfl rfl rfl rfl rfl rfl) fun _ H52 => ?_
    refine h_o H52 rfl (R_bd3 H52 rfl rfl rfl rfl bd_pk) (P7 65 57 0 3 18 19 20 rfl rfl rfl rfl rfl rfl rfl) fun _ H53 => ?_
    refine h_opS (bk w34.heap.size #[.int .i64 (4 + S.src), .int .i64 to, .string d] 45 :: bk wl.heap.size (itC y) 33 :: bk p (srC S (.slice A S.t.own.length c) bo ba) 60 :: mp bo (opE S.L) :: mp ba (anE S.L) :: (X ++ LK)) H53 rfl (wn rfl) (R_bs1 H53 rfl rfl bs_pk) (hL.alloc _ _) rfl (P7 66 57 0 3 18 19 20 rfl rfl rfl rfl rfl rfl rfl) fun _ w54 H54 hL => ?_
    obtain ⟨v2, W2, X2, hrun, hr2, hL2⟩ := app_run (cn := 1) (m := 1) hr hL.fr5 (List.mem_cons_self) rfl Tryz.underlying41 hi hz0 hz1 hz2 rfl (by decide) rfl (by simp only [List.all_eq_true] at *; intro u hu; simp only [List.mem_cons, List.not_mem_nil, or_false] at hu; rcases hu with rfl | rfl | rfl <;> rfl) (by omega) (by decide) 41
    refine h_opS (X2 ++ (bk w34.heap.size #[.int .i64 (4 + S.src), .int .i64 to, .string d] 45 :: bk wl.heap.size (itC y) 33 :: bk p (srC S (.slice A S.t.own.length c) bo ba) 60 :: mp bo (opE S.L) :: mp ba (anE S.L) :: LK)) H54 rfl (wn rfl) (R_app H54 rfl rfl rfl hrun) (hL2) rfl (P6 67 0 3 18 19 20 rfl rfl rfl rfl rfl rfl) fun _ w55 H55 hL => ?_
    refine h_o H55 rfl (R_as H55 rfl rfl) (P5 3 0 18 19 20 rfl rfl rfl rfl rfl) fun _ H56 => ?_
    refine h_end ?_
    repeat (go_not_at_region 13; go_step)
    repeat (go_not_at_region 13; go_step)
    refine wp_region_lit ?_
    refine h_o H56 rfl (R_bin H56 rfl rfl rfl (B_add Tryz.underlying3 _ _ (by omega) (by omega))) (P6 68 3 0 18 19 20 rfl rfl rfl rfl rfl rfl) fun _ H57 => ?_
    refine h_o H57 rfl (R_mv H57 rfl rfl) (P5 20 3 0 18 19 rfl rfl rfl rfl rfl) fun _ H58 => ?_
    refine h_end ?_
    repeat (go_not_at_region 999; go_step)
    have hr3 := hr2
    rw [show pkF (((opItems S.L).take j).filterMap (pkt S)) ++ [.int .i64 (4 + S.src), .int .i64 to, .string d] = pkF (((opItems S.L).take (j + 1)).filterMap (pkt S)) by rw [htk, pkF_app], show (((opItems S.L).take j).filterMap (pkt S)).length + 1 = (((opItems S.L).take (j + 1)).filterMap (pkt S)).length by rw [htk, List.length_append]; rfl] at hr3
    clear hr hr2
    have hr := hr3
    replace hL := (hL.bk5).tail.tail
    refine ⟨(opE S.L).length - (j + 1), by omega, (HI.out _ _ _).2 ⟨j + 1, _, _, rfl, hjl, H58.pick _ (P5 0 3 18 19 20 rfl rfl rfl rfl rfl), hr, hL⟩⟩
 ·obtain rfl : j = (opE S.L).length := by omega
  have hall : ((opItems S.L).take (opE S.L).length).filterMap (pkt S) = pktsM S := by rw [opE_len, List.take_length]; rfl
  rw [hall] at hr
  repeat (go_not_at_region 5; go_step)
  refine wp_region_lit ?_
  refine h_o H0 rfl (R_bin H0 rfl rfl rfl (B_to (y := false) (B_lt Tryz.underlying3 _ _) (decide_eq_false (by omega)))) (P6 21 0 3 18 19 20 rfl rfl rfl rfl rfl rfl) fun _ H1 => ?_
  refine h_end ?_
  repeat (go_not_at_region 14; go_step)
  refine wp_cond_false (H1.ev (x := .tmp 21) rfl) ?_
  repeat (go_not_at_region 14; go_step)
  refine wp_region_lit ?_
  refine h_o H1 rfl (R_mv H1 rfl rfl) (P1 69 rfl) fun _ H2 => ?_
  refine h_o H2 rfl (R_as H2 rfl rfl) (P1 2 rfl) fun _ H3 => ?_
  refine h_end ?_
  repeat (go_not_at_region 999; go_step)
  refine H3.ret1 rfl rfl ⟨_, X, rfl, hr, ?_⟩
  rw [hLK] at hL
  have h5 := hL.fr3
  refine h5.drop3 hLK
end
end Go.Proofs.YthkeiclhllikjaaGreat
