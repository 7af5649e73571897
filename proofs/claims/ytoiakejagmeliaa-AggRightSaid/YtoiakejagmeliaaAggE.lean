/-
  Two aggregates compared: the run of '==' on the struct with its array.
-/
import Derived.Test.YtoiakejagmeliaaMem
import Derived.WalkKit
import Derived.ChangeKeysEq
set_option linter.unusedSimpArgs false
set_option linter.unusedVariables false
namespace Go.Proofs.Ytoiakejagmeliaa
open Go.RowKit
theorem run_part_num {P : Program} (w : World) {e : TypeId} {k' : IntKind} (he : P.underlying e = some (.int k')) {xs : Array Value} {off : Nat} {v : Value} (hx : xs[off]? = some v) : (part e xs off).run P w = .ok v w := by
  simp [part, isAgg, run_underlying he, hx]
theorem run_eq_arr4 {P : Program} (w : World) (d : Nat) (t e : TypeId) (k k' : IntKind) (a0 a1 a2 a3 b0 b1 b2 b3 : Int) (ht : P.underlying t = some (.array 4 e)) (he : P.underlying e = some (.int k')) (i : TypeInfo) (hi : P.info? e = some i) (hs : P.cellsOf e = 1) :
    (Op.equalIn (d + 2) t (.agg #[.int k a0, .int k a1, .int k a2, .int k a3]) (.agg #[.int k b0, .int k b1, .int k b2, .int k b3])).run P w = .ok (a0 == b0 && (a1 == b1 && (a2 == b2 && a3 == b3))) w := by
  have hq := fun (w : World) (a b : Int) => run_equalIn_int (P := P) w d e k k' a b he
  have ha : ∀ (w : World) (n : Nat) (v : Value), (#[.int k a0, .int k a1, .int k a2, .int k a3] : Array Value)[n]? = some v → (part e #[.int k a0, .int k a1, .int k a2, .int k a3] n).run P w = .ok v w := fun w n v h => run_part_num w he h
  have hb : ∀ (w : World) (n : Nat) (v : Value), (#[.int k b0, .int k b1, .int k b2, .int k b3] : Array Value)[n]? = some v → (part e #[.int k b0, .int k b1, .int k b2, .int k b3] n).run P w = .ok v w := fun w n v h => run_part_num w he h
  have ha0 := fun w => ha w 0 (.int k a0) rfl
  have ha1 := fun w => ha w 1 (.int k a1) rfl
  have ha2 := fun w => ha w 2 (.int k a2) rfl
  have ha3 := fun w => ha w 3 (.int k a3) rfl
  have hb0 := fun w => hb w 0 (.int k b0) rfl
  have hb1 := fun w => hb w 1 (.int k b1) rfl
  have hb2 := fun w => hb w 2 (.int k b2) rfl
  have hb3 := fun w => hb w 3 (.int k b3) rfl
  clear ha hb
  generalize hA : (#[.int k a0, .int k a1, .int k a2, .int k a3] : Array Value) = A at *
  generalize hB : (#[.int k b0, .int k b1, .int k b2, .int k b3] : Array Value) = B at *
  have h2 : d + 2 = (d + 1) + 1 := rfl
  rw [h2]
  generalize d + 1 = D at *
  have q0 := fun w => hq w a0 b0
  have q1 := fun w => hq w a1 b1
  have q2 := fun w => hq w a2 b2
  have q3 := fun w => hq w a3 b3
  clear hq hA hB h2
  generalize (a0 == b0) = p0 at *
  generalize (a1 == b1) = p1 at *
  generalize (a2 == b2) = p2 at *
  generalize (a3 == b3) = p3 at *
  unfold Op.equalIn
  simp only [run_underlying ht, run_sizeOf w hi, hs, Sem.run_bind, Result.andThen_ok]
  simp only [Std.Legacy.Range.forIn_eq_forIn_range', Std.Legacy.Range.size, Nat.sub_zero, Nat.add_sub_cancel, Nat.div_one, List.range', List.forIn_cons, List.forIn_nil, Nat.mul_one, Nat.zero_add, Sem.run_bind, ha0, hb0, q0, Result.andThen_ok]
  cases p0 <;> cases p1 <;> cases p2 <;> cases p3 <;> simp [ha1, ha2, ha3, hb1, hb2, hb3, q1, q2, q3]

theorem info_num : ∃ i, Try.prog.info? 2 = some i := by
  have h := Try.underlying2
  unfold Program.underlying at h
  cases hi : Try.prog.info? 2 with
  | none => simp [hi] at h
  | some i => exact ⟨i, rfl⟩
theorem cells_num : Try.prog.cellsOf 2 = 1 := by kernel_rfl
theorem fields_agg : Try.prog.fieldsOf 24 = #[{ name := "Count", type := 2, offset := 0, embedded := false, tag := "", pkgPath := "", byteOffset := 0 }, { name := "Sum", type := 2, offset := 1, embedded := false, tag := "", pkgPath := "", byteOffset := 8 }, { name := "Min", type := 2, offset := 2, embedded := false, tag := "", pkgPath := "", byteOffset := 16 }, { name := "Max", type := 2, offset := 3, embedded := false, tag := "", pkgPath := "", byteOffset := 24 }, { name := "Hist", type := 22, offset := 4, embedded := false, tag := "", pkgPath := "", byteOffset := 32 }] := by
  unfold Program.fieldsOf; rw [Try.underlying24]
theorem part_hist (w : World) (a0 a1 a2 a3 a4 a5 a6 a7 : Value) : (part 22 #[a0, a1, a2, a3, a4, a5, a6, a7] 4).run Try.prog w = .ok (.agg #[a4, a5, a6, a7]) w := by
  kernel_rfl
theorem run_eq_agg (w : World) (a0 a1 a2 a3 a4 a5 a6 a7 b0 b1 b2 b3 b4 b5 b6 b7 : Int) :
    (binOp .eql 24 (.agg #[.int .i64 a0, .int .i64 a1, .int .i64 a2, .int .i64 a3, .int .i64 a4, .int .i64 a5, .int .i64 a6, .int .i64 a7]) (.agg #[.int .i64 b0, .int .i64 b1, .int .i64 b2, .int .i64 b3, .int .i64 b4, .int .i64 b5, .int .i64 b6, .int .i64 b7])).run Try.prog w =
      .ok (.bool (decide (a0 = b0 ∧ a1 = b1 ∧ a2 = b2 ∧ a3 = b3 ∧ a4 = b4 ∧ a5 = b5 ∧ a6 = b6 ∧ a7 = b7))) w := by
  obtain ⟨i, hi⟩ := info_num
  have harr := fun (w : World) => run_eq_arr4 w 9997 22 2 .i64 .i64 a4 a5 a6 a7 b4 b5 b6 b7 Try.underlying22 Try.underlying2 i hi cells_num
  have hq := fun (w : World) (a b : Int) => run_equalIn_int (P := Try.prog) w 9998 2 .i64 .i64 a b Try.underlying2
  rw [run_eql_struct, run_equalIn_struct w 9999 24 _ _ (by rw [fields_agg]; exact Try.underlying24) (by kernel_rfl), fields_agg]
  have pa0 : ∀ w : World, (part 2 #[.int .i64 a0, .int .i64 a1, .int .i64 a2, .int .i64 a3, .int .i64 a4, .int .i64 a5, .int .i64 a6, .int .i64 a7] 0).run Try.prog w = .ok (.int .i64 a0) w := fun w => run_part_num w Try.underlying2 rfl
  have pa1 : ∀ w : World, (part 2 #[.int .i64 a0, .int .i64 a1, .int .i64 a2, .int .i64 a3, .int .i64 a4, .int .i64 a5, .int .i64 a6, .int .i64 a7] 1).run Try.prog w = .ok (.int .i64 a1) w := fun w => run_part_num w Try.underlying2 rfl
  have pa2 : ∀ w : World, (part 2 #[.int .i64 a0, .int .i64 a1, .int .i64 a2, .int .i64 a3, .int .i64 a4, .int .i64 a5, .int .i64 a6, .int .i64 a7] 2).run Try.prog w = .ok (.int .i64 a2) w := fun w => run_part_num w Try.underlying2 rfl
  have pa3 : ∀ w : World, (part 2 #[.int .i64 a0, .int .i64 a1, .int .i64 a2, .int .i64 a3, .int .i64 a4, .int .i64 a5, .int .i64 a6, .int .i64 a7] 3).run Try.prog w = .ok (.int .i64 a3) w := fun w => run_part_num w Try.underlying2 rfl
  have pa4 := fun w => part_hist w (.int .i64 a0) (.int .i64 a1) (.int .i64 a2) (.int .i64 a3) (.int .i64 a4) (.int .i64 a5) (.int .i64 a6) (.int .i64 a7)
  have pb0 : ∀ w : World, (part 2 #[.int .i64 b0, .int .i64 b1, .int .i64 b2, .int .i64 b3, .int .i64 b4, .int .i64 b5, .int .i64 b6, .int .i64 b7] 0).run Try.prog w = .ok (.int .i64 b0) w := fun w => run_part_num w Try.underlying2 rfl
  have pb1 : ∀ w : World, (part 2 #[.int .i64 b0, .int .i64 b1, .int .i64 b2, .int .i64 b3, .int .i64 b4, .int .i64 b5, .int .i64 b6, .int .i64 b7] 1).run Try.prog w = .ok (.int .i64 b1) w := fun w => run_part_num w Try.underlying2 rfl
  have pb2 : ∀ w : World, (part 2 #[.int .i64 b0, .int .i64 b1, .int .i64 b2, .int .i64 b3, .int .i64 b4, .int .i64 b5, .int .i64 b6, .int .i64 b7] 2).run Try.prog w = .ok (.int .i64 b2) w := fun w => run_part_num w Try.underlying2 rfl
  have pb3 : ∀ w : World, (part 2 #[.int .i64 b0, .int .i64 b1, .int .i64 b2, .int .i64 b3, .int .i64 b4, .int .i64 b5, .int .i64 b6, .int .i64 b7] 3).run Try.prog w = .ok (.int .i64 b3) w := fun w => run_part_num w Try.underlying2 rfl
  have pb4 := fun w => part_hist w (.int .i64 b0) (.int .i64 b1) (.int .i64 b2) (.int .i64 b3) (.int .i64 b4) (.int .i64 b5) (.int .i64 b6) (.int .i64 b7)
  have e : decide (a0 = b0 ∧ a1 = b1 ∧ a2 = b2 ∧ a3 = b3 ∧ a4 = b4 ∧ a5 = b5 ∧ a6 = b6 ∧ a7 = b7) = (a0 == b0 && (a1 == b1 && (a2 == b2 && (a3 == b3 && (a4 == b4 && (a5 == b5 && (a6 == b6 && a7 == b7))))))) := by
    rw [Bool.eq_iff_iff]; simp
  rw [e]
  clear e
  have q0 := fun w => hq w a0 b0
  have q1 := fun w => hq w a1 b1
  have q2 := fun w => hq w a2 b2
  have q3 := fun w => hq w a3 b3
  clear hq
  generalize (a0 == b0) = t0 at *
  generalize (a1 == b1) = t1 at *
  generalize (a2 == b2) = t2 at *
  generalize (a3 == b3) = t3 at *
  generalize (a4 == b4 && (a5 == b5 && (a6 == b6 && a7 == b7))) = t4 at *
  simp only [Op.eqFields, Sem.run_bind, pa0, pb0, q0, Result.andThen_ok]
  cases t0 <;> cases t1 <;> cases t2 <;> cases t3 <;> cases t4 <;> simp [pa0, pb0, q0, pa1, pb1, q1, pa2, pb2, q2, pa3, pb3, q3, pa4, pb4, harr]
end Go.Proofs.Ytoiakejagmeliaa
