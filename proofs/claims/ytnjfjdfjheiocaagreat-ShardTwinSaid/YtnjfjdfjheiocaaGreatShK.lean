/-
  Rows of structs that grow.
-/
import Derived.Test.YtnjfjdfjheiocaaGreatShD
import Derived.Maps.AppendAt
import Derived.Lib.SlKeysI
set_option linter.unusedSimpArgs false
set_option linter.unusedVariables false
namespace Go.Proofs.YtnjfjdfjheiocaaGreat
open Go.RowKit
/-- A slice that a law has made, of elements of so many cells. -/
def PRow (e : TypeId) (size : Nat) (v : Value) (n : Nat) (xs : List Value) (X : List Thg) : Prop :=
  xs.length = n * size ∧ ((v = .slice none 0 0 ∧ n = 0 ∧ X = []) ∨ ∃ g cap cur, v = .slice (some ⟨g, 0, none⟩) n cap ∧ X = [bk g cur e] ∧ n ≤ cap ∧ cap ≤ maxLen ∧ cur.size = cap * size ∧ cur.toList.take (n * size) = xs)
section
variable {w0 W W' w : World} {L X : List Thg} {e t : TypeId} {size n m bytes : Nat} {v : Value} {xs news : List Value}
theorem PRow.nil : PRow e size (.slice none 0 0) 0 [] [] := ⟨by simp, .inl ⟨rfl, rfl, rfl⟩⟩
theorem PRow.owns (h : PRow e size v n xs X) (hL : LV w0 (X ++ L) W) : W.ownsRow w0.heap.size e size v n xs := by
  refine ⟨h.1, ?_⟩
  rcases h.2 with ⟨rfl, rfl, rfl⟩ | ⟨g, cap, cur, rfl, rfl, h1, h2, h3, h4⟩
  · exact .inl ⟨rfl, rfl⟩
  · exact .inr ⟨g, cap, cur, rfl, hL.ge, hL.at_, h1, h2, h3, h4⟩
/-- What comes to be owned is a thing. -/
theorem owned_thing (hL : LV w0 L W) (hg : W.grownBy W' none) (ho : W'.ownsRow W.heap.size e size v n xs) : ∃ X, PRow e size v n xs X ∧ LV w0 (X ++ L) W' := by
  have hb : Below W.heap.size W W' := ⟨hg.os, hg.tape, hg.output, hg.size, fun k hk => hg.block k hk (by simp)⟩
  have h2 := hL.call hb
  rcases ho.2 with ⟨rfl, rfl⟩ | ⟨g, cap, cur, rfl, hge, hgb, h3, h4, h5, h6⟩
  · exact ⟨[], ⟨ho.1, .inl ⟨rfl, rfl, rfl⟩⟩, h2⟩
  · refine ⟨[bk g cur e], ⟨ho.1, .inr ⟨g, cap, cur, rfl, rfl, h3, h4, h5, h6⟩⟩, h2.cons (Nat.le_trans hL.1.size hge) (fun q hq => ?_) hgb⟩
    have := Thg.lt (hL.2.2 q hq).2
    have h7 : W.heap.size ≤ g := hge
    simp only
    omega
/-- append to such a slice. -/
theorem app_run {gn cn : Nat} {cur : Array Value} {i : TypeInfo} {z : Value} (hr : PRow e size v n xs X) (hL : LV w0 (X ++ L) W) (hm : bk gn cur e ∈ L) (hcur : cur.toList = news) (ht : Tryz.prog.underlying t = some (.slice e)) (hi : Tryz.prog.info? e = some i) (hz : i.zero = some z) (hsize : i.size = size) (hby : i.bytes = bytes) (hzs : z.cells.size = size) (hsz : 0 < size)
    (hl : news.length = m * size) (h1 : ∀ u ∈ news, u.oneCell' = true) (h63 : n + m ≤ 1000000) (hb2 : bytes ≤ 1000) (ty : TypeId) : ∃ v' W' X', (Builtin.append_ #[t, t] ty #[v, .slice (some ⟨gn, 0, none⟩) m cn]).run Tryz.prog W = .ok v' W' ∧ PRow e size v' (n + m) (xs ++ news) X' ∧ LV w0 (X' ++ L) W' := by
  have ho := hr.owns hL
  have hmem : bk gn cur e ∈ X ++ L := List.mem_append.2 (.inr hm)
  have hcell : ∀ j u, news[j]? = some u → W.cell? ((⟨gn, 0, none⟩ : Addr).add j) = some u := by
    intro j u hj
    have h2 := hL.cl hmem j
    rw [← hcur, Array.getElem?_toList] at hj
    have e : (⟨gn, 0, none⟩ : Addr).add j = ⟨gn, j, none⟩ := by cases j <;> simp [Addr.add]
    rw [e, h2, hj]
  have hbytes : (n + m) * bytes ≤ 140737488355328 := by
    have := Nat.mul_le_mul h63 hb2
    omega
  obtain ⟨v', W', hrun, ho2, hg, _, hloc⟩ := run_append_own_at (P := Tryz.prog) W w0.heap.size t ty e i z size bytes ht hi hz hsize hby hzs hsz v n xs ho ⟨gn, 0, none⟩ m cn news hl hcell h1 (by unfold maxLen; omega) hbytes hL.1.size
  rcases hr.2 with ⟨rfl, rfl, rfl⟩ | ⟨g, cap, c0, rfl, rfl, _, _, _, _⟩
  · -- nothing was owned
    have hg2 : W.grownBy W' none := ⟨hg.os, hg.tape, hg.output, hg.size, fun k hk _ => hg.block k hk (by simp [Value.ownBlock])⟩
    have ho3 : W'.ownsRow W.heap.size e size v' (0 + m) (xs ++ news) := by
      refine ⟨ho2.1, ?_⟩
      rcases ho2.2 with h | ⟨g2, cap2, cur2, rfl, hbg, h2⟩
      · exact .inl h
      · refine .inr ⟨g2, cap2, cur2, rfl, ?_, h2⟩
        rcases hloc with h | h
        · simp [Value.ownBlock] at h
        · simp [Value.ownBlock] at h
          omega
    obtain ⟨X', h4, h5⟩ := owned_thing (L := L) hL hg2 ho3
    exact ⟨v', W', X', hrun, h4, h5⟩
  · rcases ho2.2 with ⟨rfl, h0⟩ | ⟨g2, cap2, cur2, rfl, hbg, hgb, h3, h4, h5, h6⟩
    · -- nothing came of it: nothing was there
      have hn0 : n = 0 ∧ m = 0 := by omega
      refine ⟨_, W', [], hrun, ⟨ho2.1, .inl ⟨rfl, h0, rfl⟩⟩, ?_⟩
      have h7 : LV w0 (bk g c0 e :: L) W := hL
      refine ⟨?_, h7.tail.2.1, fun q hq => ⟨(h7.tail.2.2 q hq).1, okSame (h7.tail.2.2 q hq).2 (hg.block q.1 (Thg.lt (h7.tail.2.2 q hq).2) ?_)⟩⟩
      · refine ⟨hg.os.trans h7.1.os, hg.tape.trans h7.1.tape, hg.output.trans h7.1.output, Nat.le_trans h7.1.size hg.size, fun k hk => ?_⟩
        have hge : w0.heap.size ≤ g := h7.ge
        exact (hg.block k (Nat.lt_of_lt_of_le hk h7.1.size) (by intro e2; have e3 : k = g := Option.some.inj e2; omega)).trans (h7.1.block k hk)
      · intro e2
        exact h7.ne q hq (Option.some.inj e2)
    · have h7 : LV w0 (bk g c0 e :: L) W := hL
      by_cases hgg : g2 = g
      · subst hgg
        exact ⟨_, W', [bk g2 cur2 e], hrun, ⟨ho2.1, .inr ⟨g2, cap2, cur2, rfl, rfl, h3, h4, h5, h6⟩⟩, h7.turned hg rfl hgb⟩
      · have hnew : g2 = W.heap.size := by
          rcases hloc with h | h
          · simp [Value.ownBlock] at h
            exact absurd h hgg
          · simpa [Value.ownBlock] using h
        have hold : LV w0 L W' := by
          refine ⟨?_, h7.tail.2.1, fun q hq => ⟨(h7.tail.2.2 q hq).1, okSame (h7.tail.2.2 q hq).2 (hg.block q.1 (Thg.lt (h7.tail.2.2 q hq).2) ?_)⟩⟩
          · refine ⟨hg.os.trans h7.1.os, hg.tape.trans h7.1.tape, hg.output.trans h7.1.output, Nat.le_trans h7.1.size hg.size, fun k hk => ?_⟩
            have hge : w0.heap.size ≤ g := h7.ge
            exact (hg.block k (Nat.lt_of_lt_of_le hk h7.1.size) (by intro e2; have e3 : k = g := Option.some.inj e2; omega)).trans (h7.1.block k hk)
          · intro e2
            exact h7.ne q hq (Option.some.inj e2)
        refine ⟨_, W', [bk g2 cur2 e], hrun, ⟨ho2.1, .inr ⟨g2, cap2, cur2, rfl, rfl, h3, h4, h5, h6⟩⟩, hold.cons (Nat.le_trans h7.1.size (by simp only; omega)) (fun q hq => ?_) hgb⟩
        have := Thg.lt (h7.tail.2.2 q hq).2
        simp only
        omega
end
theorem R_app {P : Program} {o : Oper} {a : Act} {w w' : World} {n : Nat} {m : List (Nat × Value)} {v : Value} {x y : Operand} {t u : TypeId} {vx vy : Value} (H : Fr a n m) (ho : o.op = .call { callee := .builtin .append, args := #[x, y], argTypes := #[t, u] }) (hx : ev1 m x = some vx) (hy : ev1 m y = some vy) (hl : (Builtin.append_ #[t, u] o.type #[vx, vy]).run P w = .ok v w') : (execOp a.eval o).run P w = .ok (.value v) w' := by
  have e1 := H.ev hx
  have e2 := H.ev hy
  unfold execOp
  rw [ho]
  generalize a.eval = ρ at *
  simp only [resolve, invoke, builtin, Sem.run_bind, Sem.run_pure, Result.andThen_ok, List.map_toArray, List.map_cons, List.map_nil, e1, e2, hl]

theorem intKeys_mapD (l : Ents) : intKeys (mapD l) = l.map (·.1) := by
  unfold mapD intKeys
  simp [intOf, List.map_map, Function.comp_def]
end Go.Proofs.YtnjfjdfjheiocaaGreat
