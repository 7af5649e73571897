/-
  No cell of these rows narrows 'for every input' (looked for: loops, veiled, ifaces, maps, wideKeys, modest, calm, conditions, laid).
  DERIVED. THE GIVEN ROWS OF THIS SEAT. 6 by the template 'for every input the law returns true; each argument reads behind the call as it read before'; 0 by the template 'total and deterministic' (their statements: YtnjfjdfjheiocaaGreatTotals.lean).
  GIVEN WITH THE SEED: the statements are not yours to turn. If you find one false, say at which input.
  Laid BY PROGRAM, IN A SANDBOX (cutbox-rows.mjs): the forced cells as the released guide's own fill.sh prints them over the translation e4253d7c7dc06998… (all of the seat's roots in one cut). By AI agents, Wed Nov 11 2026. No macro, syntax, notation, axiom, sorry.
-/
import Derived.Test.YtnjfjdfjheiocaaGreatChecked
import GoSem.Claim
import GoSem.ClaimJoined
import GoSem.ClaimMapViews
import Derived.JoinedTies
import Derived.KernelRfl
namespace Go.Proofs.YtnjfjdfjheiocaaGreat
/- THE CELL 'sum', in the pinned program and in every row, IS THE sha256 OF THE DUMP (.gsa) THAT YtnjfjdfjheiocaaGreatProg.lean LOADS. Nothing in Lean hashes anything: it is a label: what it is worth is what the hold of that sum in a sandbox is worth. -/
noncomputable def Tryz.pinned : Pinned := { name := "ytnjfjdfjheiocaagreat", sum := "e4253d7c7dc069987c31726307c41b122a5d35b70a3ba333456524a33bec61f4", checked := Tryz.checked }
namespace Rows
def none {H : Type} : Left H := { results := [], args := [] }

/-- 'meterlaw13.ShardApplies': WHATEVER THE INPUT: true; the input reads as it did. -/
def shardAppliesSpec : ChangeSpec := { name := "shardApplies", fn := fun _ => fun
  | [d] => { results := [.lit (.bool true)], args := [d] }
  | _ => none }
def shardAppliesRow : OpenClaim := { program := "ytnjfjdfjheiocaagreat", sum := "e4253d7c7dc069987c31726307c41b122a5d35b70a3ba333456524a33bec61f4", func := "meter/meterlaw13.ShardApplies", spec := "shardApplies", unfollowed := true, recurses := true, plainKeys := false, apart := false }
def ShardAppliesSaid : Prop := shardAppliesRow.holds Tryz.pinned (OpenSpec.ofChange shardAppliesSpec)

/-- ITS FALSE NEIGHBOUR: 'it returns false'. Refute it at one input. -/
def shardAppliesWrong : ChangeSpec := { name := "shardApplies", fn := fun _ => fun
  | [d] => { results := [.lit (.bool false)], args := [d] }
  | _ => none }
def ShardAppliesWrongFalsely : Prop := shardAppliesRow.holds Tryz.pinned (OpenSpec.ofChange shardAppliesWrong)

/-- 'meterlaw15.DigestTells': WHATEVER THE INPUT: true; the input reads as it did. -/
def digestTellsSpec : ChangeSpec := { name := "digestTells", fn := fun _ => fun
  | [d1, d2, d3] => { results := [.lit (.bool true)], args := [d1, d2, d3] }
  | _ => none }
def digestTellsRow : OpenClaim := { program := "ytnjfjdfjheiocaagreat", sum := "e4253d7c7dc069987c31726307c41b122a5d35b70a3ba333456524a33bec61f4", func := "meter/meterlaw15.DigestTells", spec := "digestTells", unfollowed := true, recurses := true, plainKeys := false, apart := false }
def DigestTellsSaid : Prop := digestTellsRow.holds Tryz.pinned (OpenSpec.ofChange digestTellsSpec)

/-- ITS FALSE NEIGHBOUR: 'it returns false'. Refute it at one input. -/
def digestTellsWrong : ChangeSpec := { name := "digestTells", fn := fun _ => fun
  | [d1, d2, d3] => { results := [.lit (.bool false)], args := [d1, d2, d3] }
  | _ => none }
def DigestTellsWrongFalsely : Prop := digestTellsRow.holds Tryz.pinned (OpenSpec.ofChange digestTellsWrong)

/-- 'meterlaw13.ShardMakes': WHATEVER THE INPUT: true; the input reads as it did. -/
def shardMakesSpec : ChangeSpec := { name := "shardMakes", fn := fun _ => fun
  | [d1, d2, d3, d4, d5, d6] => { results := [.lit (.bool true)], args := [d1, d2, d3, d4, d5, d6] }
  | _ => none }
def shardMakesRow : OpenClaim := { program := "ytnjfjdfjheiocaagreat", sum := "e4253d7c7dc069987c31726307c41b122a5d35b70a3ba333456524a33bec61f4", func := "meter/meterlaw13.ShardMakes", spec := "shardMakes", unfollowed := true, recurses := true, plainKeys := false, apart := false }
def ShardMakesSaid : Prop := shardMakesRow.holds Tryz.pinned (OpenSpec.ofChange shardMakesSpec)

/-- ITS FALSE NEIGHBOUR: 'it returns false'. Refute it at one input. -/
def shardMakesWrong : ChangeSpec := { name := "shardMakes", fn := fun _ => fun
  | [d1, d2, d3, d4, d5, d6] => { results := [.lit (.bool false)], args := [d1, d2, d3, d4, d5, d6] }
  | _ => none }
def ShardMakesWrongFalsely : Prop := shardMakesRow.holds Tryz.pinned (OpenSpec.ofChange shardMakesWrong)

/-- 'meterlaw15.DigestGoes': WHATEVER THE INPUT: true; the input reads as it did. -/
def digestGoesSpec : ChangeSpec := { name := "digestGoes", fn := fun _ => fun
  | [d1, d2] => { results := [.lit (.bool true)], args := [d1, d2] }
  | _ => none }
def digestGoesRow : OpenClaim := { program := "ytnjfjdfjheiocaagreat", sum := "e4253d7c7dc069987c31726307c41b122a5d35b70a3ba333456524a33bec61f4", func := "meter/meterlaw15.DigestGoes", spec := "digestGoes", inPlace := ["maps.clone"], unfollowed := true, recurses := true, plainKeys := false, apart := false }
def DigestGoesSaid : Prop := digestGoesRow.holds Tryz.pinned (OpenSpec.ofChange digestGoesSpec)

/-- ITS FALSE NEIGHBOUR: 'it returns false'. Refute it at one input. -/
def digestGoesWrong : ChangeSpec := { name := "digestGoes", fn := fun _ => fun
  | [d1, d2] => { results := [.lit (.bool false)], args := [d1, d2] }
  | _ => none }
def DigestGoesWrongFalsely : Prop := digestGoesRow.holds Tryz.pinned (OpenSpec.ofChange digestGoesWrong)

/-- 'meterlaw15.DigestMarks': WHATEVER THE INPUT: true; the input reads as it did. -/
def digestMarksSpec : ChangeSpec := { name := "digestMarks", fn := fun _ => fun
  | [d1, d2, d3] => { results := [.lit (.bool true)], args := [d1, d2, d3] }
  | _ => none }
def digestMarksRow : OpenClaim := { program := "ytnjfjdfjheiocaagreat", sum := "e4253d7c7dc069987c31726307c41b122a5d35b70a3ba333456524a33bec61f4", func := "meter/meterlaw15.DigestMarks", spec := "digestMarks", inPlace := ["maps.clone"], unfollowed := true, recurses := true, plainKeys := false, apart := false }
def DigestMarksSaid : Prop := digestMarksRow.holds Tryz.pinned (OpenSpec.ofChange digestMarksSpec)

/-- ITS FALSE NEIGHBOUR: 'it returns false'. Refute it at one input. -/
def digestMarksWrong : ChangeSpec := { name := "digestMarks", fn := fun _ => fun
  | [d1, d2, d3] => { results := [.lit (.bool false)], args := [d1, d2, d3] }
  | _ => none }
def DigestMarksWrongFalsely : Prop := digestMarksRow.holds Tryz.pinned (OpenSpec.ofChange digestMarksWrong)

/-- 'meterlaw13.ShardTwin': WHATEVER THE INPUT: true; the input reads as it did. -/
def shardTwinSpec : ChangeSpec := { name := "shardTwin", fn := fun _ => fun
  | [d1, d2] => { results := [.lit (.bool true)], args := [d1, d2] }
  | _ => none }
def shardTwinRow : OpenClaim := { program := "ytnjfjdfjheiocaagreat", sum := "e4253d7c7dc069987c31726307c41b122a5d35b70a3ba333456524a33bec61f4", func := "meter/meterlaw13.ShardTwin", spec := "shardTwin", inPlace := ["maps.clone"], unfollowed := true, recurses := true, plainKeys := false, apart := false }
def ShardTwinSaid : Prop := shardTwinRow.holds Tryz.pinned (OpenSpec.ofChange shardTwinSpec)

/-- ITS FALSE NEIGHBOUR: 'it returns false'. Refute it at one input. -/
def shardTwinWrong : ChangeSpec := { name := "shardTwin", fn := fun _ => fun
  | [d1, d2] => { results := [.lit (.bool false)], args := [d1, d2] }
  | _ => none }
def ShardTwinWrongFalsely : Prop := shardTwinRow.holds Tryz.pinned (OpenSpec.ofChange shardTwinWrong)

/- THE SECOND FORM. 'bulk': how many values and letters a reading holds, each counted each time it is reached (what is shared counts as often as it is met; a slice's spare places count too). A statement '..UptoSaid' is the law's where the arguments, and the package variables that the reading takes, are together of bulk at most 1048576: NARROWER than '..Said'. Prove '..Said' where nothing that the law and all that it calls make is longer than what came in: it says more and counts as full. Else prove '..UptoSaid'. A law counts once. -/
mutual
def uptoBulk {H : Type} : DataW H → Nat
  | .lit (.string bytes) => bytes.length + 1
  | .lit _ => 1
  | .nil => 1
  | .ptr d => uptoBulk d + 1
  | .slice elems spare => uptoBulkAll elems + uptoBulkAll spare + 1
  | .agg parts => uptoBulkAll parts + 1
  | .iface _ d => uptoBulk d + 1
  | .map entries => uptoBulkEntries entries + 1
  | .held _ => 1
def uptoBulkAll {H : Type} : List (DataW H) → Nat
  | [] => 0
  | d :: r => uptoBulk d + uptoBulkAll r
def uptoBulkEntries {H : Type} : List (Lit × DataW H) → Nat
  | [] => 0
  | x :: r => uptoBulkEntry x + uptoBulkEntries r
def uptoBulkEntry {H : Type} : Lit × DataW H → Nat
  | (.string bytes, d) => bytes.length + uptoBulk d + 1
  | (_, d) => uptoBulk d + 1
 end
def uptoSmall : (H : Type) → List (DataW H) → Bool := fun _ ds => decide (uptoBulkAll ds ≤ 1048576)
def OpenSpec.upto (s : _root_.Go.ChangeSpec) : _root_.Go.OpenSpec := { _root_.Go.OpenSpec.ofChange s with cond := some uptoSmall }

/-- 'meterlaw13.ShardApplies', WHERE WHAT IT READS IS OF BULK AT MOST 1048576: true; the input reads as it did. -/
def shardAppliesUptoRow : OpenClaim := { program := "ytnjfjdfjheiocaagreat", sum := "e4253d7c7dc069987c31726307c41b122a5d35b70a3ba333456524a33bec61f4", func := "meter/meterlaw13.ShardApplies", spec := "shardApplies", unfollowed := true, recurses := true, plainKeys := false, apart := false, narrowed := true }
def ShardAppliesUptoSaid : Prop := shardAppliesUptoRow.holds Tryz.pinned (OpenSpec.upto shardAppliesSpec)

/-- 'meterlaw15.DigestTells', WHERE WHAT IT READS IS OF BULK AT MOST 1048576: true; the input reads as it did. -/
def digestTellsUptoRow : OpenClaim := { program := "ytnjfjdfjheiocaagreat", sum := "e4253d7c7dc069987c31726307c41b122a5d35b70a3ba333456524a33bec61f4", func := "meter/meterlaw15.DigestTells", spec := "digestTells", unfollowed := true, recurses := true, plainKeys := false, apart := false, narrowed := true }
def DigestTellsUptoSaid : Prop := digestTellsUptoRow.holds Tryz.pinned (OpenSpec.upto digestTellsSpec)

/-- 'meterlaw13.ShardMakes', WHERE WHAT IT READS IS OF BULK AT MOST 1048576: true; the input reads as it did. -/
def shardMakesUptoRow : OpenClaim := { program := "ytnjfjdfjheiocaagreat", sum := "e4253d7c7dc069987c31726307c41b122a5d35b70a3ba333456524a33bec61f4", func := "meter/meterlaw13.ShardMakes", spec := "shardMakes", unfollowed := true, recurses := true, plainKeys := false, apart := false, narrowed := true }
def ShardMakesUptoSaid : Prop := shardMakesUptoRow.holds Tryz.pinned (OpenSpec.upto shardMakesSpec)

/-- 'meterlaw15.DigestGoes', WHERE WHAT IT READS IS OF BULK AT MOST 1048576: true; the input reads as it did. -/
def digestGoesUptoRow : OpenClaim := { program := "ytnjfjdfjheiocaagreat", sum := "e4253d7c7dc069987c31726307c41b122a5d35b70a3ba333456524a33bec61f4", func := "meter/meterlaw15.DigestGoes", spec := "digestGoes", inPlace := ["maps.clone"], unfollowed := true, recurses := true, plainKeys := false, apart := false, narrowed := true }
def DigestGoesUptoSaid : Prop := digestGoesUptoRow.holds Tryz.pinned (OpenSpec.upto digestGoesSpec)

/-- 'meterlaw15.DigestMarks', WHERE WHAT IT READS IS OF BULK AT MOST 1048576: true; the input reads as it did. -/
def digestMarksUptoRow : OpenClaim := { program := "ytnjfjdfjheiocaagreat", sum := "e4253d7c7dc069987c31726307c41b122a5d35b70a3ba333456524a33bec61f4", func := "meter/meterlaw15.DigestMarks", spec := "digestMarks", inPlace := ["maps.clone"], unfollowed := true, recurses := true, plainKeys := false, apart := false, narrowed := true }
def DigestMarksUptoSaid : Prop := digestMarksUptoRow.holds Tryz.pinned (OpenSpec.upto digestMarksSpec)

/-- 'meterlaw13.ShardTwin', WHERE WHAT IT READS IS OF BULK AT MOST 1048576: true; the input reads as it did. -/
def shardTwinUptoRow : OpenClaim := { program := "ytnjfjdfjheiocaagreat", sum := "e4253d7c7dc069987c31726307c41b122a5d35b70a3ba333456524a33bec61f4", func := "meter/meterlaw13.ShardTwin", spec := "shardTwin", inPlace := ["maps.clone"], unfollowed := true, recurses := true, plainKeys := false, apart := false, narrowed := true }
def ShardTwinUptoSaid : Prop := shardTwinUptoRow.holds Tryz.pinned (OpenSpec.upto shardTwinSpec)

end Rows
end Go.Proofs.YtnjfjdfjheiocaaGreat
