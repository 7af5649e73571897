/-
  No cell of these rows narrows 'for every input' (looked for: loops, veiled, ifaces, maps, wideKeys, modest, calm, conditions, laid).
  DERIVED. THE GIVEN ROWS OF THIS SEAT. 7 by the template 'for every input the law returns true; each argument reads behind the call as it read before'; 0 by the template 'total and deterministic' (their statements: YtoiakejagmeliaaTotals.lean).
  GIVEN WITH THE SEED: the statements are not yours to turn. If you find one false, say at which input.
  Laid BY PROGRAM, IN A SANDBOX (cutbox-rows.mjs): the forced cells as the released guide's own fill.sh prints them over the translation c8dcc14ed07aff50… (all of the seat's roots in one cut). By AI agents, Wed Nov 11 2026. No macro, syntax, notation, axiom, sorry.
-/
import Derived.Test.YtoiakejagmeliaaChecked
import GoSem.Claim
import GoSem.ClaimJoined
import GoSem.ClaimMapViews
import Derived.JoinedTies
import Derived.KernelRfl
namespace Go.Proofs.Ytoiakejagmeliaa
/- THE CELL 'sum', in the pinned program and in every row, IS THE sha256 OF THE DUMP (.gsa) THAT YtoiakejagmeliaaProg.lean LOADS. Nothing in Lean hashes anything: it is a label: what it is worth is what the hold of that sum in a sandbox is worth. -/
noncomputable def Try.pinned : Pinned := { name := "ytoiakejagmeliaa", sum := "c8dcc14ed07aff501f63500d9fad921a79ab3a844e187b0eff4d99ca80e3943e", checked := Try.checked }
namespace Rows
def none {H : Type} : Left H := { results := [], args := [] }

/-- 'meterlaw07.AggSums': WHATEVER THE INPUT: true; the input reads as it did. -/
def aggSumsSpec : ChangeSpec := { name := "aggSums", fn := fun _ => fun
  | [d1, d2, d3, d4] => { results := [.lit (.bool true)], args := [d1, d2, d3, d4] }
  | _ => none }
def aggSumsRow : OpenClaim := { program := "ytoiakejagmeliaa", sum := "c8dcc14ed07aff501f63500d9fad921a79ab3a844e187b0eff4d99ca80e3943e", func := "meter/meterlaw07.AggSums", spec := "aggSums", apart := false }
def AggSumsSaid : Prop := aggSumsRow.holds Try.pinned (OpenSpec.ofChange aggSumsSpec)

/-- ITS FALSE NEIGHBOUR: 'it returns false'. Refute it at one input. -/
def aggSumsWrong : ChangeSpec := { name := "aggSums", fn := fun _ => fun
  | [d1, d2, d3, d4] => { results := [.lit (.bool false)], args := [d1, d2, d3, d4] }
  | _ => none }
def AggSumsWrongFalsely : Prop := aggSumsRow.holds Try.pinned (OpenSpec.ofChange aggSumsWrong)

/-- 'meterlaw07.AggHeld': WHATEVER THE INPUT: true; the input reads as it did. -/
def aggHeldSpec : ChangeSpec := { name := "aggHeld", fn := fun _ => fun
  | [d1, d2, d3] => { results := [.lit (.bool true)], args := [d1, d2, d3] }
  | _ => none }
def aggHeldRow : OpenClaim := { program := "ytoiakejagmeliaa", sum := "c8dcc14ed07aff501f63500d9fad921a79ab3a844e187b0eff4d99ca80e3943e", func := "meter/meterlaw07.AggHeld", spec := "aggHeld", apart := false }
def AggHeldSaid : Prop := aggHeldRow.holds Try.pinned (OpenSpec.ofChange aggHeldSpec)

/-- ITS FALSE NEIGHBOUR: 'it returns false'. Refute it at one input. -/
def aggHeldWrong : ChangeSpec := { name := "aggHeld", fn := fun _ => fun
  | [d1, d2, d3] => { results := [.lit (.bool false)], args := [d1, d2, d3] }
  | _ => none }
def AggHeldWrongFalsely : Prop := aggHeldRow.holds Try.pinned (OpenSpec.ofChange aggHeldWrong)

/-- 'meterlaw07.AggGrows': WHATEVER THE INPUT: true; the input reads as it did. -/
def aggGrowsSpec : ChangeSpec := { name := "aggGrows", fn := fun _ => fun
  | [d1, d2] => { results := [.lit (.bool true)], args := [d1, d2] }
  | _ => none }
def aggGrowsRow : OpenClaim := { program := "ytoiakejagmeliaa", sum := "c8dcc14ed07aff501f63500d9fad921a79ab3a844e187b0eff4d99ca80e3943e", func := "meter/meterlaw07.AggGrows", spec := "aggGrows", apart := false }
def AggGrowsSaid : Prop := aggGrowsRow.holds Try.pinned (OpenSpec.ofChange aggGrowsSpec)

/-- ITS FALSE NEIGHBOUR: 'it returns false'. Refute it at one input. -/
def aggGrowsWrong : ChangeSpec := { name := "aggGrows", fn := fun _ => fun
  | [d1, d2] => { results := [.lit (.bool false)], args := [d1, d2] }
  | _ => none }
def AggGrowsWrongFalsely : Prop := aggGrowsRow.holds Try.pinned (OpenSpec.ofChange aggGrowsWrong)

/-- 'meterlaw07.AggLists': WHATEVER THE INPUT: true; the input reads as it did. -/
def aggListsSpec : ChangeSpec := { name := "aggLists", fn := fun _ => fun
  | [d1, d2] => { results := [.lit (.bool true)], args := [d1, d2] }
  | _ => none }
def aggListsRow : OpenClaim := { program := "ytoiakejagmeliaa", sum := "c8dcc14ed07aff501f63500d9fad921a79ab3a844e187b0eff4d99ca80e3943e", func := "meter/meterlaw07.AggLists", spec := "aggLists", apart := false }
def AggListsSaid : Prop := aggListsRow.holds Try.pinned (OpenSpec.ofChange aggListsSpec)

/-- ITS FALSE NEIGHBOUR: 'it returns false'. Refute it at one input. -/
def aggListsWrong : ChangeSpec := { name := "aggLists", fn := fun _ => fun
  | [d1, d2] => { results := [.lit (.bool false)], args := [d1, d2] }
  | _ => none }
def AggListsWrongFalsely : Prop := aggListsRow.holds Try.pinned (OpenSpec.ofChange aggListsWrong)

/-- 'meterlaw07.AggRight': WHATEVER THE INPUT: true; the input reads as it did. -/
def aggRightSpec : ChangeSpec := { name := "aggRight", fn := fun _ => fun
  | [d1, d2] => { results := [.lit (.bool true)], args := [d1, d2] }
  | _ => none }
def aggRightRow : OpenClaim := { program := "ytoiakejagmeliaa", sum := "c8dcc14ed07aff501f63500d9fad921a79ab3a844e187b0eff4d99ca80e3943e", func := "meter/meterlaw07.AggRight", spec := "aggRight", apart := false }
def AggRightSaid : Prop := aggRightRow.holds Try.pinned (OpenSpec.ofChange aggRightSpec)

/-- ITS FALSE NEIGHBOUR: 'it returns false'. Refute it at one input. -/
def aggRightWrong : ChangeSpec := { name := "aggRight", fn := fun _ => fun
  | [d1, d2] => { results := [.lit (.bool false)], args := [d1, d2] }
  | _ => none }
def AggRightWrongFalsely : Prop := aggRightRow.holds Try.pinned (OpenSpec.ofChange aggRightWrong)

/-- 'meterlaw07.AggKnown': WHATEVER THE INPUT: true; the input reads as it did. -/
def aggKnownSpec : ChangeSpec := { name := "aggKnown", fn := fun _ => fun
  | [] => { results := [.lit (.bool true)], args := [] }
  | _ => none }
def aggKnownRow : OpenClaim := { program := "ytoiakejagmeliaa", sum := "c8dcc14ed07aff501f63500d9fad921a79ab3a844e187b0eff4d99ca80e3943e", func := "meter/meterlaw07.AggKnown", spec := "aggKnown", apart := false }
def AggKnownSaid : Prop := aggKnownRow.holds Try.pinned (OpenSpec.ofChange aggKnownSpec)

/-- ITS FALSE NEIGHBOUR: 'it returns false'. Refute it at one input. -/
def aggKnownWrong : ChangeSpec := { name := "aggKnown", fn := fun _ => fun
  | [] => { results := [.lit (.bool false)], args := [] }
  | _ => none }
def AggKnownWrongFalsely : Prop := aggKnownRow.holds Try.pinned (OpenSpec.ofChange aggKnownWrong)

/-- 'meterlaw07.AggJoins': WHATEVER THE INPUT: true; the input reads as it did. -/
def aggJoinsSpec : ChangeSpec := { name := "aggJoins", fn := fun _ => fun
  | [d1, d2, d3] => { results := [.lit (.bool true)], args := [d1, d2, d3] }
  | _ => none }
def aggJoinsRow : OpenClaim := { program := "ytoiakejagmeliaa", sum := "c8dcc14ed07aff501f63500d9fad921a79ab3a844e187b0eff4d99ca80e3943e", func := "meter/meterlaw07.AggJoins", spec := "aggJoins", apart := false }
def AggJoinsSaid : Prop := aggJoinsRow.holds Try.pinned (OpenSpec.ofChange aggJoinsSpec)

/-- ITS FALSE NEIGHBOUR: 'it returns false'. Refute it at one input. -/
def aggJoinsWrong : ChangeSpec := { name := "aggJoins", fn := fun _ => fun
  | [d1, d2, d3] => { results := [.lit (.bool false)], args := [d1, d2, d3] }
  | _ => none }
def AggJoinsWrongFalsely : Prop := aggJoinsRow.holds Try.pinned (OpenSpec.ofChange aggJoinsWrong)

/- THE SECOND FORM. 'bulk': how many values and letters a reading holds, each counted each time it is reached (what is shared counts as often as it is met; a slice's spare places count too). A statement '..UptoSaid' is the law's where the arguments, and the package variables that the reading takes, are together of bulk at most 1048576: NARROWER than '..Said'. Prove '..Said' where nothing that the law and all that it calls make is longer than what came in: it says more and counts as full. Else prove '..UptoSaid'. A law counts once. -/
mutual
def uptoBulk {H : Type} : DataW H → Nat
  | .lit (.string bytes) => bytes.length + 1
  | .lit _ => 1
  | .nil => 1
  | .ptr d => uptoBulk d + 1
  | .slice elems spare => uptoBulkAll elems + uptoBulkAll spare + 1
  | .agg parts => uptoBulkAll parts + 1
  | .iface _ d => uptoBulk d + 1
  | .map entries => uptoBulkEntries entries + 1
  | .held _ => 1
def uptoBulkAll {H : Type} : List (DataW H) → Nat
  | [] => 0
  | d :: r => uptoBulk d + uptoBulkAll r
def uptoBulkEntries {H : Type} : List (Lit × DataW H) → Nat
  | [] => 0
  | x :: r => uptoBulkEntry x + uptoBulkEntries r
def uptoBulkEntry {H : Type} : Lit × DataW H → Nat
  | (.string bytes, d) => bytes.length + uptoBulk d + 1
  | (_, d) => uptoBulk d + 1
 end
def uptoSmall : (H : Type) → List (DataW H) → Bool := fun _ ds => decide (uptoBulkAll ds ≤ 1048576)
def OpenSpec.upto (s : _root_.Go.ChangeSpec) : _root_.Go.OpenSpec := { _root_.Go.OpenSpec.ofChange s with cond := some uptoSmall }

/-- 'meterlaw07.AggSums', WHERE WHAT IT READS IS OF BULK AT MOST 1048576: true; the input reads as it did. -/
def aggSumsUptoRow : OpenClaim := { program := "ytoiakejagmeliaa", sum := "c8dcc14ed07aff501f63500d9fad921a79ab3a844e187b0eff4d99ca80e3943e", func := "meter/meterlaw07.AggSums", spec := "aggSums", apart := false, narrowed := true }
def AggSumsUptoSaid : Prop := aggSumsUptoRow.holds Try.pinned (OpenSpec.upto aggSumsSpec)

/-- 'meterlaw07.AggHeld', WHERE WHAT IT READS IS OF BULK AT MOST 1048576: true; the input reads as it did. -/
def aggHeldUptoRow : OpenClaim := { program := "ytoiakejagmeliaa", sum := "c8dcc14ed07aff501f63500d9fad921a79ab3a844e187b0eff4d99ca80e3943e", func := "meter/meterlaw07.AggHeld", spec := "aggHeld", apart := false, narrowed := true }
def AggHeldUptoSaid : Prop := aggHeldUptoRow.holds Try.pinned (OpenSpec.upto aggHeldSpec)

/-- 'meterlaw07.AggGrows', WHERE WHAT IT READS IS OF BULK AT MOST 1048576: true; the input reads as it did. -/
def aggGrowsUptoRow : OpenClaim := { program := "ytoiakejagmeliaa", sum := "c8dcc14ed07aff501f63500d9fad921a79ab3a844e187b0eff4d99ca80e3943e", func := "meter/meterlaw07.AggGrows", spec := "aggGrows", apart := false, narrowed := true }
def AggGrowsUptoSaid : Prop := aggGrowsUptoRow.holds Try.pinned (OpenSpec.upto aggGrowsSpec)

/-- 'meterlaw07.AggLists', WHERE WHAT IT READS IS OF BULK AT MOST 1048576: true; the input reads as it did. -/
def aggListsUptoRow : OpenClaim := { program := "ytoiakejagmeliaa", sum := "c8dcc14ed07aff501f63500d9fad921a79ab3a844e187b0eff4d99ca80e3943e", func := "meter/meterlaw07.AggLists", spec := "aggLists", apart := false, narrowed := true }
def AggListsUptoSaid : Prop := aggListsUptoRow.holds Try.pinned (OpenSpec.upto aggListsSpec)

/-- 'meterlaw07.AggRight', WHERE WHAT IT READS IS OF BULK AT MOST 1048576: true; the input reads as it did. -/
def aggRightUptoRow : OpenClaim := { program := "ytoiakejagmeliaa", sum := "c8dcc14ed07aff501f63500d9fad921a79ab3a844e187b0eff4d99ca80e3943e", func := "meter/meterlaw07.AggRight", spec := "aggRight", apart := false, narrowed := true }
def AggRightUptoSaid : Prop := aggRightUptoRow.holds Try.pinned (OpenSpec.upto aggRightSpec)

/-- 'meterlaw07.AggKnown', WHERE WHAT IT READS IS OF BULK AT MOST 1048576: true; the input reads as it did. -/
def aggKnownUptoRow : OpenClaim := { program := "ytoiakejagmeliaa", sum := "c8dcc14ed07aff501f63500d9fad921a79ab3a844e187b0eff4d99ca80e3943e", func := "meter/meterlaw07.AggKnown", spec := "aggKnown", apart := false, narrowed := true }
def AggKnownUptoSaid : Prop := aggKnownUptoRow.holds Try.pinned (OpenSpec.upto aggKnownSpec)

/-- 'meterlaw07.AggJoins', WHERE WHAT IT READS IS OF BULK AT MOST 1048576: true; the input reads as it did. -/
def aggJoinsUptoRow : OpenClaim := { program := "ytoiakejagmeliaa", sum := "c8dcc14ed07aff501f63500d9fad921a79ab3a844e187b0eff4d99ca80e3943e", func := "meter/meterlaw07.AggJoins", spec := "aggJoins", apart := false, narrowed := true }
def AggJoinsUptoSaid : Prop := aggJoinsUptoRow.holds Try.pinned (OpenSpec.upto aggJoinsSpec)

end Rows
end Go.Proofs.Ytoiakejagmeliaa
