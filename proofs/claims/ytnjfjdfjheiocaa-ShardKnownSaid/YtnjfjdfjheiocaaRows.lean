/-
  No cell of these rows narrows 'for every input' (looked for: loops, veiled, ifaces, maps, wideKeys, modest, calm, conditions, laid).
  DERIVED. THE GIVEN ROWS OF THIS SEAT. 3 by the template 'for every input the law returns true; each argument reads behind the call as it read before'; 0 by the template 'total and deterministic' (their statements: YtnjfjdfjheiocaaTotals.lean).
  GIVEN WITH THE SEED: the statements are not yours to turn. If you find one false, say at which input.
  Laid BY PROGRAM, IN A SANDBOX (cutbox-rows.mjs): the forced cells as the released guide's own fill.sh prints them over the translation 7462b9a5c8fac989… (all of the seat's roots in one cut). By AI agents, Wed Nov 11 2026. No macro, syntax, notation, axiom, sorry.
-/
import Derived.Test.YtnjfjdfjheiocaaChecked
import GoSem.Claim
import GoSem.ClaimJoined
import GoSem.ClaimMapViews
import Derived.JoinedTies
import Derived.KernelRfl
namespace Go.Proofs.Ytnjfjdfjheiocaa
/- THE CELL 'sum', in the pinned program and in every row, IS THE sha256 OF THE DUMP (.gsa) THAT YtnjfjdfjheiocaaProg.lean LOADS. Nothing in Lean hashes anything: it is a label: what it is worth is what the hold of that sum in a sandbox is worth. -/
noncomputable def Try.pinned : Pinned := { name := "ytnjfjdfjheiocaa", sum := "7462b9a5c8fac989cb42c7b0760281dfa849636e9757fd57dc6b0493d5dece06", checked := Try.checked }
namespace Rows
def none {H : Type} : Left H := { results := [], args := [] }

/-- 'meterlaw13.ShardOnce': WHATEVER THE INPUT: true; the input reads as it did. -/
def shardOnceSpec : ChangeSpec := { name := "shardOnce", fn := fun _ => fun
  | [d1, d2] => { results := [.lit (.bool true)], args := [d1, d2] }
  | _ => none }
def shardOnceRow : OpenClaim := { program := "ytnjfjdfjheiocaa", sum := "7462b9a5c8fac989cb42c7b0760281dfa849636e9757fd57dc6b0493d5dece06", func := "meter/meterlaw13.ShardOnce", spec := "shardOnce", unfollowed := true, recurses := true, plainKeys := false, apart := false }
def ShardOnceSaid : Prop := shardOnceRow.holds Try.pinned (OpenSpec.ofChange shardOnceSpec)

/-- ITS FALSE NEIGHBOUR: 'it returns false'. Refute it at one input. -/
def shardOnceWrong : ChangeSpec := { name := "shardOnce", fn := fun _ => fun
  | [d1, d2] => { results := [.lit (.bool false)], args := [d1, d2] }
  | _ => none }
def ShardOnceWrongFalsely : Prop := shardOnceRow.holds Try.pinned (OpenSpec.ofChange shardOnceWrong)

/-- 'meterlaw13.ShardNobody': WHATEVER THE INPUT: true; the input reads as it did. -/
def shardNobodySpec : ChangeSpec := { name := "shardNobody", fn := fun _ => fun
  | [d] => { results := [.lit (.bool true)], args := [d] }
  | _ => none }
def shardNobodyRow : OpenClaim := { program := "ytnjfjdfjheiocaa", sum := "7462b9a5c8fac989cb42c7b0760281dfa849636e9757fd57dc6b0493d5dece06", func := "meter/meterlaw13.ShardNobody", spec := "shardNobody", inPlace := ["maps.clone"], unfollowed := true, recurses := true, plainKeys := false, apart := false }
def ShardNobodySaid : Prop := shardNobodyRow.holds Try.pinned (OpenSpec.ofChange shardNobodySpec)

/-- ITS FALSE NEIGHBOUR: 'it returns false'. Refute it at one input. -/
def shardNobodyWrong : ChangeSpec := { name := "shardNobody", fn := fun _ => fun
  | [d] => { results := [.lit (.bool false)], args := [d] }
  | _ => none }
def ShardNobodyWrongFalsely : Prop := shardNobodyRow.holds Try.pinned (OpenSpec.ofChange shardNobodyWrong)

/-- 'meterlaw13.ShardKnown': WHATEVER THE INPUT: true; the input reads as it did. -/
def shardKnownSpec : ChangeSpec := { name := "shardKnown", fn := fun _ => fun
  | [] => { results := [.lit (.bool true)], args := [] }
  | _ => none }
def shardKnownRow : OpenClaim := { program := "ytnjfjdfjheiocaa", sum := "7462b9a5c8fac989cb42c7b0760281dfa849636e9757fd57dc6b0493d5dece06", func := "meter/meterlaw13.ShardKnown", spec := "shardKnown", inPlace := ["maps.clone"], unfollowed := true, recurses := true, plainKeys := false, apart := false }
def ShardKnownSaid : Prop := shardKnownRow.holds Try.pinned (OpenSpec.ofChange shardKnownSpec)

/-- ITS FALSE NEIGHBOUR: 'it returns false'. Refute it at one input. -/
def shardKnownWrong : ChangeSpec := { name := "shardKnown", fn := fun _ => fun
  | [] => { results := [.lit (.bool false)], args := [] }
  | _ => none }
def ShardKnownWrongFalsely : Prop := shardKnownRow.holds Try.pinned (OpenSpec.ofChange shardKnownWrong)

/- THE SECOND FORM. 'bulk': how many values and letters a reading holds, each counted each time it is reached (what is shared counts as often as it is met; a slice's spare places count too). A statement '..UptoSaid' is the law's where the arguments, and the package variables that the reading takes, are together of bulk at most 1048576: NARROWER than '..Said'. Prove '..Said' where nothing that the law and all that it calls make is longer than what came in: it says more and counts as full. Else prove '..UptoSaid'. A law counts once. -/
mutual
def uptoBulk {H : Type} : DataW H → Nat
  | .lit (.string bytes) => bytes.length + 1
  | .lit _ => 1
  | .nil => 1
  | .ptr d => uptoBulk d + 1
  | .slice elems spare => uptoBulkAll elems + uptoBulkAll spare + 1
  | .agg parts => uptoBulkAll parts + 1
  | .iface _ d => uptoBulk d + 1
  | .map entries => uptoBulkEntries entries + 1
  | .held _ => 1
def uptoBulkAll {H : Type} : List (DataW H) → Nat
  | [] => 0
  | d :: r => uptoBulk d + uptoBulkAll r
def uptoBulkEntries {H : Type} : List (Lit × DataW H) → Nat
  | [] => 0
  | x :: r => uptoBulkEntry x + uptoBulkEntries r
def uptoBulkEntry {H : Type} : Lit × DataW H → Nat
  | (.string bytes, d) => bytes.length + uptoBulk d + 1
  | (_, d) => uptoBulk d + 1
 end
def uptoSmall : (H : Type) → List (DataW H) → Bool := fun _ ds => decide (uptoBulkAll ds ≤ 1048576)
def OpenSpec.upto (s : _root_.Go.ChangeSpec) : _root_.Go.OpenSpec := { _root_.Go.OpenSpec.ofChange s with cond := some uptoSmall }

/-- 'meterlaw13.ShardOnce', WHERE WHAT IT READS IS OF BULK AT MOST 1048576: true; the input reads as it did. -/
def shardOnceUptoRow : OpenClaim := { program := "ytnjfjdfjheiocaa", sum := "7462b9a5c8fac989cb42c7b0760281dfa849636e9757fd57dc6b0493d5dece06", func := "meter/meterlaw13.ShardOnce", spec := "shardOnce", unfollowed := true, recurses := true, plainKeys := false, apart := false, narrowed := true }
def ShardOnceUptoSaid : Prop := shardOnceUptoRow.holds Try.pinned (OpenSpec.upto shardOnceSpec)

/-- 'meterlaw13.ShardNobody', WHERE WHAT IT READS IS OF BULK AT MOST 1048576: true; the input reads as it did. -/
def shardNobodyUptoRow : OpenClaim := { program := "ytnjfjdfjheiocaa", sum := "7462b9a5c8fac989cb42c7b0760281dfa849636e9757fd57dc6b0493d5dece06", func := "meter/meterlaw13.ShardNobody", spec := "shardNobody", inPlace := ["maps.clone"], unfollowed := true, recurses := true, plainKeys := false, apart := false, narrowed := true }
def ShardNobodyUptoSaid : Prop := shardNobodyUptoRow.holds Try.pinned (OpenSpec.upto shardNobodySpec)

/-- 'meterlaw13.ShardKnown', WHERE WHAT IT READS IS OF BULK AT MOST 1048576: true; the input reads as it did. -/
def shardKnownUptoRow : OpenClaim := { program := "ytnjfjdfjheiocaa", sum := "7462b9a5c8fac989cb42c7b0760281dfa849636e9757fd57dc6b0493d5dece06", func := "meter/meterlaw13.ShardKnown", spec := "shardKnown", inPlace := ["maps.clone"], unfollowed := true, recurses := true, plainKeys := false, apart := false, narrowed := true }
def ShardKnownUptoSaid : Prop := shardKnownUptoRow.holds Try.pinned (OpenSpec.upto shardKnownSpec)

end Rows
end Go.Proofs.Ytnjfjdfjheiocaa
