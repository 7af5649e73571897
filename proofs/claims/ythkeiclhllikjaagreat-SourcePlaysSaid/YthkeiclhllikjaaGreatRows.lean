/-
  No cell of these rows narrows 'for every input' (looked for: loops, veiled, ifaces, maps, wideKeys, modest, calm, conditions, laid).
  DERIVED. THE GIVEN ROWS OF THIS SEAT. 6 by the template 'for every input the law returns true; each argument reads behind the call as it read before'; 0 by the template 'total and deterministic' (their statements: YthkeiclhllikjaaGreatTotals.lean).
  GIVEN WITH THE SEED: the statements are not yours to turn. If you find one false, say at which input.
  Laid BY PROGRAM, IN A SANDBOX (cutbox-rows.mjs): the forced cells as the released guide's own fill.sh prints them over the translation c8ce6fedf3fab291… (all of the seat's roots in one cut). By AI agents, Wed Nov 11 2026. No macro, syntax, notation, axiom, sorry.
-/
import Derived.Test.YthkeiclhllikjaaGreatChecked
import GoSem.Claim
import GoSem.ClaimJoined
import GoSem.ClaimMapViews
import Derived.JoinedTies
import Derived.KernelRfl
namespace Go.Proofs.YthkeiclhllikjaaGreat
/- THE CELL 'sum', in the pinned program and in every row, IS THE sha256 OF THE DUMP (.gsa) THAT YthkeiclhllikjaaGreatProg.lean LOADS. Nothing in Lean hashes anything: it is a label: what it is worth is what the hold of that sum in a sandbox is worth. -/
noncomputable def Tryz.pinned : Pinned := { name := "ythkeiclhllikjaagreat", sum := "c8ce6fedf3fab29183f654a5cb7ad80642d3d4a4dfb83cd685756a305e8f813d", checked := Tryz.checked }
namespace Rows
def none {H : Type} : Left H := { results := [], args := [] }

/-- 'meterlaw20.SourceKnown': WHATEVER THE INPUT: true; the input reads as it did. -/
def sourceKnownSpec : ChangeSpec := { name := "sourceKnown", fn := fun _ => fun
  | [] => { results := [.lit (.bool true)], args := [] }
  | _ => none }
def sourceKnownRow : OpenClaim := { program := "ythkeiclhllikjaagreat", sum := "c8ce6fedf3fab29183f654a5cb7ad80642d3d4a4dfb83cd685756a305e8f813d", func := "meter/meterlaw20.SourceKnown", spec := "sourceKnown", unfollowed := true, recurses := true, apart := false }
def SourceKnownSaid : Prop := sourceKnownRow.holds Tryz.pinned (OpenSpec.ofChange sourceKnownSpec)

/-- ITS FALSE NEIGHBOUR: 'it returns false'. Refute it at one input. -/
def sourceKnownWrong : ChangeSpec := { name := "sourceKnown", fn := fun _ => fun
  | [] => { results := [.lit (.bool false)], args := [] }
  | _ => none }
def SourceKnownWrongFalsely : Prop := sourceKnownRow.holds Tryz.pinned (OpenSpec.ofChange sourceKnownWrong)

/-- 'meterlaw20.SourceLow': WHATEVER THE INPUT: true; the input reads as it did. -/
def sourceLowSpec : ChangeSpec := { name := "sourceLow", fn := fun _ => fun
  | [d1, d2] => { results := [.lit (.bool true)], args := [d1, d2] }
  | _ => none }
def sourceLowRow : OpenClaim := { program := "ythkeiclhllikjaagreat", sum := "c8ce6fedf3fab29183f654a5cb7ad80642d3d4a4dfb83cd685756a305e8f813d", func := "meter/meterlaw20.SourceLow", spec := "sourceLow", unfollowed := true, recurses := true, apart := false }
def SourceLowSaid : Prop := sourceLowRow.holds Tryz.pinned (OpenSpec.ofChange sourceLowSpec)

/-- ITS FALSE NEIGHBOUR: 'it returns false'. Refute it at one input. -/
def sourceLowWrong : ChangeSpec := { name := "sourceLow", fn := fun _ => fun
  | [d1, d2] => { results := [.lit (.bool false)], args := [d1, d2] }
  | _ => none }
def SourceLowWrongFalsely : Prop := sourceLowRow.holds Tryz.pinned (OpenSpec.ofChange sourceLowWrong)

/-- 'meterlaw20.SourcePlays': WHATEVER THE INPUT: true; the input reads as it did. -/
def sourcePlaysSpec : ChangeSpec := { name := "sourcePlays", fn := fun _ => fun
  | [d1, d2, d3, d4] => { results := [.lit (.bool true)], args := [d1, d2, d3, d4] }
  | _ => none }
def sourcePlaysRow : OpenClaim := { program := "ythkeiclhllikjaagreat", sum := "c8ce6fedf3fab29183f654a5cb7ad80642d3d4a4dfb83cd685756a305e8f813d", func := "meter/meterlaw20.SourcePlays", spec := "sourcePlays", unfollowed := true, recurses := true, apart := false }
def SourcePlaysSaid : Prop := sourcePlaysRow.holds Tryz.pinned (OpenSpec.ofChange sourcePlaysSpec)

/-- ITS FALSE NEIGHBOUR: 'it returns false'. Refute it at one input. -/
def sourcePlaysWrong : ChangeSpec := { name := "sourcePlays", fn := fun _ => fun
  | [d1, d2, d3, d4] => { results := [.lit (.bool false)], args := [d1, d2, d3, d4] }
  | _ => none }
def SourcePlaysWrongFalsely : Prop := sourcePlaysRow.holds Tryz.pinned (OpenSpec.ofChange sourcePlaysWrong)

/-- 'meterlaw20.SourceQuiet': WHATEVER THE INPUT: true; the input reads as it did. -/
def sourceQuietSpec : ChangeSpec := { name := "sourceQuiet", fn := fun _ => fun
  | [d1, d2] => { results := [.lit (.bool true)], args := [d1, d2] }
  | _ => none }
def sourceQuietRow : OpenClaim := { program := "ythkeiclhllikjaagreat", sum := "c8ce6fedf3fab29183f654a5cb7ad80642d3d4a4dfb83cd685756a305e8f813d", func := "meter/meterlaw20.SourceQuiet", spec := "sourceQuiet", unfollowed := true, recurses := true, apart := false }
def SourceQuietSaid : Prop := sourceQuietRow.holds Tryz.pinned (OpenSpec.ofChange sourceQuietSpec)

/-- ITS FALSE NEIGHBOUR: 'it returns false'. Refute it at one input. -/
def sourceQuietWrong : ChangeSpec := { name := "sourceQuiet", fn := fun _ => fun
  | [d1, d2] => { results := [.lit (.bool false)], args := [d1, d2] }
  | _ => none }
def SourceQuietWrongFalsely : Prop := sourceQuietRow.holds Tryz.pinned (OpenSpec.ofChange sourceQuietWrong)

/-- 'meterlaw20.SourceAnyRow': WHATEVER THE INPUT: true; the input reads as it did. -/
def sourceAnyRowSpec : ChangeSpec := { name := "sourceAnyRow", fn := fun _ => fun
  | [d1, d2, d3, d4] => { results := [.lit (.bool true)], args := [d1, d2, d3, d4] }
  | _ => none }
def sourceAnyRowRow : OpenClaim := { program := "ythkeiclhllikjaagreat", sum := "c8ce6fedf3fab29183f654a5cb7ad80642d3d4a4dfb83cd685756a305e8f813d", func := "meter/meterlaw20.SourceAnyRow", spec := "sourceAnyRow", unfollowed := true, recurses := true, apart := false }
def SourceAnyRowSaid : Prop := sourceAnyRowRow.holds Tryz.pinned (OpenSpec.ofChange sourceAnyRowSpec)

/-- ITS FALSE NEIGHBOUR: 'it returns false'. Refute it at one input. -/
def sourceAnyRowWrong : ChangeSpec := { name := "sourceAnyRow", fn := fun _ => fun
  | [d1, d2, d3, d4] => { results := [.lit (.bool false)], args := [d1, d2, d3, d4] }
  | _ => none }
def SourceAnyRowWrongFalsely : Prop := sourceAnyRowRow.holds Tryz.pinned (OpenSpec.ofChange sourceAnyRowWrong)

/-- 'meterlaw20.SourceOwn': WHATEVER THE INPUT: true; the input reads as it did. -/
def sourceOwnSpec : ChangeSpec := { name := "sourceOwn", fn := fun _ => fun
  | [d1, d2] => { results := [.lit (.bool true)], args := [d1, d2] }
  | _ => none }
def sourceOwnRow : OpenClaim := { program := "ythkeiclhllikjaagreat", sum := "c8ce6fedf3fab29183f654a5cb7ad80642d3d4a4dfb83cd685756a305e8f813d", func := "meter/meterlaw20.SourceOwn", spec := "sourceOwn", unfollowed := true, recurses := true, apart := false }
def SourceOwnSaid : Prop := sourceOwnRow.holds Tryz.pinned (OpenSpec.ofChange sourceOwnSpec)

/-- ITS FALSE NEIGHBOUR: 'it returns false'. Refute it at one input. -/
def sourceOwnWrong : ChangeSpec := { name := "sourceOwn", fn := fun _ => fun
  | [d1, d2] => { results := [.lit (.bool false)], args := [d1, d2] }
  | _ => none }
def SourceOwnWrongFalsely : Prop := sourceOwnRow.holds Tryz.pinned (OpenSpec.ofChange sourceOwnWrong)

/- THE SECOND FORM. 'bulk': how many values and letters a reading holds, each counted each time it is reached (what is shared counts as often as it is met; a slice's spare places count too). A statement '..UptoSaid' is the law's where the arguments, and the package variables that the reading takes, are together of bulk at most 1048576: NARROWER than '..Said'. Prove '..Said' where nothing that the law and all that it calls make is longer than what came in: it says more and counts as full. Else prove '..UptoSaid'. A law counts once. -/
mutual
def uptoBulk {H : Type} : DataW H → Nat
  | .lit (.string bytes) => bytes.length + 1
  | .lit _ => 1
  | .nil => 1
  | .ptr d => uptoBulk d + 1
  | .slice elems spare => uptoBulkAll elems + uptoBulkAll spare + 1
  | .agg parts => uptoBulkAll parts + 1
  | .iface _ d => uptoBulk d + 1
  | .map entries => uptoBulkEntries entries + 1
  | .held _ => 1
def uptoBulkAll {H : Type} : List (DataW H) → Nat
  | [] => 0
  | d :: r => uptoBulk d + uptoBulkAll r
def uptoBulkEntries {H : Type} : List (Lit × DataW H) → Nat
  | [] => 0
  | x :: r => uptoBulkEntry x + uptoBulkEntries r
def uptoBulkEntry {H : Type} : Lit × DataW H → Nat
  | (.string bytes, d) => bytes.length + uptoBulk d + 1
  | (_, d) => uptoBulk d + 1
 end
def uptoSmall : (H : Type) → List (DataW H) → Bool := fun _ ds => decide (uptoBulkAll ds ≤ 1048576)
def OpenSpec.upto (s : _root_.Go.ChangeSpec) : _root_.Go.OpenSpec := { _root_.Go.OpenSpec.ofChange s with cond := some uptoSmall }

/-- 'meterlaw20.SourceKnown', WHERE WHAT IT READS IS OF BULK AT MOST 1048576: true; the input reads as it did. -/
def sourceKnownUptoRow : OpenClaim := { program := "ythkeiclhllikjaagreat", sum := "c8ce6fedf3fab29183f654a5cb7ad80642d3d4a4dfb83cd685756a305e8f813d", func := "meter/meterlaw20.SourceKnown", spec := "sourceKnown", unfollowed := true, recurses := true, apart := false, narrowed := true }
def SourceKnownUptoSaid : Prop := sourceKnownUptoRow.holds Tryz.pinned (OpenSpec.upto sourceKnownSpec)

/-- 'meterlaw20.SourceLow', WHERE WHAT IT READS IS OF BULK AT MOST 1048576: true; the input reads as it did. -/
def sourceLowUptoRow : OpenClaim := { program := "ythkeiclhllikjaagreat", sum := "c8ce6fedf3fab29183f654a5cb7ad80642d3d4a4dfb83cd685756a305e8f813d", func := "meter/meterlaw20.SourceLow", spec := "sourceLow", unfollowed := true, recurses := true, apart := false, narrowed := true }
def SourceLowUptoSaid : Prop := sourceLowUptoRow.holds Tryz.pinned (OpenSpec.upto sourceLowSpec)

/-- 'meterlaw20.SourcePlays', WHERE WHAT IT READS IS OF BULK AT MOST 1048576: true; the input reads as it did. -/
def sourcePlaysUptoRow : OpenClaim := { program := "ythkeiclhllikjaagreat", sum := "c8ce6fedf3fab29183f654a5cb7ad80642d3d4a4dfb83cd685756a305e8f813d", func := "meter/meterlaw20.SourcePlays", spec := "sourcePlays", unfollowed := true, recurses := true, apart := false, narrowed := true }
def SourcePlaysUptoSaid : Prop := sourcePlaysUptoRow.holds Tryz.pinned (OpenSpec.upto sourcePlaysSpec)

/-- 'meterlaw20.SourceQuiet', WHERE WHAT IT READS IS OF BULK AT MOST 1048576: true; the input reads as it did. -/
def sourceQuietUptoRow : OpenClaim := { program := "ythkeiclhllikjaagreat", sum := "c8ce6fedf3fab29183f654a5cb7ad80642d3d4a4dfb83cd685756a305e8f813d", func := "meter/meterlaw20.SourceQuiet", spec := "sourceQuiet", unfollowed := true, recurses := true, apart := false, narrowed := true }
def SourceQuietUptoSaid : Prop := sourceQuietUptoRow.holds Tryz.pinned (OpenSpec.upto sourceQuietSpec)

/-- 'meterlaw20.SourceAnyRow', WHERE WHAT IT READS IS OF BULK AT MOST 1048576: true; the input reads as it did. -/
def sourceAnyRowUptoRow : OpenClaim := { program := "ythkeiclhllikjaagreat", sum := "c8ce6fedf3fab29183f654a5cb7ad80642d3d4a4dfb83cd685756a305e8f813d", func := "meter/meterlaw20.SourceAnyRow", spec := "sourceAnyRow", unfollowed := true, recurses := true, apart := false, narrowed := true }
def SourceAnyRowUptoSaid : Prop := sourceAnyRowUptoRow.holds Tryz.pinned (OpenSpec.upto sourceAnyRowSpec)

/-- 'meterlaw20.SourceOwn', WHERE WHAT IT READS IS OF BULK AT MOST 1048576: true; the input reads as it did. -/
def sourceOwnUptoRow : OpenClaim := { program := "ythkeiclhllikjaagreat", sum := "c8ce6fedf3fab29183f654a5cb7ad80642d3d4a4dfb83cd685756a305e8f813d", func := "meter/meterlaw20.SourceOwn", spec := "sourceOwn", unfollowed := true, recurses := true, apart := false, narrowed := true }
def SourceOwnUptoSaid : Prop := sourceOwnUptoRow.holds Tryz.pinned (OpenSpec.upto sourceOwnSpec)

end Rows
end Go.Proofs.YthkeiclhllikjaaGreat
