/-
  No cell of these rows narrows 'for every input' (looked for: loops, veiled, ifaces, maps, wideKeys, modest, calm, conditions, laid).
  DERIVED. THE GIVEN ROWS OF THIS SEAT. 5 by the template 'for every input the law returns true; each argument reads behind the call as it read before'; 0 by the template 'total and deterministic' (their statements: YtbmdbjnkkbefmaaTotals.lean).
  GIVEN WITH THE SEED: the statements are not yours to turn. If you find one false, say at which input.
  Laid BY PROGRAM, IN A SANDBOX (cutbox-rows.mjs): the forced cells as the released guide's own fill.sh prints them over the translation 60d4d04b0fcea537… (all of the seat's roots in one cut). By AI agents, Wed Nov 11 2026. No macro, syntax, notation, axiom, sorry.
-/
import Derived.Test.YtbmdbjnkkbefmaaChecked
import GoSem.Claim
import GoSem.ClaimJoined
import GoSem.ClaimMapViews
import Derived.JoinedTies
import Derived.KernelRfl
namespace Go.Proofs.Ytbmdbjnkkbefmaa
/- THE CELL 'sum', in the pinned program and in every row, IS THE sha256 OF THE DUMP (.gsa) THAT YtbmdbjnkkbefmaaProg.lean LOADS. Nothing in Lean hashes anything: it is a label: what it is worth is what the hold of that sum in a sandbox is worth. -/
noncomputable def Try.pinned : Pinned := { name := "ytbmdbjnkkbefmaa", sum := "60d4d04b0fcea537f0ff829e4c301129004d3f746b480967ffa5bdc1850142a6", checked := Try.checked }
namespace Rows
def none {H : Type} : Left H := { results := [], args := [] }

/-- 'rubriclaw11.SpansParts': WHATEVER THE INPUT: true; the input reads as it did. -/
def spansPartsSpec : ChangeSpec := { name := "spansParts", fn := fun _ => fun
  | [d1, d2, d3] => { results := [.lit (.bool true)], args := [d1, d2, d3] }
  | _ => none }
def spansPartsRow : OpenClaim := { program := "ytbmdbjnkkbefmaa", sum := "60d4d04b0fcea537f0ff829e4c301129004d3f746b480967ffa5bdc1850142a6", func := "rubric/rubriclaw11.SpansParts", spec := "spansParts", unfollowed := true, recurses := true, apart := false }
def SpansPartsSaid : Prop := spansPartsRow.holds Try.pinned (OpenSpec.ofChange spansPartsSpec)

/-- ITS FALSE NEIGHBOUR: 'it returns false'. Refute it at one input. -/
def spansPartsWrong : ChangeSpec := { name := "spansParts", fn := fun _ => fun
  | [d1, d2, d3] => { results := [.lit (.bool false)], args := [d1, d2, d3] }
  | _ => none }
def SpansPartsWrongFalsely : Prop := spansPartsRow.holds Try.pinned (OpenSpec.ofChange spansPartsWrong)

/-- 'rubriclaw11.SpansBack': WHATEVER THE INPUT: true; the input reads as it did. -/
def spansBackSpec : ChangeSpec := { name := "spansBack", fn := fun _ => fun
  | [d1, d2] => { results := [.lit (.bool true)], args := [d1, d2] }
  | _ => none }
def spansBackRow : OpenClaim := { program := "ytbmdbjnkkbefmaa", sum := "60d4d04b0fcea537f0ff829e4c301129004d3f746b480967ffa5bdc1850142a6", func := "rubric/rubriclaw11.SpansBack", spec := "spansBack", unfollowed := true, recurses := true, apart := false }
def SpansBackSaid : Prop := spansBackRow.holds Try.pinned (OpenSpec.ofChange spansBackSpec)

/-- ITS FALSE NEIGHBOUR: 'it returns false'. Refute it at one input. -/
def spansBackWrong : ChangeSpec := { name := "spansBack", fn := fun _ => fun
  | [d1, d2] => { results := [.lit (.bool false)], args := [d1, d2] }
  | _ => none }
def SpansBackWrongFalsely : Prop := spansBackRow.holds Try.pinned (OpenSpec.ofChange spansBackWrong)

/-- 'rubriclaw11.SpansMapped': WHATEVER THE INPUT: true; the input reads as it did. -/
def spansMappedSpec : ChangeSpec := { name := "spansMapped", fn := fun _ => fun
  | [d1, d2, d3] => { results := [.lit (.bool true)], args := [d1, d2, d3] }
  | _ => none }
def spansMappedRow : OpenClaim := { program := "ytbmdbjnkkbefmaa", sum := "60d4d04b0fcea537f0ff829e4c301129004d3f746b480967ffa5bdc1850142a6", func := "rubric/rubriclaw11.SpansMapped", spec := "spansMapped", unfollowed := true, recurses := true, apart := false }
def SpansMappedSaid : Prop := spansMappedRow.holds Try.pinned (OpenSpec.ofChange spansMappedSpec)

/-- ITS FALSE NEIGHBOUR: 'it returns false'. Refute it at one input. -/
def spansMappedWrong : ChangeSpec := { name := "spansMapped", fn := fun _ => fun
  | [d1, d2, d3] => { results := [.lit (.bool false)], args := [d1, d2, d3] }
  | _ => none }
def SpansMappedWrongFalsely : Prop := spansMappedRow.holds Try.pinned (OpenSpec.ofChange spansMappedWrong)

/-- 'rubriclaw11.SpansOne': WHATEVER THE INPUT: true; the input reads as it did. -/
def spansOneSpec : ChangeSpec := { name := "spansOne", fn := fun _ => fun
  | [d] => { results := [.lit (.bool true)], args := [d] }
  | _ => none }
def spansOneRow : OpenClaim := { program := "ytbmdbjnkkbefmaa", sum := "60d4d04b0fcea537f0ff829e4c301129004d3f746b480967ffa5bdc1850142a6", func := "rubric/rubriclaw11.SpansOne", spec := "spansOne", unfollowed := true, recurses := true, apart := false }
def SpansOneSaid : Prop := spansOneRow.holds Try.pinned (OpenSpec.ofChange spansOneSpec)

/-- ITS FALSE NEIGHBOUR: 'it returns false'. Refute it at one input. -/
def spansOneWrong : ChangeSpec := { name := "spansOne", fn := fun _ => fun
  | [d] => { results := [.lit (.bool false)], args := [d] }
  | _ => none }
def SpansOneWrongFalsely : Prop := spansOneRow.holds Try.pinned (OpenSpec.ofChange spansOneWrong)

/-- 'rubriclaw11.SpansNone': WHATEVER THE INPUT: true; the input reads as it did. -/
def spansNoneSpec : ChangeSpec := { name := "spansNone", fn := fun _ => fun
  | [d1, d2] => { results := [.lit (.bool true)], args := [d1, d2] }
  | _ => none }
def spansNoneRow : OpenClaim := { program := "ytbmdbjnkkbefmaa", sum := "60d4d04b0fcea537f0ff829e4c301129004d3f746b480967ffa5bdc1850142a6", func := "rubric/rubriclaw11.SpansNone", spec := "spansNone", unfollowed := true, recurses := true, apart := false }
def SpansNoneSaid : Prop := spansNoneRow.holds Try.pinned (OpenSpec.ofChange spansNoneSpec)

/-- ITS FALSE NEIGHBOUR: 'it returns false'. Refute it at one input. -/
def spansNoneWrong : ChangeSpec := { name := "spansNone", fn := fun _ => fun
  | [d1, d2] => { results := [.lit (.bool false)], args := [d1, d2] }
  | _ => none }
def SpansNoneWrongFalsely : Prop := spansNoneRow.holds Try.pinned (OpenSpec.ofChange spansNoneWrong)

/- THE SECOND FORM. 'bulk': how many values and letters a reading holds, each counted each time it is reached (what is shared counts as often as it is met; a slice's spare places count too). A statement '..UptoSaid' is the law's where the arguments, and the package variables that the reading takes, are together of bulk at most 1048576: NARROWER than '..Said'. Prove '..Said' where nothing that the law and all that it calls make is longer than what came in: it says more and counts as full. Else prove '..UptoSaid'. A law counts once. -/
mutual
def uptoBulk {H : Type} : DataW H → Nat
  | .lit (.string bytes) => bytes.length + 1
  | .lit _ => 1
  | .nil => 1
  | .ptr d => uptoBulk d + 1
  | .slice elems spare => uptoBulkAll elems + uptoBulkAll spare + 1
  | .agg parts => uptoBulkAll parts + 1
  | .iface _ d => uptoBulk d + 1
  | .map entries => uptoBulkEntries entries + 1
  | .held _ => 1
def uptoBulkAll {H : Type} : List (DataW H) → Nat
  | [] => 0
  | d :: r => uptoBulk d + uptoBulkAll r
def uptoBulkEntries {H : Type} : List (Lit × DataW H) → Nat
  | [] => 0
  | x :: r => uptoBulkEntry x + uptoBulkEntries r
def uptoBulkEntry {H : Type} : Lit × DataW H → Nat
  | (.string bytes, d) => bytes.length + uptoBulk d + 1
  | (_, d) => uptoBulk d + 1
 end
def uptoSmall : (H : Type) → List (DataW H) → Bool := fun _ ds => decide (uptoBulkAll ds ≤ 1048576)
def OpenSpec.upto (s : _root_.Go.ChangeSpec) : _root_.Go.OpenSpec := { _root_.Go.OpenSpec.ofChange s with cond := some uptoSmall }

/-- 'rubriclaw11.SpansParts', WHERE WHAT IT READS IS OF BULK AT MOST 1048576: true; the input reads as it did. -/
def spansPartsUptoRow : OpenClaim := { program := "ytbmdbjnkkbefmaa", sum := "60d4d04b0fcea537f0ff829e4c301129004d3f746b480967ffa5bdc1850142a6", func := "rubric/rubriclaw11.SpansParts", spec := "spansParts", unfollowed := true, recurses := true, apart := false, narrowed := true }
def SpansPartsUptoSaid : Prop := spansPartsUptoRow.holds Try.pinned (OpenSpec.upto spansPartsSpec)

/-- 'rubriclaw11.SpansBack', WHERE WHAT IT READS IS OF BULK AT MOST 1048576: true; the input reads as it did. -/
def spansBackUptoRow : OpenClaim := { program := "ytbmdbjnkkbefmaa", sum := "60d4d04b0fcea537f0ff829e4c301129004d3f746b480967ffa5bdc1850142a6", func := "rubric/rubriclaw11.SpansBack", spec := "spansBack", unfollowed := true, recurses := true, apart := false, narrowed := true }
def SpansBackUptoSaid : Prop := spansBackUptoRow.holds Try.pinned (OpenSpec.upto spansBackSpec)

/-- 'rubriclaw11.SpansMapped', WHERE WHAT IT READS IS OF BULK AT MOST 1048576: true; the input reads as it did. -/
def spansMappedUptoRow : OpenClaim := { program := "ytbmdbjnkkbefmaa", sum := "60d4d04b0fcea537f0ff829e4c301129004d3f746b480967ffa5bdc1850142a6", func := "rubric/rubriclaw11.SpansMapped", spec := "spansMapped", unfollowed := true, recurses := true, apart := false, narrowed := true }
def SpansMappedUptoSaid : Prop := spansMappedUptoRow.holds Try.pinned (OpenSpec.upto spansMappedSpec)

/-- 'rubriclaw11.SpansOne', WHERE WHAT IT READS IS OF BULK AT MOST 1048576: true; the input reads as it did. -/
def spansOneUptoRow : OpenClaim := { program := "ytbmdbjnkkbefmaa", sum := "60d4d04b0fcea537f0ff829e4c301129004d3f746b480967ffa5bdc1850142a6", func := "rubric/rubriclaw11.SpansOne", spec := "spansOne", unfollowed := true, recurses := true, apart := false, narrowed := true }
def SpansOneUptoSaid : Prop := spansOneUptoRow.holds Try.pinned (OpenSpec.upto spansOneSpec)

/-- 'rubriclaw11.SpansNone', WHERE WHAT IT READS IS OF BULK AT MOST 1048576: true; the input reads as it did. -/
def spansNoneUptoRow : OpenClaim := { program := "ytbmdbjnkkbefmaa", sum := "60d4d04b0fcea537f0ff829e4c301129004d3f746b480967ffa5bdc1850142a6", func := "rubric/rubriclaw11.SpansNone", spec := "spansNone", unfollowed := true, recurses := true, apart := false, narrowed := true }
def SpansNoneUptoSaid : Prop := spansNoneUptoRow.holds Try.pinned (OpenSpec.upto spansNoneSpec)

end Rows
end Go.Proofs.Ytbmdbjnkkbefmaa
