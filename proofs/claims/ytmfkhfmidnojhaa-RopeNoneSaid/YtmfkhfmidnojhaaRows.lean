/-
  No cell of these rows narrows 'for every input' (looked for: loops, veiled, ifaces, maps, wideKeys, modest, calm, conditions, laid).
  DERIVED. THE GIVEN ROWS OF THIS SEAT. 6 by the template 'for every input the law returns true; each argument reads behind the call as it read before'; 0 by the template 'total and deterministic' (their statements: YtmfkhfmidnojhaaTotals.lean).
  GIVEN WITH THE SEED: the statements are not yours to turn. If you find one false, say at which input.
  Laid BY PROGRAM, IN A SANDBOX (cutbox-rows.mjs): the forced cells as the released guide's own fill.sh prints them over the translation 74b089a94baf931e… (all of the seat's roots in one cut). By AI agents, Wed Nov 11 2026. No macro, syntax, notation, axiom, sorry.
-/
import Derived.Test.YtmfkhfmidnojhaaChecked
import GoSem.Claim
import GoSem.ClaimJoined
import GoSem.ClaimMapViews
import Derived.JoinedTies
import Derived.KernelRfl
namespace Go.Proofs.Ytmfkhfmidnojhaa
/- THE CELL 'sum', in the pinned program and in every row, IS THE sha256 OF THE DUMP (.gsa) THAT YtmfkhfmidnojhaaProg.lean LOADS. Nothing in Lean hashes anything: it is a label: what it is worth is what the hold of that sum in a sandbox is worth. -/
noncomputable def Try.pinned : Pinned := { name := "ytmfkhfmidnojhaa", sum := "74b089a94baf931e663c3e335c71b7f445be72ada6c0ae5c6a7ff87343575efc", checked := Try.checked }
namespace Rows
def none {H : Type} : Left H := { results := [], args := [] }

/-- 'rubriclaw10.RopeBack': WHATEVER THE INPUT: true; the input reads as it did. -/
def ropeBackSpec : ChangeSpec := { name := "ropeBack", fn := fun _ => fun
  | [d1, d2, d3] => { results := [.lit (.bool true)], args := [d1, d2, d3] }
  | _ => none }
def ropeBackRow : OpenClaim := { program := "ytmfkhfmidnojhaa", sum := "74b089a94baf931e663c3e335c71b7f445be72ada6c0ae5c6a7ff87343575efc", func := "rubric/rubriclaw10.RopeBack", spec := "ropeBack", unfollowed := true, recurses := true, apart := false }
def RopeBackSaid : Prop := ropeBackRow.holds Try.pinned (OpenSpec.ofChange ropeBackSpec)

/-- ITS FALSE NEIGHBOUR: 'it returns false'. Refute it at one input. -/
def ropeBackWrong : ChangeSpec := { name := "ropeBack", fn := fun _ => fun
  | [d1, d2, d3] => { results := [.lit (.bool false)], args := [d1, d2, d3] }
  | _ => none }
def RopeBackWrongFalsely : Prop := ropeBackRow.holds Try.pinned (OpenSpec.ofChange ropeBackWrong)

/-- 'rubriclaw10.RopeNone': WHATEVER THE INPUT: true; the input reads as it did. -/
def ropeNoneSpec : ChangeSpec := { name := "ropeNone", fn := fun _ => fun
  | [d] => { results := [.lit (.bool true)], args := [d] }
  | _ => none }
def ropeNoneRow : OpenClaim := { program := "ytmfkhfmidnojhaa", sum := "74b089a94baf931e663c3e335c71b7f445be72ada6c0ae5c6a7ff87343575efc", func := "rubric/rubriclaw10.RopeNone", spec := "ropeNone", unfollowed := true, recurses := true, apart := false }
def RopeNoneSaid : Prop := ropeNoneRow.holds Try.pinned (OpenSpec.ofChange ropeNoneSpec)

/-- ITS FALSE NEIGHBOUR: 'it returns false'. Refute it at one input. -/
def ropeNoneWrong : ChangeSpec := { name := "ropeNone", fn := fun _ => fun
  | [d] => { results := [.lit (.bool false)], args := [d] }
  | _ => none }
def RopeNoneWrongFalsely : Prop := ropeNoneRow.holds Try.pinned (OpenSpec.ofChange ropeNoneWrong)

/-- 'rubriclaw10.RopeLines': WHATEVER THE INPUT: true; the input reads as it did. -/
def ropeLinesSpec : ChangeSpec := { name := "ropeLines", fn := fun _ => fun
  | [d1, d2] => { results := [.lit (.bool true)], args := [d1, d2] }
  | _ => none }
def ropeLinesRow : OpenClaim := { program := "ytmfkhfmidnojhaa", sum := "74b089a94baf931e663c3e335c71b7f445be72ada6c0ae5c6a7ff87343575efc", func := "rubric/rubriclaw10.RopeLines", spec := "ropeLines", unfollowed := true, recurses := true, apart := false }
def RopeLinesSaid : Prop := ropeLinesRow.holds Try.pinned (OpenSpec.ofChange ropeLinesSpec)

/-- ITS FALSE NEIGHBOUR: 'it returns false'. Refute it at one input. -/
def ropeLinesWrong : ChangeSpec := { name := "ropeLines", fn := fun _ => fun
  | [d1, d2] => { results := [.lit (.bool false)], args := [d1, d2] }
  | _ => none }
def RopeLinesWrongFalsely : Prop := ropeLinesRow.holds Try.pinned (OpenSpec.ofChange ropeLinesWrong)

/-- 'rubriclaw10.RopeEither': WHATEVER THE INPUT: true; the input reads as it did. -/
def ropeEitherSpec : ChangeSpec := { name := "ropeEither", fn := fun _ => fun
  | [d1, d2, d3, d4, d5] => { results := [.lit (.bool true)], args := [d1, d2, d3, d4, d5] }
  | _ => none }
def ropeEitherRow : OpenClaim := { program := "ytmfkhfmidnojhaa", sum := "74b089a94baf931e663c3e335c71b7f445be72ada6c0ae5c6a7ff87343575efc", func := "rubric/rubriclaw10.RopeEither", spec := "ropeEither", unfollowed := true, recurses := true, apart := false }
def RopeEitherSaid : Prop := ropeEitherRow.holds Try.pinned (OpenSpec.ofChange ropeEitherSpec)

/-- ITS FALSE NEIGHBOUR: 'it returns false'. Refute it at one input. -/
def ropeEitherWrong : ChangeSpec := { name := "ropeEither", fn := fun _ => fun
  | [d1, d2, d3, d4, d5] => { results := [.lit (.bool false)], args := [d1, d2, d3, d4, d5] }
  | _ => none }
def RopeEitherWrongFalsely : Prop := ropeEitherRow.holds Try.pinned (OpenSpec.ofChange ropeEitherWrong)

/-- 'rubriclaw10.RopeParts': WHATEVER THE INPUT: true; the input reads as it did. -/
def ropePartsSpec : ChangeSpec := { name := "ropeParts", fn := fun _ => fun
  | [d1, d2, d3, d4] => { results := [.lit (.bool true)], args := [d1, d2, d3, d4] }
  | _ => none }
def ropePartsRow : OpenClaim := { program := "ytmfkhfmidnojhaa", sum := "74b089a94baf931e663c3e335c71b7f445be72ada6c0ae5c6a7ff87343575efc", func := "rubric/rubriclaw10.RopeParts", spec := "ropeParts", unfollowed := true, recurses := true, apart := false }
def RopePartsSaid : Prop := ropePartsRow.holds Try.pinned (OpenSpec.ofChange ropePartsSpec)

/-- ITS FALSE NEIGHBOUR: 'it returns false'. Refute it at one input. -/
def ropePartsWrong : ChangeSpec := { name := "ropeParts", fn := fun _ => fun
  | [d1, d2, d3, d4] => { results := [.lit (.bool false)], args := [d1, d2, d3, d4] }
  | _ => none }
def RopePartsWrongFalsely : Prop := ropePartsRow.holds Try.pinned (OpenSpec.ofChange ropePartsWrong)

/-- 'rubriclaw10.RopeDeletes': WHATEVER THE INPUT: true; the input reads as it did. -/
def ropeDeletesSpec : ChangeSpec := { name := "ropeDeletes", fn := fun _ => fun
  | [d1, d2, d3, d4, d5] => { results := [.lit (.bool true)], args := [d1, d2, d3, d4, d5] }
  | _ => none }
def ropeDeletesRow : OpenClaim := { program := "ytmfkhfmidnojhaa", sum := "74b089a94baf931e663c3e335c71b7f445be72ada6c0ae5c6a7ff87343575efc", func := "rubric/rubriclaw10.RopeDeletes", spec := "ropeDeletes", unfollowed := true, recurses := true, apart := false }
def RopeDeletesSaid : Prop := ropeDeletesRow.holds Try.pinned (OpenSpec.ofChange ropeDeletesSpec)

/-- ITS FALSE NEIGHBOUR: 'it returns false'. Refute it at one input. -/
def ropeDeletesWrong : ChangeSpec := { name := "ropeDeletes", fn := fun _ => fun
  | [d1, d2, d3, d4, d5] => { results := [.lit (.bool false)], args := [d1, d2, d3, d4, d5] }
  | _ => none }
def RopeDeletesWrongFalsely : Prop := ropeDeletesRow.holds Try.pinned (OpenSpec.ofChange ropeDeletesWrong)

/- THE SECOND FORM. 'bulk': how many values and letters a reading holds, each counted each time it is reached (what is shared counts as often as it is met; a slice's spare places count too). A statement '..UptoSaid' is the law's where the arguments, and the package variables that the reading takes, are together of bulk at most 1048576: NARROWER than '..Said'. Prove '..Said' where nothing that the law and all that it calls make is longer than what came in: it says more and counts as full. Else prove '..UptoSaid'. A law counts once. -/
mutual
def uptoBulk {H : Type} : DataW H → Nat
  | .lit (.string bytes) => bytes.length + 1
  | .lit _ => 1
  | .nil => 1
  | .ptr d => uptoBulk d + 1
  | .slice elems spare => uptoBulkAll elems + uptoBulkAll spare + 1
  | .agg parts => uptoBulkAll parts + 1
  | .iface _ d => uptoBulk d + 1
  | .map entries => uptoBulkEntries entries + 1
  | .held _ => 1
def uptoBulkAll {H : Type} : List (DataW H) → Nat
  | [] => 0
  | d :: r => uptoBulk d + uptoBulkAll r
def uptoBulkEntries {H : Type} : List (Lit × DataW H) → Nat
  | [] => 0
  | x :: r => uptoBulkEntry x + uptoBulkEntries r
def uptoBulkEntry {H : Type} : Lit × DataW H → Nat
  | (.string bytes, d) => bytes.length + uptoBulk d + 1
  | (_, d) => uptoBulk d + 1
 end
def uptoSmall : (H : Type) → List (DataW H) → Bool := fun _ ds => decide (uptoBulkAll ds ≤ 1048576)
def OpenSpec.upto (s : _root_.Go.ChangeSpec) : _root_.Go.OpenSpec := { _root_.Go.OpenSpec.ofChange s with cond := some uptoSmall }

/-- 'rubriclaw10.RopeBack', WHERE WHAT IT READS IS OF BULK AT MOST 1048576: true; the input reads as it did. -/
def ropeBackUptoRow : OpenClaim := { program := "ytmfkhfmidnojhaa", sum := "74b089a94baf931e663c3e335c71b7f445be72ada6c0ae5c6a7ff87343575efc", func := "rubric/rubriclaw10.RopeBack", spec := "ropeBack", unfollowed := true, recurses := true, apart := false, narrowed := true }
def RopeBackUptoSaid : Prop := ropeBackUptoRow.holds Try.pinned (OpenSpec.upto ropeBackSpec)

/-- 'rubriclaw10.RopeNone', WHERE WHAT IT READS IS OF BULK AT MOST 1048576: true; the input reads as it did. -/
def ropeNoneUptoRow : OpenClaim := { program := "ytmfkhfmidnojhaa", sum := "74b089a94baf931e663c3e335c71b7f445be72ada6c0ae5c6a7ff87343575efc", func := "rubric/rubriclaw10.RopeNone", spec := "ropeNone", unfollowed := true, recurses := true, apart := false, narrowed := true }
def RopeNoneUptoSaid : Prop := ropeNoneUptoRow.holds Try.pinned (OpenSpec.upto ropeNoneSpec)

/-- 'rubriclaw10.RopeLines', WHERE WHAT IT READS IS OF BULK AT MOST 1048576: true; the input reads as it did. -/
def ropeLinesUptoRow : OpenClaim := { program := "ytmfkhfmidnojhaa", sum := "74b089a94baf931e663c3e335c71b7f445be72ada6c0ae5c6a7ff87343575efc", func := "rubric/rubriclaw10.RopeLines", spec := "ropeLines", unfollowed := true, recurses := true, apart := false, narrowed := true }
def RopeLinesUptoSaid : Prop := ropeLinesUptoRow.holds Try.pinned (OpenSpec.upto ropeLinesSpec)

/-- 'rubriclaw10.RopeEither', WHERE WHAT IT READS IS OF BULK AT MOST 1048576: true; the input reads as it did. -/
def ropeEitherUptoRow : OpenClaim := { program := "ytmfkhfmidnojhaa", sum := "74b089a94baf931e663c3e335c71b7f445be72ada6c0ae5c6a7ff87343575efc", func := "rubric/rubriclaw10.RopeEither", spec := "ropeEither", unfollowed := true, recurses := true, apart := false, narrowed := true }
def RopeEitherUptoSaid : Prop := ropeEitherUptoRow.holds Try.pinned (OpenSpec.upto ropeEitherSpec)

/-- 'rubriclaw10.RopeParts', WHERE WHAT IT READS IS OF BULK AT MOST 1048576: true; the input reads as it did. -/
def ropePartsUptoRow : OpenClaim := { program := "ytmfkhfmidnojhaa", sum := "74b089a94baf931e663c3e335c71b7f445be72ada6c0ae5c6a7ff87343575efc", func := "rubric/rubriclaw10.RopeParts", spec := "ropeParts", unfollowed := true, recurses := true, apart := false, narrowed := true }
def RopePartsUptoSaid : Prop := ropePartsUptoRow.holds Try.pinned (OpenSpec.upto ropePartsSpec)

/-- 'rubriclaw10.RopeDeletes', WHERE WHAT IT READS IS OF BULK AT MOST 1048576: true; the input reads as it did. -/
def ropeDeletesUptoRow : OpenClaim := { program := "ytmfkhfmidnojhaa", sum := "74b089a94baf931e663c3e335c71b7f445be72ada6c0ae5c6a7ff87343575efc", func := "rubric/rubriclaw10.RopeDeletes", spec := "ropeDeletes", unfollowed := true, recurses := true, apart := false, narrowed := true }
def RopeDeletesUptoSaid : Prop := ropeDeletesUptoRow.holds Try.pinned (OpenSpec.upto ropeDeletesSpec)

end Rows
end Go.Proofs.Ytmfkhfmidnojhaa
