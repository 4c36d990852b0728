/-
  No cell of these rows narrows 'for every input' (looked for: loops, veiled, ifaces, maps, wideKeys, modest, calm, conditions, laid).
  DERIVED. THE GIVEN ROWS OF THIS SEAT. 6 by the template 'for every input the law returns true; each argument reads behind the call as it read before'; 0 by the template 'total and deterministic' (their statements: YtimieinmphhmmaaTotals.lean).
  GIVEN WITH THE SEED: the statements are not yours to turn. If you find one false, say at which input.
  Laid BY PROGRAM, IN A SANDBOX (cutbox-rows.mjs): the forced cells as the released guide's own fill.sh prints them over the translation 7d81f48781588765… (all of the seat's roots in one cut). By AI agents, Wed Nov 11 2026. No macro, syntax, notation, axiom, sorry.
-/
import Derived.Test.YtimieinmphhmmaaChecked
import GoSem.Claim
import GoSem.ClaimJoined
import GoSem.ClaimMapViews
import Derived.JoinedTies
import Derived.KernelRfl
namespace Go.Proofs.Ytimieinmphhmmaa
/- THE CELL 'sum', in the pinned program and in every row, IS THE sha256 OF THE DUMP (.gsa) THAT YtimieinmphhmmaaProg.lean LOADS. Nothing in Lean hashes anything: it is a label: what it is worth is what the hold of that sum in a sandbox is worth. -/
noncomputable def Try.pinned : Pinned := { name := "ytimieinmphhmmaa", sum := "7d81f48781588765c2f23c302367254211d7b2094d0892ed58d5c520fe9dc43c", checked := Try.checked }
namespace Rows
def none {H : Type} : Left H := { results := [], args := [] }

/-- 'rubriclaw09.ChunkSame': WHATEVER THE INPUT: true; the input reads as it did. -/
def chunkSameSpec : ChangeSpec := { name := "chunkSame", fn := fun _ => fun
  | [d1, d2] => { results := [.lit (.bool true)], args := [d1, d2] }
  | _ => none }
def chunkSameRow : OpenClaim := { program := "ytimieinmphhmmaa", sum := "7d81f48781588765c2f23c302367254211d7b2094d0892ed58d5c520fe9dc43c", func := "rubric/rubriclaw09.ChunkSame", spec := "chunkSame", unfollowed := true, recurses := true, apart := false }
def ChunkSameSaid : Prop := chunkSameRow.holds Try.pinned (OpenSpec.ofChange chunkSameSpec)

/-- ITS FALSE NEIGHBOUR: 'it returns false'. Refute it at one input. -/
def chunkSameWrong : ChangeSpec := { name := "chunkSame", fn := fun _ => fun
  | [d1, d2] => { results := [.lit (.bool false)], args := [d1, d2] }
  | _ => none }
def ChunkSameWrongFalsely : Prop := chunkSameRow.holds Try.pinned (OpenSpec.ofChange chunkSameWrong)

/-- 'rubriclaw09.ChunkIs': WHATEVER THE INPUT: true; the input reads as it did. -/
def chunkIsSpec : ChangeSpec := { name := "chunkIs", fn := fun _ => fun
  | [d] => { results := [.lit (.bool true)], args := [d] }
  | _ => none }
def chunkIsRow : OpenClaim := { program := "ytimieinmphhmmaa", sum := "7d81f48781588765c2f23c302367254211d7b2094d0892ed58d5c520fe9dc43c", func := "rubric/rubriclaw09.ChunkIs", spec := "chunkIs", unfollowed := true, recurses := true, apart := false }
def ChunkIsSaid : Prop := chunkIsRow.holds Try.pinned (OpenSpec.ofChange chunkIsSpec)

/-- ITS FALSE NEIGHBOUR: 'it returns false'. Refute it at one input. -/
def chunkIsWrong : ChangeSpec := { name := "chunkIs", fn := fun _ => fun
  | [d] => { results := [.lit (.bool false)], args := [d] }
  | _ => none }
def ChunkIsWrongFalsely : Prop := chunkIsRow.holds Try.pinned (OpenSpec.ofChange chunkIsWrong)

/-- 'rubriclaw09.ChunkLines': WHATEVER THE INPUT: true; the input reads as it did. -/
def chunkLinesSpec : ChangeSpec := { name := "chunkLines", fn := fun _ => fun
  | [d] => { results := [.lit (.bool true)], args := [d] }
  | _ => none }
def chunkLinesRow : OpenClaim := { program := "ytimieinmphhmmaa", sum := "7d81f48781588765c2f23c302367254211d7b2094d0892ed58d5c520fe9dc43c", func := "rubric/rubriclaw09.ChunkLines", spec := "chunkLines", unfollowed := true, recurses := true, apart := false }
def ChunkLinesSaid : Prop := chunkLinesRow.holds Try.pinned (OpenSpec.ofChange chunkLinesSpec)

/-- ITS FALSE NEIGHBOUR: 'it returns false'. Refute it at one input. -/
def chunkLinesWrong : ChangeSpec := { name := "chunkLines", fn := fun _ => fun
  | [d] => { results := [.lit (.bool false)], args := [d] }
  | _ => none }
def ChunkLinesWrongFalsely : Prop := chunkLinesRow.holds Try.pinned (OpenSpec.ofChange chunkLinesWrong)

/-- 'rubriclaw09.ChunkBack': WHATEVER THE INPUT: true; the input reads as it did. -/
def chunkBackSpec : ChangeSpec := { name := "chunkBack", fn := fun _ => fun
  | [d1, d2] => { results := [.lit (.bool true)], args := [d1, d2] }
  | _ => none }
def chunkBackRow : OpenClaim := { program := "ytimieinmphhmmaa", sum := "7d81f48781588765c2f23c302367254211d7b2094d0892ed58d5c520fe9dc43c", func := "rubric/rubriclaw09.ChunkBack", spec := "chunkBack", unfollowed := true, recurses := true, apart := false }
def ChunkBackSaid : Prop := chunkBackRow.holds Try.pinned (OpenSpec.ofChange chunkBackSpec)

/-- ITS FALSE NEIGHBOUR: 'it returns false'. Refute it at one input. -/
def chunkBackWrong : ChangeSpec := { name := "chunkBack", fn := fun _ => fun
  | [d1, d2] => { results := [.lit (.bool false)], args := [d1, d2] }
  | _ => none }
def ChunkBackWrongFalsely : Prop := chunkBackRow.holds Try.pinned (OpenSpec.ofChange chunkBackWrong)

/-- 'rubriclaw09.ChunkJoins': WHATEVER THE INPUT: true; the input reads as it did. -/
def chunkJoinsSpec : ChangeSpec := { name := "chunkJoins", fn := fun _ => fun
  | [d1, d2, d3] => { results := [.lit (.bool true)], args := [d1, d2, d3] }
  | _ => none }
def chunkJoinsRow : OpenClaim := { program := "ytimieinmphhmmaa", sum := "7d81f48781588765c2f23c302367254211d7b2094d0892ed58d5c520fe9dc43c", func := "rubric/rubriclaw09.ChunkJoins", spec := "chunkJoins", unfollowed := true, recurses := true, apart := false }
def ChunkJoinsSaid : Prop := chunkJoinsRow.holds Try.pinned (OpenSpec.ofChange chunkJoinsSpec)

/-- ITS FALSE NEIGHBOUR: 'it returns false'. Refute it at one input. -/
def chunkJoinsWrong : ChangeSpec := { name := "chunkJoins", fn := fun _ => fun
  | [d1, d2, d3] => { results := [.lit (.bool false)], args := [d1, d2, d3] }
  | _ => none }
def ChunkJoinsWrongFalsely : Prop := chunkJoinsRow.holds Try.pinned (OpenSpec.ofChange chunkJoinsWrong)

/-- 'rubriclaw09.ChunkSplits': WHATEVER THE INPUT: true; the input reads as it did. -/
def chunkSplitsSpec : ChangeSpec := { name := "chunkSplits", fn := fun _ => fun
  | [d1, d2, d3] => { results := [.lit (.bool true)], args := [d1, d2, d3] }
  | _ => none }
def chunkSplitsRow : OpenClaim := { program := "ytimieinmphhmmaa", sum := "7d81f48781588765c2f23c302367254211d7b2094d0892ed58d5c520fe9dc43c", func := "rubric/rubriclaw09.ChunkSplits", spec := "chunkSplits", unfollowed := true, recurses := true, apart := false }
def ChunkSplitsSaid : Prop := chunkSplitsRow.holds Try.pinned (OpenSpec.ofChange chunkSplitsSpec)

/-- ITS FALSE NEIGHBOUR: 'it returns false'. Refute it at one input. -/
def chunkSplitsWrong : ChangeSpec := { name := "chunkSplits", fn := fun _ => fun
  | [d1, d2, d3] => { results := [.lit (.bool false)], args := [d1, d2, d3] }
  | _ => none }
def ChunkSplitsWrongFalsely : Prop := chunkSplitsRow.holds Try.pinned (OpenSpec.ofChange chunkSplitsWrong)

/- THE SECOND FORM. 'bulk': how many values and letters a reading holds, each counted each time it is reached (what is shared counts as often as it is met; a slice's spare places count too). A statement '..UptoSaid' is the law's where the arguments, and the package variables that the reading takes, are together of bulk at most 1048576: NARROWER than '..Said'. Prove '..Said' where nothing that the law and all that it calls make is longer than what came in: it says more and counts as full. Else prove '..UptoSaid'. A law counts once. -/
mutual
def uptoBulk {H : Type} : DataW H → Nat
  | .lit (.string bytes) => bytes.length + 1
  | .lit _ => 1
  | .nil => 1
  | .ptr d => uptoBulk d + 1
  | .slice elems spare => uptoBulkAll elems + uptoBulkAll spare + 1
  | .agg parts => uptoBulkAll parts + 1
  | .iface _ d => uptoBulk d + 1
  | .map entries => uptoBulkEntries entries + 1
  | .held _ => 1
def uptoBulkAll {H : Type} : List (DataW H) → Nat
  | [] => 0
  | d :: r => uptoBulk d + uptoBulkAll r
def uptoBulkEntries {H : Type} : List (Lit × DataW H) → Nat
  | [] => 0
  | x :: r => uptoBulkEntry x + uptoBulkEntries r
def uptoBulkEntry {H : Type} : Lit × DataW H → Nat
  | (.string bytes, d) => bytes.length + uptoBulk d + 1
  | (_, d) => uptoBulk d + 1
 end
def uptoSmall : (H : Type) → List (DataW H) → Bool := fun _ ds => decide (uptoBulkAll ds ≤ 1048576)
def OpenSpec.upto (s : _root_.Go.ChangeSpec) : _root_.Go.OpenSpec := { _root_.Go.OpenSpec.ofChange s with cond := some uptoSmall }

/-- 'rubriclaw09.ChunkSame', WHERE WHAT IT READS IS OF BULK AT MOST 1048576: true; the input reads as it did. -/
def chunkSameUptoRow : OpenClaim := { program := "ytimieinmphhmmaa", sum := "7d81f48781588765c2f23c302367254211d7b2094d0892ed58d5c520fe9dc43c", func := "rubric/rubriclaw09.ChunkSame", spec := "chunkSame", unfollowed := true, recurses := true, apart := false, narrowed := true }
def ChunkSameUptoSaid : Prop := chunkSameUptoRow.holds Try.pinned (OpenSpec.upto chunkSameSpec)

/-- 'rubriclaw09.ChunkIs', WHERE WHAT IT READS IS OF BULK AT MOST 1048576: true; the input reads as it did. -/
def chunkIsUptoRow : OpenClaim := { program := "ytimieinmphhmmaa", sum := "7d81f48781588765c2f23c302367254211d7b2094d0892ed58d5c520fe9dc43c", func := "rubric/rubriclaw09.ChunkIs", spec := "chunkIs", unfollowed := true, recurses := true, apart := false, narrowed := true }
def ChunkIsUptoSaid : Prop := chunkIsUptoRow.holds Try.pinned (OpenSpec.upto chunkIsSpec)

/-- 'rubriclaw09.ChunkLines', WHERE WHAT IT READS IS OF BULK AT MOST 1048576: true; the input reads as it did. -/
def chunkLinesUptoRow : OpenClaim := { program := "ytimieinmphhmmaa", sum := "7d81f48781588765c2f23c302367254211d7b2094d0892ed58d5c520fe9dc43c", func := "rubric/rubriclaw09.ChunkLines", spec := "chunkLines", unfollowed := true, recurses := true, apart := false, narrowed := true }
def ChunkLinesUptoSaid : Prop := chunkLinesUptoRow.holds Try.pinned (OpenSpec.upto chunkLinesSpec)

/-- 'rubriclaw09.ChunkBack', WHERE WHAT IT READS IS OF BULK AT MOST 1048576: true; the input reads as it did. -/
def chunkBackUptoRow : OpenClaim := { program := "ytimieinmphhmmaa", sum := "7d81f48781588765c2f23c302367254211d7b2094d0892ed58d5c520fe9dc43c", func := "rubric/rubriclaw09.ChunkBack", spec := "chunkBack", unfollowed := true, recurses := true, apart := false, narrowed := true }
def ChunkBackUptoSaid : Prop := chunkBackUptoRow.holds Try.pinned (OpenSpec.upto chunkBackSpec)

/-- 'rubriclaw09.ChunkJoins', WHERE WHAT IT READS IS OF BULK AT MOST 1048576: true; the input reads as it did. -/
def chunkJoinsUptoRow : OpenClaim := { program := "ytimieinmphhmmaa", sum := "7d81f48781588765c2f23c302367254211d7b2094d0892ed58d5c520fe9dc43c", func := "rubric/rubriclaw09.ChunkJoins", spec := "chunkJoins", unfollowed := true, recurses := true, apart := false, narrowed := true }
def ChunkJoinsUptoSaid : Prop := chunkJoinsUptoRow.holds Try.pinned (OpenSpec.upto chunkJoinsSpec)

/-- 'rubriclaw09.ChunkSplits', WHERE WHAT IT READS IS OF BULK AT MOST 1048576: true; the input reads as it did. -/
def chunkSplitsUptoRow : OpenClaim := { program := "ytimieinmphhmmaa", sum := "7d81f48781588765c2f23c302367254211d7b2094d0892ed58d5c520fe9dc43c", func := "rubric/rubriclaw09.ChunkSplits", spec := "chunkSplits", unfollowed := true, recurses := true, apart := false, narrowed := true }
def ChunkSplitsUptoSaid : Prop := chunkSplitsUptoRow.holds Try.pinned (OpenSpec.upto chunkSplitsSpec)

end Rows
end Go.Proofs.Ytimieinmphhmmaa
