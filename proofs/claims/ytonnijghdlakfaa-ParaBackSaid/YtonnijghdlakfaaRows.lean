/-
  No cell of these rows narrows 'for every input' (looked for: loops, veiled, ifaces, maps, wideKeys, modest, calm, conditions, laid).
  DERIVED. THE GIVEN ROWS OF THIS SEAT. 4 by the template 'for every input the law returns true; each argument reads behind the call as it read before'; 0 by the template 'total and deterministic' (their statements: YtonnijghdlakfaaTotals.lean).
  GIVEN WITH THE SEED: the statements are not yours to turn. If you find one false, say at which input.
  Laid BY PROGRAM, IN A SANDBOX (cutbox-rows.mjs): the forced cells as the released guide's own fill.sh prints them over the translation 93e88b7997e07542… (all of the seat's roots in one cut). By AI agents, Wed Nov 11 2026. No macro, syntax, notation, axiom, sorry.
-/
import Derived.Test.YtonnijghdlakfaaChecked
import GoSem.Claim
import GoSem.ClaimJoined
import GoSem.ClaimMapViews
import Derived.JoinedTies
import Derived.KernelRfl
namespace Go.Proofs.Ytonnijghdlakfaa
/- THE CELL 'sum', in the pinned program and in every row, IS THE sha256 OF THE DUMP (.gsa) THAT YtonnijghdlakfaaProg.lean LOADS. Nothing in Lean hashes anything: it is a label: what it is worth is what the hold of that sum in a sandbox is worth. -/
noncomputable def Try.pinned : Pinned := { name := "ytonnijghdlakfaa", sum := "93e88b7997e075423d281af917cb7dc09c8ef6d73d926be99c79b5159234138c", checked := Try.checked }
namespace Rows
def none {H : Type} : Left H := { results := [], args := [] }

/-- 'rubriclaw13.ParaBack': WHATEVER THE INPUT: true; the input reads as it did. -/
def paraBackSpec : ChangeSpec := { name := "paraBack", fn := fun _ => fun
  | [d1, d2] => { results := [.lit (.bool true)], args := [d1, d2] }
  | _ => none }
def paraBackRow : OpenClaim := { program := "ytonnijghdlakfaa", sum := "93e88b7997e075423d281af917cb7dc09c8ef6d73d926be99c79b5159234138c", func := "rubric/rubriclaw13.ParaBack", spec := "paraBack", unfollowed := true, recurses := true, apart := false }
def ParaBackSaid : Prop := paraBackRow.holds Try.pinned (OpenSpec.ofChange paraBackSpec)

/-- ITS FALSE NEIGHBOUR: 'it returns false'. Refute it at one input. -/
def paraBackWrong : ChangeSpec := { name := "paraBack", fn := fun _ => fun
  | [d1, d2] => { results := [.lit (.bool false)], args := [d1, d2] }
  | _ => none }
def ParaBackWrongFalsely : Prop := paraBackRow.holds Try.pinned (OpenSpec.ofChange paraBackWrong)

/-- 'rubriclaw13.ParaApart': WHATEVER THE INPUT: true; the input reads as it did. -/
def paraApartSpec : ChangeSpec := { name := "paraApart", fn := fun _ => fun
  | [d1, d2, d3] => { results := [.lit (.bool true)], args := [d1, d2, d3] }
  | _ => none }
def paraApartRow : OpenClaim := { program := "ytonnijghdlakfaa", sum := "93e88b7997e075423d281af917cb7dc09c8ef6d73d926be99c79b5159234138c", func := "rubric/rubriclaw13.ParaApart", spec := "paraApart", unfollowed := true, recurses := true, apart := false }
def ParaApartSaid : Prop := paraApartRow.holds Try.pinned (OpenSpec.ofChange paraApartSpec)

/-- ITS FALSE NEIGHBOUR: 'it returns false'. Refute it at one input. -/
def paraApartWrong : ChangeSpec := { name := "paraApart", fn := fun _ => fun
  | [d1, d2, d3] => { results := [.lit (.bool false)], args := [d1, d2, d3] }
  | _ => none }
def ParaApartWrongFalsely : Prop := paraApartRow.holds Try.pinned (OpenSpec.ofChange paraApartWrong)

/-- 'rubriclaw13.ParaParts': WHATEVER THE INPUT: true; the input reads as it did. -/
def paraPartsSpec : ChangeSpec := { name := "paraParts", fn := fun _ => fun
  | [d1, d2, d3, d4] => { results := [.lit (.bool true)], args := [d1, d2, d3, d4] }
  | _ => none }
def paraPartsRow : OpenClaim := { program := "ytonnijghdlakfaa", sum := "93e88b7997e075423d281af917cb7dc09c8ef6d73d926be99c79b5159234138c", func := "rubric/rubriclaw13.ParaParts", spec := "paraParts", unfollowed := true, recurses := true, apart := false }
def ParaPartsSaid : Prop := paraPartsRow.holds Try.pinned (OpenSpec.ofChange paraPartsSpec)

/-- ITS FALSE NEIGHBOUR: 'it returns false'. Refute it at one input. -/
def paraPartsWrong : ChangeSpec := { name := "paraParts", fn := fun _ => fun
  | [d1, d2, d3, d4] => { results := [.lit (.bool false)], args := [d1, d2, d3, d4] }
  | _ => none }
def ParaPartsWrongFalsely : Prop := paraPartsRow.holds Try.pinned (OpenSpec.ofChange paraPartsWrong)

/-- 'rubriclaw13.ParaNone': WHATEVER THE INPUT: true; the input reads as it did. -/
def paraNoneSpec : ChangeSpec := { name := "paraNone", fn := fun _ => fun
  | [d] => { results := [.lit (.bool true)], args := [d] }
  | _ => none }
def paraNoneRow : OpenClaim := { program := "ytonnijghdlakfaa", sum := "93e88b7997e075423d281af917cb7dc09c8ef6d73d926be99c79b5159234138c", func := "rubric/rubriclaw13.ParaNone", spec := "paraNone", unfollowed := true, recurses := true, apart := false }
def ParaNoneSaid : Prop := paraNoneRow.holds Try.pinned (OpenSpec.ofChange paraNoneSpec)

/-- ITS FALSE NEIGHBOUR: 'it returns false'. Refute it at one input. -/
def paraNoneWrong : ChangeSpec := { name := "paraNone", fn := fun _ => fun
  | [d] => { results := [.lit (.bool false)], args := [d] }
  | _ => none }
def ParaNoneWrongFalsely : Prop := paraNoneRow.holds Try.pinned (OpenSpec.ofChange paraNoneWrong)

/- THE SECOND FORM. 'bulk': how many values and letters a reading holds, each counted each time it is reached (what is shared counts as often as it is met; a slice's spare places count too). A statement '..UptoSaid' is the law's where the arguments, and the package variables that the reading takes, are together of bulk at most 1048576: NARROWER than '..Said'. Prove '..Said' where nothing that the law and all that it calls make is longer than what came in: it says more and counts as full. Else prove '..UptoSaid'. A law counts once. -/
mutual
def uptoBulk {H : Type} : DataW H → Nat
  | .lit (.string bytes) => bytes.length + 1
  | .lit _ => 1
  | .nil => 1
  | .ptr d => uptoBulk d + 1
  | .slice elems spare => uptoBulkAll elems + uptoBulkAll spare + 1
  | .agg parts => uptoBulkAll parts + 1
  | .iface _ d => uptoBulk d + 1
  | .map entries => uptoBulkEntries entries + 1
  | .held _ => 1
def uptoBulkAll {H : Type} : List (DataW H) → Nat
  | [] => 0
  | d :: r => uptoBulk d + uptoBulkAll r
def uptoBulkEntries {H : Type} : List (Lit × DataW H) → Nat
  | [] => 0
  | x :: r => uptoBulkEntry x + uptoBulkEntries r
def uptoBulkEntry {H : Type} : Lit × DataW H → Nat
  | (.string bytes, d) => bytes.length + uptoBulk d + 1
  | (_, d) => uptoBulk d + 1
 end
def uptoSmall : (H : Type) → List (DataW H) → Bool := fun _ ds => decide (uptoBulkAll ds ≤ 1048576)
def OpenSpec.upto (s : _root_.Go.ChangeSpec) : _root_.Go.OpenSpec := { _root_.Go.OpenSpec.ofChange s with cond := some uptoSmall }

/-- 'rubriclaw13.ParaBack', WHERE WHAT IT READS IS OF BULK AT MOST 1048576: true; the input reads as it did. -/
def paraBackUptoRow : OpenClaim := { program := "ytonnijghdlakfaa", sum := "93e88b7997e075423d281af917cb7dc09c8ef6d73d926be99c79b5159234138c", func := "rubric/rubriclaw13.ParaBack", spec := "paraBack", unfollowed := true, recurses := true, apart := false, narrowed := true }
def ParaBackUptoSaid : Prop := paraBackUptoRow.holds Try.pinned (OpenSpec.upto paraBackSpec)

/-- 'rubriclaw13.ParaApart', WHERE WHAT IT READS IS OF BULK AT MOST 1048576: true; the input reads as it did. -/
def paraApartUptoRow : OpenClaim := { program := "ytonnijghdlakfaa", sum := "93e88b7997e075423d281af917cb7dc09c8ef6d73d926be99c79b5159234138c", func := "rubric/rubriclaw13.ParaApart", spec := "paraApart", unfollowed := true, recurses := true, apart := false, narrowed := true }
def ParaApartUptoSaid : Prop := paraApartUptoRow.holds Try.pinned (OpenSpec.upto paraApartSpec)

/-- 'rubriclaw13.ParaParts', WHERE WHAT IT READS IS OF BULK AT MOST 1048576: true; the input reads as it did. -/
def paraPartsUptoRow : OpenClaim := { program := "ytonnijghdlakfaa", sum := "93e88b7997e075423d281af917cb7dc09c8ef6d73d926be99c79b5159234138c", func := "rubric/rubriclaw13.ParaParts", spec := "paraParts", unfollowed := true, recurses := true, apart := false, narrowed := true }
def ParaPartsUptoSaid : Prop := paraPartsUptoRow.holds Try.pinned (OpenSpec.upto paraPartsSpec)

/-- 'rubriclaw13.ParaNone', WHERE WHAT IT READS IS OF BULK AT MOST 1048576: true; the input reads as it did. -/
def paraNoneUptoRow : OpenClaim := { program := "ytonnijghdlakfaa", sum := "93e88b7997e075423d281af917cb7dc09c8ef6d73d926be99c79b5159234138c", func := "rubric/rubriclaw13.ParaNone", spec := "paraNone", unfollowed := true, recurses := true, apart := false, narrowed := true }
def ParaNoneUptoSaid : Prop := paraNoneUptoRow.holds Try.pinned (OpenSpec.upto paraNoneSpec)

end Rows
end Go.Proofs.Ytonnijghdlakfaa
