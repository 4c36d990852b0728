/-
What every row's proof of this seat wants.
-/
import Derived.Test.YtfmhcefjbghhlaaC2
import Derived.ProofKit
namespace Go.Proofs.Ytfmhcefjbghhlaa
open Go.ChangeShapes Go.WideShapes Go.ChangeAt Go.RowKit
theorem Try.own : ownKnob Try.prog.godebug = none := by kernel_rfl
theorem Try.laidOut : laidOutB Try.prog = true := by kernel_rfl
theorem Ret.out {T : Value → World → Prop} {e : Ending} {w : World} (h : Ret T e w) : ∃ v, e = .returned v ∧ T v w := by
  cases e <;> first | exact ⟨_, rfl, h⟩ | exact h.elim
end Go.Proofs.Ytfmhcefjbghhlaa
