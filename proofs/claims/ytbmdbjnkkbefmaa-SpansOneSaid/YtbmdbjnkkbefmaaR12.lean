/-
One call that a law of this chapter is handed by value.
-/
import Derived.Test.YtbmdbjnkkbefmaaR11
namespace Go.Proofs.Ytbmdbjnkkbefmaa
open Go Go.RowKit Go.ChangeShapes Go.WideShapes Go.ChangeAt
section
variable {W : World} {base : Nat} {sp : Nat → Bool} {held : Bool} {H : Type} {enc : TypeId × Value → H}
theorem op_of {v : Value} {d : DataW H} {ps : List MemPlace} {r : Reach} {b0 : Nat} (hval : Value.okWide Try.prog W r b0 28 v) (h : DataW.Trod enc Try.prog W base sp held 28 v d ps) : ∃ o, v = .agg (opC o).toArray ∧ OpWf W o := by
  obtain ⟨cs, rfl, _⟩ := okWide_struct Try.underlying28 hval
  obtain ⟨fuel, hf⟩ := h
  obtain ⟨o, e, hw⟩ := opT hf
  exact ⟨o, by rw [← e]; rfl, hw⟩
end
end Go.Proofs.Ytbmdbjnkkbefmaa
