/-
What a law's arguments are: slices of ints in the memory that was there at the call.
-/
import Derived.Test.YtmfkhfmidnojhaaH3
import Derived.ProofKit
namespace Go.Proofs.Ytmfkhfmidnojhaa
open Go Go.RowKit Go.ChangeShapes Go.WideShapes Go.ChangeAt
theorem Try.own : ownKnob Try.prog.godebug = none := by kernel_rfl
theorem Try.laidOut : laidOutB Try.prog = true := by kernel_rfl
theorem Ret.out {T : Value → World → Prop} {e : Ending} {w : World} (h : Ret T e w) : ∃ v, e = .returned v ∧ T v w := by
  cases e <;> first | exact ⟨_, rfl, h⟩ | exact h.elim
theorem reads_of {P : Program} {W : World} {base : Nat} {sp : Nat → Bool} {held : Bool} {H : Type} {enc : TypeId × Value → H} {t e : TypeId} {v : Value} {d : DataW H} {ps : List MemPlace} {r : Reach} {b0 : Nat} {k : IntKind}
    (ht : P.underlying t = some (.slice e)) (he : P.underlying e = some (.int k)) (hc : P.cellsOf e = 1) (hval : Value.okWide P W r b0 t v) (h : DataW.Trod enc P W base sp held t v d ps) : ∃ zs, ∀ E R, Reads E (Old W :: R) v k zs := by
  obtain ⟨a0, len, cap, rfl⟩ := okWide_slice ht hval
  obtain ⟨fuel, hf⟩ := h
  rcases open_ints ht he hc hf with ⟨h1, _⟩ | ⟨a, len', cap', zs, h1, _, hlc, hcap, hzl, _, hz, _⟩
  · cases h1
    exact ⟨[], fun E R w h => ⟨none, 0, rfl, Nat.le_refl _, Nat.zero_le _, fun i r hi => by simp at hi⟩⟩
  · cases h1
    have hle : len ≤ zs.length := by rw [hzl]; split <;> omega
    have hl : (zs.take len).length = len := by rw [List.length_take, Nat.min_eq_left hle]
    refine ⟨zs.take len, fun E R w h => ⟨some a, cap, by rw [hl], by rw [hl]; exact hlc, hcap, fun i r hi => ⟨a, rfl, ?_⟩⟩⟩
    have hlt := (List.getElem?_eq_some_iff.1 hi).1
    rw [hl] at hlt
    rw [List.getElem?_take, if_pos hlt] at hi
    refine h.oldCell 0 rfl ?_
    rw [hz i (by omega)]
    simp [List.getD, hi]
section
variable {E : Env} {R L : List SProp} {w : World} {l m zs : List Int} {v : Value} {r : Int}
theorem of_not (hv : Reads E R v .i32 zs) (hn : ¬ ChOk zs) (h : SatL E w R) : Calls Try.prog 30 #[v] w (Ret fun u w' => (∃ e : Int, e ≠ 0 ∧ u = .tuple #[.agg (chC []), .int .i64 e]) ∧ SatL E w' R) := by
  by_cases hb : ∃ r ∈ zs, ¬ rune r
  · exact (of_bad hv hb h).mono fun e w' he => by
      obtain ⟨u, rfl, rfl, h⟩ := Ret.out he
      exact ⟨⟨3, by omega, rfl⟩, h⟩
  · have ha : ∀ r ∈ zs, rune r := fun r hr => Decidable.byContradiction fun hc => hb ⟨r, hr, hc⟩
    have hl : 32 < zs.length := by
      refine Decidable.byContradiction fun hc => hn ⟨by omega, ha⟩
    exact (of_long hv ha hl h).mono fun e w' he => by
      obtain ⟨u, rfl, rfl, h⟩ := Ret.out he
      exact ⟨⟨8, by omega, rfl⟩, h⟩
theorem of_any (hv : Reads E R v .i32 zs) (h : SatL E w R) : Calls Try.prog 30 #[v] w (Ret fun u w' => (∃ (e : Int) (l : List Int), ChOk l ∧ u = .tuple #[.agg (chC l), .int .i64 e]) ∧ SatL E w' R) := by
  by_cases ho : ChOk zs
  · exact (of_ok hv ho h).mono fun e w' he => by
      obtain ⟨u, rfl, rfl, h⟩ := Ret.out he
      exact ⟨⟨0, zs, ho, rfl⟩, h⟩
  · exact (of_not hv ho h).mono fun e w' he => by
      obtain ⟨u, rfl, ⟨e, _, rfl⟩, h⟩ := Ret.out he
      exact ⟨⟨e, [], chOk_nil, rfl⟩, h⟩
end
end Go.Proofs.Ytmfkhfmidnojhaa
