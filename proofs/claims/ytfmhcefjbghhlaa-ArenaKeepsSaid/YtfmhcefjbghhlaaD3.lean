/-
The calls that a law of this chapter is handed, as they lie in memory.
-/
import Derived.Test.YtfmhcefjbghhlaaD2
import Derived.Test.YtfmhcefjbghhlaaC3
namespace Go.Proofs.Ytfmhcefjbghhlaa
open Go Go.RowKit Go.ChangeShapes Go.WideShapes Go.ChangeAt
abbrev OpT := Int × Int × Int
def opC (o : OpT) : List Value := [.int .i64 o.1, .int .i64 o.2.1, .int .i64 o.2.2]
def opWf (o : OpT) : Prop := (Lit.int .i64 o.1).wf = true ∧ (Lit.int .i64 o.2.1).wf = true ∧ (Lit.int .i64 o.2.2).wf = true
def OpsAt (W : World) (v : Value) (os : List OpT) : Prop :=
  ∃ a cap, v = .slice a os.length cap ∧ os.length ≤ cap ∧ cap ≤ maxLen ∧ ∀ (i : Nat) (o : OpT), os[i]? = some o → opWf o ∧ ∃ a', a = some a' ∧ ∀ (j : Nat) (u : Value), (opC o)[j]? = some u → W.cell? ((a'.add (i * 3)).add j) = some u
theorem ops_of {P : Program} {W : World} {base : Nat} {sp : Nat → Bool} {held : Bool} {H : Type} {enc : TypeId × Value → H} {t e t0 t1 t2 : TypeId} {v : Value} {d : DataW H} {ps : List MemPlace} {r : Reach} {b0 : Nat} {f0 f1 f2 : Field}
    (ht : P.underlying t = some (.slice e)) (he : P.underlying e = some (.struct #[f0, f1, f2])) (h0 : f0.type = t0) (h1 : f1.type = t1) (h2 : f2.type = t2) (o0 : f0.offset = 0) (o1 : f1.offset = 1) (o2 : f2.offset = 2)
    (i0 : P.underlying t0 = some (.int .i64)) (i1 : P.underlying t1 = some (.int .i64)) (i2 : P.underlying t2 = some (.int .i64)) (c0 : P.cellsOf t0 = 1) (c1 : P.cellsOf t1 = 1) (c2 : P.cellsOf t2 = 1) (hc : P.cellsOf e = 3)
    (hval : Value.okWide P W r b0 t v) (h : DataW.Trod enc P W base sp held t v d ps) : ∃ os, OpsAt W v os := by
  obtain ⟨av, len, cap, rfl⟩ := okWide_slice ht hval
  obtain ⟨fuel, hf⟩ := h
  rcases DataW.trod_slice ht hf with ⟨e1, _⟩ | ⟨a, len', cap', elems, rest, n, _, e1, _, hb, hl, hm, hlen, hel, _, _⟩
  · cases e1
    exact ⟨[], none, 0, rfl, Nat.le_refl _, Nat.zero_le _, fun i o hi => by simp at hi⟩
  · cases e1
    have each : ∀ i, ∃ o : OpT, i < len → opWf o ∧ ∀ (j : Nat) (u : Value), (opC o)[j]? = some u → W.cell? ((a.add (i * 3)).add j) = some u := by
      intro i
      by_cases hi : i < len
      · have h3 := hel i hi
        rw [List.getElem?_eq_getElem (by omega), hc, Option.bind_eq_some_iff] at h3
        obtain ⟨cs, hcs, hy⟩ := h3
        obtain ⟨xs, m, _, _, hcl, hxl, hx⟩ := DataW.trod_struct he hy
        rw [hc] at hcl
        have g0 := hx 0 f0 rfl
        have g1 := hx 1 f1 rfl
        have g2 := hx 2 f2 rfl
        have hxl' : xs.length = 3 := hxl
        rw [h0, o0, c0, List.getElem?_eq_getElem (by omega)] at g0
        rw [h1, o1, c1, List.getElem?_eq_getElem (by omega)] at g1
        rw [h2, o2, c2, List.getElem?_eq_getElem (by omega)] at g2
        obtain ⟨n0, e0, _, w0⟩ := DataW.trod_int i0 g0
        obtain ⟨n1, e1, _, w1⟩ := DataW.trod_int i1 g1
        obtain ⟨n2, e2, _, w2⟩ := DataW.trod_int i2 g2
        refine ⟨(n0, n1, n2), fun _ => ⟨⟨w0, w1, w2⟩, ?_⟩⟩
        have ecs : cs = opC (n0, n1, n2) := by
          match cs, hcl with
          | [x, y, z], _ =>
            simp at e0 e1 e2
            rw [e0, e1, e2]; rfl
        intro j u hj
        rw [← ecs] at hj
        rw [(World.cells?_some hcs).2.2 j (by have := (List.getElem?_eq_some_iff.1 hj).1; omega), hj]
      · exact ⟨(0, 0, 0), fun h => absurd h hi⟩
    obtain ⟨F, hF⟩ := Classical.axiomOfChoice each
    refine ⟨(List.range len).map F, some a, cap, by simp, by simpa using hl, hm, fun i o hi => ?_⟩
    simp only [List.getElem?_map, Option.map_eq_some_iff] at hi
    obtain ⟨k, hk, rfl⟩ := hi
    obtain ⟨hk1, hk2⟩ := List.getElem?_eq_some_iff.1 hk
    simp at hk1 hk2
    subst hk2
    exact ⟨(hF i hk1).1, a, rfl, (hF i hk1).2⟩
end Go.Proofs.Ytfmhcefjbghhlaa
