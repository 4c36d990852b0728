/-
The calls that a law of this chapter is handed, as they lie in memory.
-/
import Derived.Test.YtbmdbjnkkbefmaaS7
import Derived.ProofKit
namespace Go.Proofs.Ytbmdbjnkkbefmaa
open Go Go.RowKit Go.ChangeShapes Go.WideShapes Go.ChangeAt
theorem Try.own : ownKnob Try.prog.godebug = none := by kernel_rfl
theorem Try.laidOut : laidOutB Try.prog = true := by kernel_rfl
theorem Ret.out {T : Value → World → Prop} {e : Ending} {w : World} (h : Ret T e w) : ∃ v, e = .returned v ∧ T v w := by
  cases e <;> first | exact ⟨_, rfl, h⟩ | exact h.elim
theorem i64_of_wf {r : Int} (h : (Lit.int .i64 r).wf = true) : I64 r := by
  simp [Lit.wf, IntKind.min, IntKind.max, IntKind.bits, IntKind.signed] at h
  unfold I64
  omega
def OldSp (W : World) (v : Value) (ps : List RS) : Prop :=
  ∃ a cap, v = .slice a ps.length cap ∧ ∀ (k : Nat) (p : RS), ps[k]? = some p → wfR p ∧ ∃ ad, a = some ad ∧ ∀ (j : Nat) (u : Value), (rawC p)[j]? = some u → W.cell? ((ad.add (k * 2)).add j) = some u
theorem OldSp.rslc {E : Env} {R : List SProp} {W : World} {v : Value} {ps : List RS} (h : OldSp W v ps) (k : Nat) (hk : R[k]? = some (Old W)) : RSlc E R v ps := by
  obtain ⟨a, cap, rfl, h1⟩ := h
  refine ⟨a, cap, rfl, fun w hw i p hp => ?_⟩
  obtain ⟨_, ad, rfl, h2⟩ := h1 i p hp
  exact ⟨ad, rfl, fun j u hj => hw.oldCell k hk (h2 j u hj)⟩
theorem OldSp.wf {W : World} {v : Value} {ps : List RS} (h : OldSp W v ps) : ∀ p ∈ ps, wfR p := by
  obtain ⟨a, cap, rfl, h1⟩ := h
  intro p hp
  obtain ⟨k, hk, rfl⟩ := List.mem_iff_getElem.1 hp
  exact (h1 k _ (List.getElem?_eq_getElem hk)).1
section
variable {P : Program} {W : World} {base : Nat} {sp : Nat → Bool} {held : Bool} {H : Type} {enc : TypeId × Value → H}
theorem raw_trod {e : TypeId} {fuel : Nat} {cs : List Value} {x : DataW H × List MemPlace} {f0 f1 : Field} (he : P.underlying e = some (.struct #[f0, f1])) (o0 : f0.offset = 0) (o1 : f1.offset = 1) (i0 : P.underlying f0.type = some (.int .i64)) (i1 : P.underlying f1.type = some (.int .i64)) (c0 : P.cellsOf f0.type = 1) (c1 : P.cellsOf f1.type = 1) (hc : P.cellsOf e = 2)
    (h : DataW.trod enc P W base sp held fuel e cs = some x) : ∃ p : RS, cs = rawC p ∧ wfR p := by
  obtain ⟨xs, m, _, _, hcl, hxl, hx⟩ := DataW.trod_struct he h
  rw [hc] at hcl
  have g0 := hx 0 f0 rfl
  have g1 := hx 1 f1 rfl
  have hxl' : xs.length = 2 := hxl
  rw [o0, c0, List.getElem?_eq_getElem (by omega)] at g0
  rw [o1, c1, List.getElem?_eq_getElem (by omega)] at g1
  obtain ⟨n0, e0, _, w0⟩ := DataW.trod_int i0 g0
  obtain ⟨n1, e1, _, w1⟩ := DataW.trod_int i1 g1
  refine ⟨(n0, n1), ?_, i64_of_wf w0, i64_of_wf w1⟩
  match cs, hcl with
  | [a, b], _ =>
    simp at e0 e1
    rw [e0, e1]; rfl
theorem spans_trod {t e : TypeId} {fuel : Nat} {cs : List Value} {x : DataW H × List MemPlace} {f0 f1 : Field} (ht : P.underlying t = some (.slice e)) (he : P.underlying e = some (.struct #[f0, f1])) (o0 : f0.offset = 0) (o1 : f1.offset = 1) (i0 : P.underlying f0.type = some (.int .i64)) (i1 : P.underlying f1.type = some (.int .i64)) (c0 : P.cellsOf f0.type = 1) (c1 : P.cellsOf f1.type = 1) (hc : P.cellsOf e = 2)
    (h : DataW.trod enc P W base sp held fuel t cs = some x) : ∃ v ps, cs = [v] ∧ OldSp W v ps := by
  rcases DataW.trod_slice ht h with ⟨rfl, _⟩ | ⟨a, len, cap, elems, rest, n, _, rfl, _, _, _, _, hlen, hel, _, _⟩
  · exact ⟨_, [], rfl, none, 0, rfl, fun k p hp => by simp at hp⟩
  · have each : ∀ i, ∃ p : RS, i < len → wfR p ∧ ∀ (j : Nat) (u : Value), (rawC p)[j]? = some u → W.cell? ((a.add (i * 2)).add j) = some u := by
      intro i
      by_cases hi : i < len
      · have h3 := hel i hi
        rw [List.getElem?_eq_getElem (by omega), hc, Option.bind_eq_some_iff] at h3
        obtain ⟨cs, hcs, hy⟩ := h3
        obtain ⟨p, rfl, hw⟩ := raw_trod he o0 o1 i0 i1 c0 c1 hc hy
        refine ⟨p, fun _ => ⟨hw, fun j u hj => ?_⟩⟩
        rw [(World.cells?_some hcs).2.2 j (by have := (List.getElem?_eq_some_iff.1 hj).1; simpa [rawC] using this), hj]
      · exact ⟨(0, 0), fun h => absurd h hi⟩
    obtain ⟨F, hF⟩ := Classical.axiomOfChoice each
    refine ⟨_, (List.range len).map F, rfl, some a, cap, by simp, fun i o hi => ?_⟩
    simp only [List.getElem?_map, Option.map_eq_some_iff] at hi
    obtain ⟨k, hk, rfl⟩ := hi
    obtain ⟨hk1, hk2⟩ := List.getElem?_eq_some_iff.1 hk
    simp at hk1 hk2
    subst hk2
    exact ⟨(hF i hk1).1, a, rfl, (hF i hk1).2⟩
end
/-- a call -/
structure OpV where
  kind : Int
  i : Int
  j : Int
  lv : Value
  ls : List RS
  by_ : Int
  plus : Int
def opC (o : OpV) : List Value := [.int .i64 o.kind, .int .i64 o.i, .int .i64 o.j, o.lv, .int .i64 o.by_, .int .i64 o.plus]
structure OpWf (W : World) (o : OpV) : Prop where
  kind : I64 o.kind
  i : I64 o.i
  j : I64 o.j
  sp : OldSp W o.lv o.ls
  by_ : I64 o.by_
  plus : I64 o.plus
  one : o.lv.oneCell' = true
def OpsAt (W : World) (v : Value) (os : List OpV) : Prop :=
  ∃ a cap, v = .slice a os.length cap ∧ ∀ (k : Nat) (o : OpV), os[k]? = some o → OpWf W o ∧ ∃ ad, a = some ad ∧ ∀ (j : Nat) (u : Value), (opC o)[j]? = some u → W.cell? ((ad.add (k * 6)).add j) = some u
section
variable {P : Program} {W : World} {base : Nat} {sp : Nat → Bool} {held : Bool} {H : Type} {enc : TypeId × Value → H}
theorem op_trod {e tS tE : TypeId} {fuel : Nat} {cs : List Value} {x : DataW H × List MemPlace} {f0 f1 f2 f3 f4 f5 g0 g1 : Field} (he : P.underlying e = some (.struct #[f0, f1, f2, f3, f4, f5]))
    (o0 : f0.offset = 0) (o1 : f1.offset = 1) (o2 : f2.offset = 2) (o3 : f3.offset = 3) (o4 : f4.offset = 4) (o5 : f5.offset = 5)
    (i0 : P.underlying f0.type = some (.int .i64)) (i1 : P.underlying f1.type = some (.int .i64)) (i2 : P.underlying f2.type = some (.int .i64)) (i3 : f3.type = tS) (i4 : P.underlying f4.type = some (.int .i64)) (i5 : P.underlying f5.type = some (.int .i64))
    (c0 : P.cellsOf f0.type = 1) (c1 : P.cellsOf f1.type = 1) (c2 : P.cellsOf f2.type = 1) (c3 : P.cellsOf tS = 1) (c4 : P.cellsOf f4.type = 1) (c5 : P.cellsOf f5.type = 1) (hc : P.cellsOf e = 6)
    (sS : P.underlying tS = some (.slice tE)) (sE : P.underlying tE = some (.struct #[g0, g1])) (p0 : g0.offset = 0) (p1 : g1.offset = 1) (j0 : P.underlying g0.type = some (.int .i64)) (j1 : P.underlying g1.type = some (.int .i64)) (d0 : P.cellsOf g0.type = 1) (d1 : P.cellsOf g1.type = 1) (dc : P.cellsOf tE = 2)
    (h : DataW.trod enc P W base sp held fuel e cs = some x) : ∃ o : OpV, cs = opC o ∧ OpWf W o := by
  obtain ⟨xs, m, _, _, hcl, hxl, hx⟩ := DataW.trod_struct he h
  rw [hc] at hcl
  have hxl' : xs.length = 6 := hxl
  have g0 := hx 0 f0 rfl
  have g1 := hx 1 f1 rfl
  have g2 := hx 2 f2 rfl
  have g3 := hx 3 f3 rfl
  have g4 := hx 4 f4 rfl
  have g5 := hx 5 f5 rfl
  rw [o0, c0, List.getElem?_eq_getElem (by omega)] at g0
  rw [o1, c1, List.getElem?_eq_getElem (by omega)] at g1
  rw [o2, c2, List.getElem?_eq_getElem (by omega)] at g2
  rw [i3, o3, c3, List.getElem?_eq_getElem (by omega)] at g3
  rw [o4, c4, List.getElem?_eq_getElem (by omega)] at g4
  rw [o5, c5, List.getElem?_eq_getElem (by omega)] at g5
  obtain ⟨n0, e0, _, w0⟩ := DataW.trod_int i0 g0
  obtain ⟨n1, e1, _, w1⟩ := DataW.trod_int i1 g1
  obtain ⟨n2, e2, _, w2⟩ := DataW.trod_int i2 g2
  obtain ⟨lv, ps, e3, hps⟩ := spans_trod sS sE p0 p1 j0 j1 d0 d1 dc g3
  obtain ⟨n4, e4, _, w4⟩ := DataW.trod_int i4 g4
  obtain ⟨n5, e5, _, w5⟩ := DataW.trod_int i5 g5
  refine ⟨⟨n0, n1, n2, lv, ps, n4, n5⟩, ?_, i64_of_wf w0, i64_of_wf w1, i64_of_wf w2, hps, i64_of_wf w4, i64_of_wf w5, by obtain ⟨a, cap, rfl, _⟩ := hps; rfl⟩
  match cs, hcl with
  | [a, b, c, d, e, f], _ =>
    simp at e0 e1 e2 e3 e4 e5
    rw [e0, e1, e2, e3, e4, e5]; rfl
end
section
variable {W : World} {base : Nat} {sp : Nat → Bool} {held : Bool} {H : Type} {enc : TypeId × Value → H}
theorem opT {fuel : Nat} {cs : List Value} {x : DataW H × List MemPlace} (h : DataW.trod enc Try.prog W base sp held fuel 28 cs = some x) : ∃ o : OpV, cs = opC o ∧ OpWf W o :=
  op_trod (tS := 26) (tE := 34) Try.underlying28 rfl rfl rfl rfl rfl rfl Try.underlying3 Try.underlying3 Try.underlying3 rfl Try.underlying3 Try.underlying3 (by kernel_rfl) (by kernel_rfl) (by kernel_rfl) (by kernel_rfl) (by kernel_rfl) (by kernel_rfl) (by kernel_rfl)
    Try.underlying26 Try.underlying34 rfl rfl Try.underlying3 Try.underlying3 (by kernel_rfl) (by kernel_rfl) (by kernel_rfl) h
theorem ops_of {v : Value} {d : DataW H} {ps : List MemPlace} {r : Reach} {b0 : Nat} (hval : Value.okWide Try.prog W r b0 22 v) (h : DataW.Trod enc Try.prog W base sp held 22 v d ps) : ∃ os, OpsAt W v os := by
  obtain ⟨av, len, cap, rfl⟩ := okWide_slice Try.underlying22 hval
  obtain ⟨fuel, hf⟩ := h
  have hc : Try.prog.cellsOf 28 = 6 := by kernel_rfl
  rcases DataW.trod_slice Try.underlying22 hf with ⟨e1, _⟩ | ⟨a, len', cap', elems, rest, n, _, e1, _, hb, hl, hm, hlen, hel, _, _⟩
  · cases e1
    exact ⟨[], none, 0, rfl, fun i o hi => by simp at hi⟩
  · cases e1
    have each : ∀ i, ∃ o : OpV, i < len → OpWf W o ∧ ∀ (j : Nat) (u : Value), (opC o)[j]? = some u → W.cell? ((a.add (i * 6)).add j) = some u := by
      intro i
      by_cases hi : i < len
      · have h3 := hel i hi
        rw [List.getElem?_eq_getElem (by omega), hc, Option.bind_eq_some_iff] at h3
        obtain ⟨cs, hcs, hy⟩ := h3
        obtain ⟨o, rfl, hw⟩ := opT hy
        refine ⟨o, fun _ => ⟨hw, fun j u hj => ?_⟩⟩
        rw [(World.cells?_some hcs).2.2 j (by have := (List.getElem?_eq_some_iff.1 hj).1; simpa [opC] using this), hj]
      · exact ⟨⟨0, 0, 0, .nilFunc, [], 0, 0⟩, fun h => absurd h hi⟩
    obtain ⟨F, hF⟩ := Classical.axiomOfChoice each
    refine ⟨(List.range len).map F, some a, cap, by simp, fun i o hi => ?_⟩
    simp only [List.getElem?_map, Option.map_eq_some_iff] at hi
    obtain ⟨k, hk, rfl⟩ := hi
    obtain ⟨hk1, hk2⟩ := List.getElem?_eq_some_iff.1 hk
    simp at hk1 hk2
    subst hk2
    exact ⟨(hF i hk1).1, a, rfl, (hF i hk1).2⟩
end
end Go.Proofs.Ytbmdbjnkkbefmaa
