/-
The calls that a law of this chapter is handed, as they lie in memory.
-/
import Derived.Test.YtonnijghdlakfaaU10
import Derived.ProofKit
namespace Go.Proofs.Ytonnijghdlakfaa
open Go Go.RowKit Go.ChangeShapes Go.WideShapes Go.ChangeAt
theorem Try.own : ownKnob Try.prog.godebug = none := by kernel_rfl
theorem Try.laidOut : laidOutB Try.prog = true := by kernel_rfl
theorem Ret.out {T : Value → World → Prop} {e : Ending} {w : World} (h : Ret T e w) : ∃ v, e = .returned v ∧ T v w := by
  cases e <;> first | exact ⟨_, rfl, h⟩ | exact h.elim
theorem i64_of_wf {r : Int} (h : (Lit.int .i64 r).wf = true) : I64 r := by
  simp [Lit.wf, IntKind.min, IntKind.max, IntKind.bits, IntKind.signed] at h
  unfold I64
  omega
/-- elements that lie in memory behind a slice -/
def ElAt {α : Type} (W : World) (toC : α → List Value) (K : Nat) (v : Value) (ps : List α) : Prop :=
  ∃ a cap, v = .slice a ps.length cap ∧ ps.length ≤ cap ∧ ∀ (k : Nat) (p : α), ps[k]? = some p → ∃ ad, a = some ad ∧ ∀ (j : Nat) (u : Value), (toC p)[j]? = some u → W.cell? ((ad.add (k * K)).add j) = some u
section
variable {P : Program} {W : World} {base : Nat} {sp : Nat → Bool} {held : Bool} {H : Type} {enc : TypeId × Value → H}
theorem slice_trod {α : Type} [Inhabited α] {t e : TypeId} {K : Nat} (toC : α → List Value) (wf : α → Prop) {fuel : Nat} {cs : List Value} {x : DataW H × List MemPlace} (ht : P.underlying t = some (.slice e)) (hc : P.cellsOf e = K) (hK : ∀ p, (toC p).length = K)
    (hel1 : ∀ {fuel : Nat} {cs : List Value} {x : DataW H × List MemPlace}, DataW.trod enc P W base sp held fuel e cs = some x → ∃ p, cs = toC p ∧ wf p)
    (h : DataW.trod enc P W base sp held fuel t cs = some x) : ∃ v ps, cs = [v] ∧ ElAt W toC K v ps ∧ (∀ p ∈ ps, wf p) ∧ (ps = [] ∨ ∃ els rest, x.1 = .slice els rest ∧ els.length = ps.length) := by
  rcases DataW.trod_slice ht h with ⟨rfl, _⟩ | ⟨a, len, cap, elems, rest, n, _, rfl, hxe, _, hlc, _, hlen, hel, _, _⟩
  · exact ⟨_, [], rfl, ⟨none, 0, rfl, Nat.le_refl _, fun k p hp => by simp at hp⟩, by simp, .inl rfl⟩
  · have each : ∀ i, ∃ p : α, i < len → wf p ∧ ∀ (j : Nat) (u : Value), (toC p)[j]? = some u → W.cell? ((a.add (i * K)).add j) = some u := by
      intro i
      by_cases hi : i < len
      · have h3 := hel i hi
        rw [List.getElem?_eq_getElem (by omega), hc, Option.bind_eq_some_iff] at h3
        obtain ⟨cs, hcs, hy⟩ := h3
        obtain ⟨p, rfl, hw⟩ := hel1 hy
        refine ⟨p, fun _ => ⟨hw, fun j u hj => ?_⟩⟩
        rw [(World.cells?_some hcs).2.2 j (by have := (List.getElem?_eq_some_iff.1 hj).1; rw [hK] at this; exact this), hj]
      · exact ⟨default, fun h => absurd h hi⟩
    obtain ⟨F, hF⟩ := Classical.axiomOfChoice each
    have hcap : len ≤ cap := by first | exact hlc | omega
    refine ⟨_, (List.range len).map F, rfl, ⟨some a, cap, by simp, by simpa using hcap, fun i o hi => ?_⟩, fun p hp => ?_, .inr ⟨elems.map (·.1), rest.map (·.1), by rw [hxe], by simp [hlen]⟩⟩
    · simp only [List.getElem?_map, Option.map_eq_some_iff] at hi
      obtain ⟨k, hk, rfl⟩ := hi
      obtain ⟨hk1, hk2⟩ := List.getElem?_eq_some_iff.1 hk
      simp at hk1 hk2
      subst hk2
      exact ⟨a, rfl, (hF i hk1).2⟩
    · obtain ⟨k, hk, rfl⟩ := List.mem_map.1 hp
      exact (hF k (by simpa using hk)).1
theorem value_trod {e : TypeId} {fuel : Nat} {cs : List Value} {x : DataW H × List MemPlace} {f0 f1 f2 f3 : Field} (he : P.underlying e = some (.struct #[f0, f1, f2, f3])) (o0 : f0.offset = 0) (o1 : f1.offset = 1) (o2 : f2.offset = 2) (o3 : f3.offset = 3)
    (i0 : P.underlying f0.type = some (.int .u8)) (i1 : P.underlying f1.type = some (.int .i64)) (i2 : P.underlying f2.type = some (.int .u64)) (i3 : P.underlying f3.type = some .string) (c0 : P.cellsOf f0.type = 1) (c1 : P.cellsOf f1.type = 1) (c2 : P.cellsOf f2.type = 1) (c3 : P.cellsOf f3.type = 1) (hc : P.cellsOf e = 4)
    (h : DataW.trod enc P W base sp held fuel e cs = some x) : ∃ p : Val, cs = valC p ∧ wfV p := by
  obtain ⟨xs, m, _, _, hcl, hxl, hx⟩ := DataW.trod_struct he h
  rw [hc] at hcl
  have hxl' : xs.length = 4 := hxl
  have g0 := hx 0 f0 rfl
  have g1 := hx 1 f1 rfl
  have g2 := hx 2 f2 rfl
  have g3 := hx 3 f3 rfl
  rw [o0, c0, List.getElem?_eq_getElem (by omega)] at g0
  rw [o1, c1, List.getElem?_eq_getElem (by omega)] at g1
  rw [o2, c2, List.getElem?_eq_getElem (by omega)] at g2
  rw [o3, c3, List.getElem?_eq_getElem (by omega)] at g3
  obtain ⟨n0, e0, _, w0⟩ := DataW.trod_int i0 g0
  obtain ⟨n1, e1, _, w1⟩ := DataW.trod_int i1 g1
  obtain ⟨n2, e2, _, w2⟩ := DataW.trod_int i2 g2
  obtain ⟨n3, e3, _, w3⟩ := DataW.trod_string i3 g3
  refine ⟨(n0, n1, n2, n3), ?_, w0, w1, w2, w3⟩
  match cs, hcl with
  | [a, b, c, d], _ =>
    simp at e0 e1 e2 e3
    rw [e0, e1, e2, e3]; rfl
theorem attr_trod {e : TypeId} {fuel : Nat} {cs : List Value} {x : DataW H × List MemPlace} {f0 f1 : Field} (he : P.underlying e = some (.struct #[f0, f1])) (o0 : f0.offset = 0) (o1 : f1.offset = 1)
    (i0 : P.underlying f0.type = some (.int .i64)) (hv : ∀ {fuel : Nat} {cs : List Value} {x : DataW H × List MemPlace}, DataW.trod enc P W base sp held fuel f1.type cs = some x → ∃ p : Val, cs = valC p ∧ wfV p) (c0 : P.cellsOf f0.type = 1) (c1 : P.cellsOf f1.type = 4) (hc : P.cellsOf e = 5)
    (h : DataW.trod enc P W base sp held fuel e cs = some x) : ∃ p : Atr, cs = atC p ∧ wfA p := by
  obtain ⟨xs, m, _, _, hcl, hxl, hx⟩ := DataW.trod_struct he h
  rw [hc] at hcl
  have hxl' : xs.length = 2 := hxl
  have g0 := hx 0 f0 rfl
  have g1 := hx 1 f1 rfl
  rw [o0, c0, List.getElem?_eq_getElem (by omega)] at g0
  rw [o1, c1, List.getElem?_eq_getElem (by omega)] at g1
  obtain ⟨n0, e0, _, w0⟩ := DataW.trod_int i0 g0
  obtain ⟨q, e1, w1⟩ := hv g1
  refine ⟨(n0, q), ?_, w0, w1⟩
  match cs, hcl with
  | [a, b, c, d, e], _ =>
    simp [valC] at e0 e1
    obtain ⟨e1, e2, e3, e4⟩ := e1
    rw [e0, e1, e2, e3, e4]; rfl
theorem chg_trod {e : TypeId} {fuel : Nat} {cs : List Value} {x : DataW H × List MemPlace} {f0 f1 f2 : Field} (he : P.underlying e = some (.struct #[f0, f1, f2])) (o0 : f0.offset = 0) (o1 : f1.offset = 1) (o2 : f2.offset = 2)
    (i0 : P.underlying f0.type = some (.int .i64)) (i1 : P.underlying f1.type = some .bool) (hv : ∀ {fuel : Nat} {cs : List Value} {x : DataW H × List MemPlace}, DataW.trod enc P W base sp held fuel f2.type cs = some x → ∃ p : Val, cs = valC p ∧ wfV p)
    (c0 : P.cellsOf f0.type = 1) (c1 : P.cellsOf f1.type = 1) (c2 : P.cellsOf f2.type = 4) (hc : P.cellsOf e = 6)
    (h : DataW.trod enc P W base sp held fuel e cs = some x) : ∃ p : Chg, cs = cgC p ∧ wfC p := by
  obtain ⟨xs, m, _, _, hcl, hxl, hx⟩ := DataW.trod_struct he h
  rw [hc] at hcl
  have hxl' : xs.length = 3 := hxl
  have g0 := hx 0 f0 rfl
  have g1 := hx 1 f1 rfl
  have g2 := hx 2 f2 rfl
  rw [o0, c0, List.getElem?_eq_getElem (by omega)] at g0
  rw [o1, c1, List.getElem?_eq_getElem (by omega)] at g1
  rw [o2, c2, List.getElem?_eq_getElem (by omega)] at g2
  obtain ⟨n0, e0, _, w0⟩ := DataW.trod_int i0 g0
  obtain ⟨n1, e1, _⟩ := DataW.trod_bool i1 g1
  obtain ⟨q, e2, w2⟩ := hv g2
  refine ⟨(n0, n1, q), ?_, w0, w2⟩
  match cs, hcl with
  | [a, b, c, d, e, f], _ =>
    simp [valC] at e0 e1 e2
    obtain ⟨e2, e3, e4, e5⟩ := e2
    rw [e0, e1, e2, e3, e4, e5]; rfl
end
abbrev AAt (W : World) (v : Value) (l : List Atr) : Prop := ElAt W atC 5 v l
abbrev CAt (W : World) (v : Value) (l : List Chg) : Prop := ElAt W cgC 6 v l
/-- a set with its slice -/
abbrev Vs := Value × List Atr
def vsC (p : Vs) : List Value := [p.1]
def SAt (W : World) (v : Value) (ps : List Vs) : Prop := ElAt W vsC 1 v ps ∧ ∀ p ∈ ps, AAt W p.1 p.2
section
variable {E : Env} {R : List SProp} {W : World}
theorem ElAt.areads {v : Value} {l : List Atr} (h : AAt W v l) (k : Nat) (hk : R[k]? = some (Old W)) : AReads E R v l := by
  obtain ⟨a, cap, rfl, h0, h1⟩ := h
  refine ⟨a, cap, rfl, h0, fun w hw i p hp => ?_⟩
  obtain ⟨ad, rfl, h2⟩ := h1 i p hp
  exact ⟨ad, rfl, fun j u hj => hw.oldCell k hk (h2 j u hj)⟩
theorem ElAt.creads {v : Value} {l : List Chg} (h : CAt W v l) (k : Nat) (hk : R[k]? = some (Old W)) : CReads E R v l := by
  obtain ⟨a, cap, rfl, h0, h1⟩ := h
  refine ⟨a, cap, rfl, fun w hw i p hp => ?_⟩
  obtain ⟨ad, rfl, h2⟩ := h1 i p hp
  exact ⟨ad, rfl, fun j u hj => hw.oldCell k hk (h2 j u hj)⟩
theorem SAt.sreads {v : Value} {ps : List Vs} (h : SAt W v ps) (k : Nat) (hk : R[k]? = some (Old W)) : SReads E R v (ps.map Prod.fst) (ps.map Prod.snd) := by
  obtain ⟨⟨a, cap, rfl, h0, h1⟩, h3⟩ := h
  refine ⟨a, cap, by simp, by simpa using h0, by simp, fun w hw i x hx => ?_, fun i x l hx hl => ?_⟩
  · simp only [List.getElem?_map, Option.map_eq_some_iff] at hx
    obtain ⟨p, hp, rfl⟩ := hx
    obtain ⟨ad, rfl, h2⟩ := h1 i p hp
    have := h2 0 p.1 rfl
    rw [Nat.mul_one, Addr.add_add, Nat.add_zero] at this
    exact ⟨ad, rfl, hw.oldCell k hk this⟩
  · simp only [List.getElem?_map, Option.map_eq_some_iff] at hx hl
    obtain ⟨p, hp, rfl⟩ := hx
    obtain ⟨q, hq, rfl⟩ := hl
    rw [hp] at hq
    cases hq
    exact (h3 p (List.mem_of_getElem? hp)).areads k hk
end
/-- a call -/
structure OpV where
  kind : Int
  k : Int
  m : Int
  lv : Value
  ls : List Vs
  xv : Value
  cs : List Chg
instance : Inhabited OpV := ⟨⟨0, 0, 0, .nilFunc, [], .nilFunc, []⟩⟩
def OpV.sets (o : OpV) : List (List Atr) := o.ls.map Prod.snd
def opC (o : OpV) : List Value := [.int .i64 o.kind, .int .i64 o.k, .int .i64 o.m, o.lv, o.xv]
structure OpWf (W : World) (o : OpV) : Prop where
  kind : I64 o.kind
  k : I64 o.k
  m : I64 o.m
  sp : SAt W o.lv o.ls
  cp : CAt W o.xv o.cs
  wfs : ∀ p ∈ o.ls, ∀ a ∈ p.2, wfA a
  wfc : ∀ c ∈ o.cs, wfC c
def OpsAt (W : World) (v : Value) (os : List OpV) : Prop := ElAt W opC 5 v os ∧ ∀ o ∈ os, OpWf W o
section
variable {P : Program} {W : World} {base : Nat} {sp : Nat → Bool} {held : Bool} {H : Type} {enc : TypeId × Value → H}
theorem op_trod {e tS tC : TypeId} {fuel : Nat} {cs : List Value} {x : DataW H × List MemPlace} {f0 f1 f2 f3 f4 : Field} (he : P.underlying e = some (.struct #[f0, f1, f2, f3, f4]))
    (o0 : f0.offset = 0) (o1 : f1.offset = 1) (o2 : f2.offset = 2) (o3 : f3.offset = 3) (o4 : f4.offset = 4)
    (i0 : P.underlying f0.type = some (.int .i64)) (i1 : P.underlying f1.type = some (.int .i64)) (i2 : P.underlying f2.type = some (.int .i64)) (i3 : f3.type = tS) (i4 : f4.type = tC)
    (c0 : P.cellsOf f0.type = 1) (c1 : P.cellsOf f1.type = 1) (c2 : P.cellsOf f2.type = 1) (c3 : P.cellsOf tS = 1) (c4 : P.cellsOf tC = 1) (hc : P.cellsOf e = 5)
    (hS : ∀ {fuel : Nat} {cs : List Value} {x : DataW H × List MemPlace}, DataW.trod enc P W base sp held fuel tS cs = some x → ∃ v ps, cs = [v] ∧ SAt W v ps ∧ ∀ p ∈ ps, ∀ a ∈ p.2, wfA a)
    (hC : ∀ {fuel : Nat} {cs : List Value} {x : DataW H × List MemPlace}, DataW.trod enc P W base sp held fuel tC cs = some x → ∃ v ps, cs = [v] ∧ CAt W v ps ∧ ∀ p ∈ ps, wfC p)
    (h : DataW.trod enc P W base sp held fuel e cs = some x) : ∃ o : OpV, cs = opC o ∧ OpWf W o := by
  obtain ⟨xs, m, _, _, hcl, hxl, hx⟩ := DataW.trod_struct he h
  rw [hc] at hcl
  have hxl' : xs.length = 5 := hxl
  have g0 := hx 0 f0 rfl
  have g1 := hx 1 f1 rfl
  have g2 := hx 2 f2 rfl
  have g3 := hx 3 f3 rfl
  have g4 := hx 4 f4 rfl
  rw [o0, c0, List.getElem?_eq_getElem (by omega)] at g0
  rw [o1, c1, List.getElem?_eq_getElem (by omega)] at g1
  rw [o2, c2, List.getElem?_eq_getElem (by omega)] at g2
  rw [i3, o3, c3, List.getElem?_eq_getElem (by omega)] at g3
  rw [i4, o4, c4, List.getElem?_eq_getElem (by omega)] at g4
  obtain ⟨n0, e0, _, w0⟩ := DataW.trod_int i0 g0
  obtain ⟨n1, e1, _, w1⟩ := DataW.trod_int i1 g1
  obtain ⟨n2, e2, _, w2⟩ := DataW.trod_int i2 g2
  obtain ⟨lv, ps, e3, hps, hpw⟩ := hS g3
  obtain ⟨xv, qs, e4, hqs, hqw⟩ := hC g4
  refine ⟨⟨n0, n1, n2, lv, ps, xv, qs⟩, ?_, i64_of_wf w0, i64_of_wf w1, i64_of_wf w2, hps, hqs, hpw, hqw⟩
  match cs, hcl with
  | [a, b, c, d, e], _ =>
    simp at e0 e1 e2 e3 e4
    rw [e0, e1, e2, e3, e4]; rfl
end
section
variable {W : World} {base : Nat} {sp : Nat → Bool} {held : Bool} {H : Type} {enc : TypeId × Value → H}
theorem valT {fuel : Nat} {cs : List Value} {x : DataW H × List MemPlace} (h : DataW.trod enc Try.prog W base sp held fuel 44 cs = some x) : ∃ p : Val, cs = valC p ∧ wfV p :=
  value_trod Try.underlying44 rfl rfl rfl rfl Try.underlying5 Try.underlying2 Try.underlying42 Try.underlying9 (by kernel_rfl) (by kernel_rfl) (by kernel_rfl) (by kernel_rfl) (by kernel_rfl) h
theorem attrT {fuel : Nat} {cs : List Value} {x : DataW H × List MemPlace} (h : DataW.trod enc Try.prog W base sp held fuel 72 cs = some x) : ∃ p : Atr, cs = atC p ∧ wfA p :=
  attr_trod Try.underlying72 rfl rfl Try.underlying3 valT (by kernel_rfl) (by kernel_rfl) (by kernel_rfl) h
theorem chgT {fuel : Nat} {cs : List Value} {x : DataW H × List MemPlace} (h : DataW.trod enc Try.prog W base sp held fuel 46 cs = some x) : ∃ p : Chg, cs = cgC p ∧ wfC p :=
  chg_trod Try.underlying46 rfl rfl rfl Try.underlying3 Try.underlying4 valT (by kernel_rfl) (by kernel_rfl) (by kernel_rfl) (by kernel_rfl) h
theorem setT {fuel : Nat} {cs : List Value} {x : DataW H × List MemPlace} (h : DataW.trod enc Try.prog W base sp held fuel 38 cs = some x) : ∃ v ps, cs = [v] ∧ AAt W v ps ∧ ∀ p ∈ ps, wfA p :=
  let ⟨v, ps, h1, h2, h3, _⟩ := slice_trod (K := 5) atC wfA Try.underlying38 (by kernel_rfl) (fun _ => rfl) attrT h
  ⟨v, ps, h1, h2, h3⟩
set_option maxRecDepth 100000 in
theorem patchT {fuel : Nat} {cs : List Value} {x : DataW H × List MemPlace} (h : DataW.trod enc Try.prog W base sp held fuel 24 cs = some x) : ∃ v ps, cs = [v] ∧ CAt W v ps ∧ ∀ p ∈ ps, wfC p :=
  let ⟨v, ps, h1, h2, h3, _⟩ := slice_trod (K := 6) cgC wfC Try.underlying24 (by kernel_rfl) (fun _ => rfl) chgT h
  ⟨v, ps, h1, h2, h3⟩
set_option maxRecDepth 100000 in
theorem setsT {fuel : Nat} {cs : List Value} {x : DataW H × List MemPlace} (h : DataW.trod enc Try.prog W base sp held fuel 23 cs = some x) : ∃ v ps, cs = [v] ∧ SAt W v ps ∧ ∀ p ∈ ps, ∀ a ∈ p.2, wfA a := by
  obtain ⟨v, ps, e, h1, h2, _⟩ := slice_trod (α := Vs) (K := 1) vsC (fun p => AAt W p.1 p.2 ∧ ∀ a ∈ p.2, wfA a) Try.underlying23 (by kernel_rfl) (fun _ => rfl) (fun h => by
    obtain ⟨v, ps, rfl, h1, h2⟩ := setT h
    exact ⟨(v, ps), rfl, h1, h2⟩) h
  exact ⟨v, ps, e, ⟨h1, fun p hp => (h2 p hp).1⟩, fun p hp => (h2 p hp).2⟩
set_option maxRecDepth 100000 in
theorem opT {fuel : Nat} {cs : List Value} {x : DataW H × List MemPlace} (h : DataW.trod enc Try.prog W base sp held fuel 26 cs = some x) : ∃ o : OpV, cs = opC o ∧ OpWf W o :=
  op_trod (tS := 23) (tC := 24) Try.underlying26 rfl rfl rfl rfl rfl Try.underlying3 Try.underlying3 Try.underlying3 rfl rfl (by kernel_rfl) (by kernel_rfl) (by kernel_rfl) (by kernel_rfl) (by kernel_rfl) (by kernel_rfl) setsT patchT h
set_option maxRecDepth 100000 in
theorem ops_of {v : Value} {d : DataW H} {ps : List MemPlace} {r : Reach} {b0 : Nat} (hval : Value.okWide Try.prog W r b0 22 v) (h : DataW.Trod enc Try.prog W base sp held 22 v d ps) : ∃ os, OpsAt W v os ∧ (os = [] ∨ ∃ els rest, d = .slice els rest ∧ els.length = os.length) := by
  obtain ⟨av, len, cap, rfl⟩ := okWide_slice Try.underlying22 hval
  obtain ⟨fuel, hf⟩ := h
  obtain ⟨v, os, e, h1, h2, h3⟩ := slice_trod (α := OpV) (K := 5) opC (OpWf W) Try.underlying22 (by kernel_rfl) (fun _ => rfl) opT hf
  have e2 : Value.slice av len cap = v := by
    have : (Value.slice av len cap).cells.toList = [Value.slice av len cap] := rfl
    rw [this] at e
    exact (List.cons.inj e).1
  subst e2
  exact ⟨os, ⟨h1, h2⟩, h3⟩
set_option maxRecDepth 100000 in
theorem op_of {v : Value} {d : DataW H} {ps : List MemPlace} {r : Reach} {b0 : Nat} (hval : Value.okWide Try.prog W r b0 26 v) (h : DataW.Trod enc Try.prog W base sp held 26 v d ps) : ∃ o, v = .agg (opC o).toArray ∧ OpWf W o := by
  obtain ⟨cs, rfl, _⟩ := okWide_struct Try.underlying26 hval
  obtain ⟨fuel, hf⟩ := h
  obtain ⟨o, e, hw⟩ := opT hf
  exact ⟨o, by rw [← e]; rfl, hw⟩
end
end Go.Proofs.Ytonnijghdlakfaa
