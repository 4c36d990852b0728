/-
The calls that a law of this chapter is handed, as they lie in memory.
-/
import Derived.Test.YtmfkhfmidnojhaaQ0
import Derived.Test.YtmfkhfmidnojhaaR5
import Derived.ProofKit
namespace Go.Proofs.Ytmfkhfmidnojhaa
open Go Go.RowKit Go.ChangeShapes Go.WideShapes Go.ChangeAt
theorem ReadsW.old {E : Env} {R : List SProp} {W : World} {v : Value} {zs : List Int} (h : ReadsW W v .i32 zs) (k : Nat) (hk : R[k]? = some (Old W)) : Reads E R v .i32 zs := fun w hw => by
  obtain ⟨a, cap, rfl, h1, h2, h3⟩ := h
  refine ⟨a, cap, rfl, h1, h2, fun i r hi => ?_⟩
  obtain ⟨a', e, hc⟩ := h3 i r hi
  exact ⟨a', e, hw.oldCell k hk hc⟩
section
variable {P : Program} {f : Nat → Value} {w : World} {d : Option Tmp} {ty : TypeId} {pos : String} {af : Array Edge} {g : Option (Tmp × Bool)}
theorem r_fieldAddrA {T : TypeId} {fs : Array Field} {fd : Field} {x : Operand} {k s : Nat} {a : Addr} (hu : P.underlying T = some (.struct fs)) (hf : fs[k]? = some fd) (hs : ∀ w, (sizeOf fd.type).run P w = .ok s w) (hs0 : (s == 0) = false)
    (hx : ev f x = .pointer (some a)) : (execOp (ev f) ⟨d, .fieldAddr T x k, ty, pos, af, g⟩).run P w = .ok (.value (.pointer (some (a.add fd.offset)))) w := by
  have h0 : s ≠ 0 := by simpa using hs0
  simp [execOp, hx, Instr.fieldAt, run_underlying hu, hf, Instr.sureAddr, fieldPlace, hs, h0]
end
/-- a call -/
structure OpV where
  kind : Int
  i : Int
  j : Int
  n : Int
  lv : Value
  ls : List Int
def opC (o : OpV) : List Value := [.int .i64 o.kind, .int .i64 o.i, .int .i64 o.j, .int .i64 o.n, o.lv]
structure OpWf (W : World) (o : OpV) : Prop where
  kind : I64 o.kind
  i : I64 o.i
  j : I64 o.j
  n : I64 o.n
  sp : ReadsW W o.lv .i32 o.ls
def OpsAt (W : World) (v : Value) (os : List OpV) : Prop :=
  ∃ a cap, v = .slice a os.length cap ∧ ∀ (k : Nat) (o : OpV), os[k]? = some o → OpWf W o ∧ ∃ ad, a = some ad ∧ ∀ (j : Nat) (u : Value), (opC o)[j]? = some u → W.cell? ((ad.add (k * 5)).add j) = some u
section
variable {P : Program} {W : World} {base : Nat} {sp : Nat → Bool} {held : Bool} {H : Type} {enc : TypeId × Value → H}
theorem ints_trod {t e : TypeId} {fuel : Nat} {cs : List Value} {x : DataW H × List MemPlace} (ht : P.underlying t = some (.slice e)) (he : P.underlying e = some (.int .i32)) (hc : P.cellsOf e = 1)
    (h : DataW.trod enc P W base sp held fuel t cs = some x) : ∃ v zs, cs = [v] ∧ ReadsW W v .i32 zs := by
  rcases open_ints ht he hc h with ⟨rfl, _⟩ | ⟨a, len, cap, zs, rfl, _, hlc, hcap, hzl, _, hz, _⟩
  · exact ⟨_, [], rfl, none, 0, rfl, Nat.le_refl _, Nat.zero_le _, fun i r hi => by simp at hi⟩
  · have hle : len ≤ zs.length := by rw [hzl]; split <;> omega
    have hl : (zs.take len).length = len := by rw [List.length_take, Nat.min_eq_left hle]
    refine ⟨_, zs.take len, rfl, some a, cap, by rw [hl], by rw [hl]; exact hlc, hcap, fun i r hi => ⟨a, rfl, ?_⟩⟩
    have hlt := (List.getElem?_eq_some_iff.1 hi).1
    rw [hl] at hlt
    rw [List.getElem?_take, if_pos hlt] at hi
    rw [hz i (by omega)]
    simp [List.getD, hi]
theorem op_trod {e tS tE : TypeId} {fuel : Nat} {cs : List Value} {x : DataW H × List MemPlace} {f0 f1 f2 f3 f4 : Field} (he : P.underlying e = some (.struct #[f0, f1, f2, f3, f4]))
    (o0 : f0.offset = 0) (o1 : f1.offset = 1) (o2 : f2.offset = 2) (o3 : f3.offset = 3) (o4 : f4.offset = 4)
    (i0 : P.underlying f0.type = some (.int .i64)) (i1 : P.underlying f1.type = some (.int .i64)) (i2 : P.underlying f2.type = some (.int .i64)) (i3 : P.underlying f3.type = some (.int .i64)) (i4 : f4.type = tS)
    (c0 : P.cellsOf f0.type = 1) (c1 : P.cellsOf f1.type = 1) (c2 : P.cellsOf f2.type = 1) (c3 : P.cellsOf f3.type = 1) (c4 : P.cellsOf tS = 1) (hc : P.cellsOf e = 5)
    (sS : P.underlying tS = some (.slice tE)) (sE : P.underlying tE = some (.int .i32)) (dc : P.cellsOf tE = 1)
    (h : DataW.trod enc P W base sp held fuel e cs = some x) : ∃ o : OpV, cs = opC o ∧ OpWf W o := by
  obtain ⟨xs, m, _, _, hcl, hxl, hx⟩ := DataW.trod_struct he h
  rw [hc] at hcl
  have hxl' : xs.length = 5 := hxl
  have g0 := hx 0 f0 rfl
  have g1 := hx 1 f1 rfl
  have g2 := hx 2 f2 rfl
  have g3 := hx 3 f3 rfl
  have g4 := hx 4 f4 rfl
  rw [o0, c0, List.getElem?_eq_getElem (by omega)] at g0
  rw [o1, c1, List.getElem?_eq_getElem (by omega)] at g1
  rw [o2, c2, List.getElem?_eq_getElem (by omega)] at g2
  rw [o3, c3, List.getElem?_eq_getElem (by omega)] at g3
  rw [i4, o4, c4, List.getElem?_eq_getElem (by omega)] at g4
  obtain ⟨n0, e0, _, w0⟩ := DataW.trod_int i0 g0
  obtain ⟨n1, e1, _, w1⟩ := DataW.trod_int i1 g1
  obtain ⟨n2, e2, _, w2⟩ := DataW.trod_int i2 g2
  obtain ⟨n3, e3, _, w3⟩ := DataW.trod_int i3 g3
  obtain ⟨lv, ps, e4, hps⟩ := ints_trod sS sE dc g4
  refine ⟨⟨n0, n1, n2, n3, lv, ps⟩, ?_, i64_of_wf w0, i64_of_wf w1, i64_of_wf w2, i64_of_wf w3, hps⟩
  match cs, hcl with
  | [a, b, c, d, e], _ =>
    simp at e0 e1 e2 e3 e4
    rw [e0, e1, e2, e3, e4]; rfl
end
section
variable {W : World} {base : Nat} {sp : Nat → Bool} {held : Bool} {H : Type} {enc : TypeId × Value → H}
set_option maxRecDepth 100000 in
theorem opT {fuel : Nat} {cs : List Value} {x : DataW H × List MemPlace} (h : DataW.trod enc Try.prog W base sp held fuel 28 cs = some x) : ∃ o : OpV, cs = opC o ∧ OpWf W o :=
  op_trod (tS := 23) (tE := 21) Try.underlying28 rfl rfl rfl rfl rfl Try.underlying3 Try.underlying3 Try.underlying3 Try.underlying3 rfl (by kernel_rfl) (by kernel_rfl) (by kernel_rfl) (by kernel_rfl) (by kernel_rfl) (by kernel_rfl)
    Try.underlying23 Try.underlying21 (by kernel_rfl) h
set_option maxRecDepth 100000 in
theorem ops_of {v : Value} {d : DataW H} {ps : List MemPlace} {r : Reach} {b0 : Nat} (hval : Value.okWide Try.prog W r b0 22 v) (h : DataW.Trod enc Try.prog W base sp held 22 v d ps) : ∃ os, OpsAt W v os := by
  obtain ⟨av, len, cap, rfl⟩ := okWide_slice Try.underlying22 hval
  obtain ⟨fuel, hf⟩ := h
  have hc : Try.prog.cellsOf 28 = 5 := by kernel_rfl
  rcases DataW.trod_slice Try.underlying22 hf with ⟨e1, _⟩ | ⟨a, len', cap', elems, rest, n, _, e1, _, hb, hl, hm, hlen, hel, _, _⟩
  · cases e1
    exact ⟨[], none, 0, rfl, fun i o hi => by simp at hi⟩
  · cases e1
    have each : ∀ i, ∃ o : OpV, i < len → OpWf W o ∧ ∀ (j : Nat) (u : Value), (opC o)[j]? = some u → W.cell? ((a.add (i * 5)).add j) = some u := by
      intro i
      by_cases hi : i < len
      · have h3 := hel i hi
        rw [List.getElem?_eq_getElem (by omega), hc, Option.bind_eq_some_iff] at h3
        obtain ⟨cs, hcs, hy⟩ := h3
        obtain ⟨o, rfl, hw⟩ := opT hy
        refine ⟨o, fun _ => ⟨hw, fun j u hj => ?_⟩⟩
        rw [(World.cells?_some hcs).2.2 j (by have := (List.getElem?_eq_some_iff.1 hj).1; simpa [opC] using this), hj]
      · exact ⟨⟨0, 0, 0, 0, .nilFunc, []⟩, fun h => absurd h hi⟩
    obtain ⟨F, hF⟩ := Classical.axiomOfChoice each
    refine ⟨(List.range len).map F, some a, cap, by simp, fun i o hi => ?_⟩
    simp only [List.getElem?_map, Option.map_eq_some_iff] at hi
    obtain ⟨k, hk, rfl⟩ := hi
    obtain ⟨hk1, hk2⟩ := List.getElem?_eq_some_iff.1 hk
    simp at hk1 hk2
    subst hk2
    exact ⟨(hF i hk1).1, a, rfl, (hF i hk1).2⟩
set_option maxRecDepth 100000 in
theorem op_of {v : Value} {d : DataW H} {ps : List MemPlace} {r : Reach} {b0 : Nat} (hval : Value.okWide Try.prog W r b0 28 v) (h : DataW.Trod enc Try.prog W base sp held 28 v d ps) : ∃ o, v = .agg (opC o).toArray ∧ OpWf W o := by
  obtain ⟨cs, rfl, _⟩ := okWide_struct Try.underlying28 hval
  obtain ⟨fuel, hf⟩ := h
  obtain ⟨o, e, hw⟩ := opT hf
  exact ⟨o, by rw [← e]; rfl, hw⟩
end
section
variable {E : Env} {R : List SProp} {w : World} {b B B' : Nat} {t zs : List Int} {v : Value}
theorem insert_any {i : Int} (hv : Reads E R v .i32 zs) (hB : t.length + zs.length + 4 ≤ B') (hBB : B ≤ B') (hB' : B' ≤ 1000000) (h : SatL E w (Rp b t B :: R)) :
    Calls Try.prog 13 #[pT b, .int .i64 i, v] w (Ret fun u w' => ∃ (e : Int) (t' : List Int), u = .int .i64 e ∧ t'.length ≤ t.length + zs.length ∧ SatL E w' (Rp b t' B' :: R)) := by
  refine Calls.ret_mono (insertR hv hB hBB hB' h) fun u w h => ⟨_, _, h.1, ?_, h.2⟩
  unfold insT
  split
  · simp only [List.length_append, List.length_take, List.length_drop]; omega
  · omega
theorem delete_any {i j : Int} (hB : t.length + 4 ≤ B') (hBB : B ≤ B') (hB' : B' ≤ 100000000) (h : SatL E w (Rp b t B :: R)) :
    Calls Try.prog 12 #[pT b, .int .i64 i, .int .i64 j] w (Ret fun u w' => ∃ (e : Int) (t' : List Int), u = .int .i64 e ∧ t'.length ≤ t.length ∧ SatL E w' (Rp b t' B' :: R)) := by
  by_cases hp : isPart t.length i j
  · refine Calls.ret_mono (deleteR hp hB hBB hB' h) fun u w h => ⟨_, _, h.1, ?_, h.2⟩
    obtain ⟨h0, h1, h2⟩ := hp
    simp only [List.length_append, List.length_take, List.length_drop]; omega
  · exact Calls.ret_mono (delete_no hp h) fun u w h => ⟨_, _, h.1, Nat.le_refl _, h.2.rpMono hBB⟩
end
end Go.Proofs.Ytmfkhfmidnojhaa
