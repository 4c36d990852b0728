/-
patch.Apply.
-/
import Derived.Test.YtonnijghdlakfaaU7
namespace Go.Proofs.Ytonnijghdlakfaa
open Go Go.RowKit
theorem aflat_app (l m : List Atr) : aflat (l ++ m) = aflat l ++ aflat m := by simp [aflat]
theorem aflat_single (a : Atr) : aflat [a] = atC a := by simp [aflat]
theorem ok_at (a : Atr) : Ok (1 * 5) (atC a).toArray := ⟨rfl, by simp [atC, Value.oneCell']⟩
theorem ok_at5 (a : Atr) : Ok 5 (atC a).toArray := ok_at a
theorem ok_cg (c : Chg) : Ok 6 (cgC c).toArray := ⟨rfl, by simp [cgC, Value.oneCell']⟩
theorem zAttr : ∀ w, (zeroValue 72).run Try.prog w = .ok (.agg #[.int .i64 0, .int .u8 0, .int .i64 0, .int .u64 0, .string ⟨#[]⟩]) w := fun _ => by kernel_rfl
section
variable {P : Program} {f : Nat → Value} {w : World} {d : Option Tmp} {ty : TypeId} {pos : String} {af : Array Edge} {g : Option (Tmp × Bool)}
/-- a struct of a cell and of four -/
theorem r_build14 {T : TypeId} {f0 f1 : Field} {x y : Operand} {zs : Array Value} {v0 a b c e : Value} (hu : P.underlying T = some (.struct #[f0, f1])) (hz : ∀ w, (zeroValue T).run P w = .ok (.agg zs) w) (hzl : zs.size = 5) (hs0 : ∀ w, (sizeOf f0.type).run P w = .ok 1 w) (hs1 : ∀ w, (sizeOf f1.type).run P w = .ok 4 w) (o0 : f0.offset = 0) (o1 : f1.offset = 1)
    (hx : ev f x = v0) (h1 : v0.cells = #[v0]) (hy : ev f y = .agg #[a, b, c, e]) :
    (execOp (ev f) ⟨d, .build T #[(0, x), (1, y)], ty, pos, af, g⟩).run P w = .ok (.value (.agg #[v0, a, b, c, e])) w := by
  match zs, hzl with
  | ⟨[z0, z1, z2, z3, z4]⟩, _ =>
    have e0 : (Value.agg #[z0, z1, z2, z3, z4]).cells = #[z0, z1, z2, z3, z4] := rfl
    have e1 : (Value.agg #[a, b, c, e]).cells = #[a, b, c, e] := rfl
    have hf : Instr.fill (fun i => [(0, 1), (1, 4)][i]?) #[z0, z1, z2, z3, z4] [(0, v0), (1, Value.agg #[a, b, c, e])] = some #[v0, a, b, c, e] := by
      simp [Instr.fill, h1, e1]
    simp [execOp, Instr.build, hz, run_underlying hu, hs0, hs1, o0, o1, hx, hy, e0, hf]
/-- s[l:] where s lies anywhere -/
theorem r_sliceFromA {T e : TypeId} {x y : Operand} {s : Nat} {kk : IntKind} {a : Addr} {len cap l : Nat} (hu : P.underlying T = some (.slice e)) (hs : ∀ w, (sizeOf e).run P w = .ok s w)
    (hx : ev f x = .slice (some a) len cap) (hy : ev f y = .int kk (l : Int)) (h1 : l < len) (h2 : len ≤ cap) :
    (execOp (ev f) ⟨d, .slice T x (some y) none none, ty, pos, af, g⟩).run P w = .ok (.value (.slice (some (a.add (l * s))) (len - l) (cap - l))) w := by
  have h3 : l ≤ len := by omega
  have hc : ¬ cap = l := by omega
  simp [execOp, hx, hy, Instr.sliceAt, Instr.slice, Instr.sliceBounds, Instr.sliceBound, asIntOf, run_underlying hu, hs, h3, h2, hc]
/-- s[len(s):] -/
theorem r_sliceEnd {T e : TypeId} {x y : Operand} {s : Nat} {kk : IntKind} {a : Option Addr} {len cap : Nat} (hu : P.underlying T = some (.slice e)) (hs : ∀ w, (sizeOf e).run P w = .ok s w)
    (hx : ev f x = .slice a len cap) (hy : ev f y = .int kk (len : Int)) (h2 : len ≤ cap) :
    (execOp (ev f) ⟨d, .slice T x (some y) none none, ty, pos, af, g⟩).run P w = .ok (.value (.slice (if cap = len then a else a.map (fun b => b.add (len * s))) 0 (cap - len))) w := by
  by_cases hc : cap = len
  · subst hc
    cases a <;> simp [execOp, hx, hy, Instr.sliceAt, Instr.slice, Instr.sliceBounds, Instr.sliceBound, asIntOf, run_underlying hu, hs]
  · cases a <;> simp [execOp, hx, hy, Instr.sliceAt, Instr.slice, Instr.sliceBounds, Instr.sliceBound, asIntOf, run_underlying hu, hs, h2, hc]
theorem append_none_run {t ty e : TypeId} {i : TypeInfo} {base a2 : Option Addr} {sLen sCap c2 : Nat} (ht : P.underlying t = some (.slice e)) (hi : P.info? e = some i) (hle : sLen ≤ sCap) :
    (Builtin.append_ #[t, t] ty #[.slice base sLen sCap, .slice a2 0 c2]).run P w = .ok (.slice base sLen sCap) w := by
  have hl : ∀ (x : Addr), (loadCells x 0).run P w = .ok #[] w := fun x => by simpa using run_loadCells_list (P := P) w x [] (by simp)
  cases base <;> cases a2 <;> simp [Builtin.append_, run_underlying ht, sizeOf, typeInfo, hi, Builtin.lenOf, Builtin.firstCells, hle, storeCells, hl]
end
section
variable {E : Env} {R : List SProp} {w : World} {v v2 : Value} {l : List Atr} {X : List Chg}
theorem drop_get {α : Type} {l : List α} {k : Nat} {x : α} (h : l[k]? = some x) : l.drop k = x :: l.drop (k + 1) := by
  have hk := (List.getElem?_eq_some_iff.1 h).1
  rw [List.drop_eq_getElem_cons hk, (List.getElem?_eq_some_iff.1 h).2]
theorem SatL.arow {u : Value} {out : List Atr} {x : Atr} {L : List SProp} (h : SatL E w (Row 72 5 u (out.length + 1) (aflat out ++ (atC x).toArray.toList) :: L)) : SatL E w (ARow u (out ++ [x]) :: L) := by
  unfold ARow
  rw [aflat_app, aflat_single, List.length_append]
  exact h
theorem areads_all {E : Env} {R : List SProp} {v : Value} {l : List Atr} (hv : AReads E R v l) {i : Nat} (hi : i < l.length) (h : SatL E w R) : ∃ a cap, v = .slice (some a) l.length cap ∧ ∀ (j : Nat) (u : Value), (aflat (l.drop i))[j]? = some u → w.cell? ((a.add (i * 5)).add j) = some u := by
  obtain ⟨a, cap, rfl, _, hrd⟩ := hv
  obtain ⟨p, hp⟩ : ∃ p, l[i]? = some p := ⟨_, List.getElem?_eq_getElem hi⟩
  obtain ⟨ad, rfl, _⟩ := hrd w h i p hp
  refine ⟨ad, cap, rfl, fun j u hj => ?_⟩
  have hjl := (List.getElem?_eq_some_iff.1 hj).1
  rw [aflat_len] at hjl
  obtain ⟨x, hx⟩ : ∃ x, (l.drop i)[j / 5]? = some x := ⟨_, List.getElem?_eq_getElem (by omega)⟩
  have h2 := aflat_get hx (j % 5) (by omega)
  rw [show j / 5 * 5 + j % 5 = j by omega, hj] at h2
  rw [List.getElem?_drop] at hx
  obtain ⟨ad', e, hc⟩ := hrd w h (i + j / 5) x hx
  cases e
  have h3 := hc (j % 5) u h2.symm
  rw [Addr.add_add] at h3 ⊢
  rw [show i * 5 + j = (i + j / 5) * 5 + j % 5 by omega]
  exact h3
theorem apply_ok (hv : AReads E R v l) (hX : CReads E R v2 X) (hb : l.length ≤ 100000) (hb2 : X.length ≤ 100000) (h : SatL E w R) :
    Calls Try.prog 28 #[v, v2] w (Ret fun u w' => SatL E w' (ARow u (applyL l X) :: R)) := by
  have hv0 := hv
  obtain ⟨a, cap, rfl, hcap, hrd⟩ := hv
  obtain ⟨a2, cap2, rfl, hrd2⟩ := hX
  refine calls_x Try.func28 rfl Try.ntmps28 rfl ?_
  refine xc_gen (fun g hg => ?_)
  have s0 := (hg 0).trans arg0
  have s1 := (hg 1).trans arg1
  clear hg
  refine xc_seq (fun K hK1 => ?_)
  refine xc_region ?_
  refine x_val (r_assign ec) (nd_of rfl) rfl ?_
  refine xw_nil ?_
  refine hK1 _ _ ?_
  refine xc_gen (fun g hg => ?_)
  have s0 := (hg 0).trans (en rfl s0)
  have s1 := (hg 1).trans (en rfl s1)
  have s4 := (hg 4).trans es
  clear hg
  refine xc_scope ?_
  refine xc_seq (fun K hK2 => ?_)
  refine xc_region ?_
  refine x_val (r_assign ec) (nd_of rfl) rfl ?_
  refine xw_nil ?_
  refine hK2 _ _ ?_
  refine xc_gen (fun g hg => ?_)
  have s0 := (hg 0).trans (en rfl s0)
  have s1 := (hg 1).trans (en rfl s1)
  have s4 := (hg 4).trans (en rfl s4)
  have s5 := (hg 5).trans es
  clear hg
  refine xc_seq (fun K hK3 => ?_)
  refine xc_region ?_
  refine x_val (r_assign ec) (nd_of rfl) rfl ?_
  refine xw_nil ?_
  refine hK3 _ _ ?_
  refine xc_gen (fun g hg => ?_)
  have s0 := (hg 0).trans (en rfl s0)
  have s1 := (hg 1).trans (en rfl s1)
  have s4 := (hg 4).trans (en rfl s4)
  have s5 := (hg 5).trans (en rfl s5)
  have s6 := (hg 6).trans es
  clear hg
  refine xc_seq (fun K hK4 => ?_)
  refine xc_label ?_
  refine hK4 _ _ ?_
  refine xc_seq (fun K hK5 => ?_)
  refine xc_seq (fun K hK6 => ?_)
  refine xc_region ?_
  refine x_val (r_move s1) (nd_of rfl) rfl ?_
  refine x_val (r_len Try.underlying24 es) (nd_of rfl) rfl ?_
  refine x_val (r_move ec) (nd_of rfl) rfl ?_
  refine xw_nil ?_
  refine hK6 _ _ ?_
  refine xc_gen (fun g hg => ?_)
  have s0 := (hg 0).trans (en rfl (en rfl (en rfl s0)))
  have s1 := (hg 1).trans (en rfl (en rfl (en rfl s1)))
  have s4 := (hg 4).trans (en rfl (en rfl (en rfl s4)))
  have s5 := (hg 5).trans (en rfl (en rfl (en rfl s5)))
  have s6 := (hg 6).trans (en rfl (en rfl (en rfl s6)))
  have s9 := (hg 9).trans (en rfl (en rfl es))
  have s10 := (hg 10).trans (en rfl es)
  have s11 := (hg 11).trans es
  clear hg
  refine xc_block ?_
  obtain ⟨G7, hG7⟩ : ∃ g0 : Nat → Value, g0 = g := ⟨_, rfl⟩
  have zG7_0 : G7 0 = _ := (congrFun hG7 0).trans s0
  have zG7_1 : G7 1 = _ := (congrFun hG7 1).trans s1
  have zG7_4 : G7 4 = _ := (congrFun hG7 4).trans s4
  have zG7_9 : G7 9 = _ := (congrFun hG7 9).trans s9
  have zG7_10 : G7 10 = _ := (congrFun hG7 10).trans s10
  refine xc_loop (fun m f w => (∃ (k i : Nat) (out : List Atr) (vo : Value), m = X.length - k ∧ k ≤ X.length ∧ i ≤ l.length ∧ out.length ≤ i + k ∧ out ++ applyL (l.drop i) (X.drop k) = applyL l X ∧ f 11 = .int .i64 (k : Int) ∧ f 6 = .int .i64 (i : Int) ∧ f 5 = vo ∧ SatL E w (ARow vo out :: R)) ∧ (f 0 = G7 0 ∧ f 1 = G7 1 ∧ f 4 = G7 4 ∧ f 9 = G7 9 ∧ f 10 = G7 10)) (X.length) ⟨⟨0, 0, [], .slice none 0 0, by omega, by omega, by omega, by simp, by simp, s11, s6, s5, h.rowNil⟩, ⟨congrFun hG7.symm 0, congrFun hG7.symm 1, congrFun hG7.symm 4, congrFun hG7.symm 9, congrFun hG7.symm 10⟩⟩ ?_
  rintro m g w ⟨⟨k, i0, out0, vo0, hm, hk, hi0, hol0, hap0, s11, s6, s5, h⟩, ⟨y0, y1, y4, y9, y10⟩⟩
  have s0 := y0.trans zG7_0
  have s1 := y1.trans zG7_1
  have s4 := y4.trans zG7_4
  have s9 := y9.trans zG7_9
  have s10 := y10.trans zG7_10
  refine xc_seq (fun K hK8 => ?_)
  refine xc_region ?_
  refine x_val (r_lss s11 s10 rfl) (nd_of rfl) rfl ?_
  refine xw_nil ?_
  refine hK8 _ _ ?_
  refine xc_gen (fun g hg => ?_)
  have s0 := (hg 0).trans (en rfl s0)
  have s1 := (hg 1).trans (en rfl s1)
  have s4 := (hg 4).trans (en rfl s4)
  have s5 := (hg 5).trans (en rfl s5)
  have s6 := (hg 6).trans (en rfl s6)
  have s9 := (hg 9).trans (en rfl s9)
  have s10 := (hg 10).trans (en rfl s10)
  have s11 := (hg 11).trans (en rfl s11)
  have s12 := (hg 12).trans es
  clear hg
  refine xc_seq (fun K hK9 => ?_)
  refine xc_cond s12 (fun hc => ?_) (fun hc => ?_)
  ·
    refine xc_skip ?_
    refine hK9 _ _ ?_
    refine xc_seq (fun K hK10 => ?_)
    refine xc_block ?_
    refine xc_seq (fun K hK11 => ?_)
    have hk2 : k < X.length := by have := of_decide_eq_true hc; omega
    obtain ⟨c, hcx⟩ : ∃ c, X[k]? = some c := ⟨_, List.getElem?_eq_getElem hk2⟩
    obtain ⟨ad2, rfl, hcell2⟩ := hrd2 _ h.drop k c hcx
    rw [drop_get hcx] at hap0
    have hokc := ok_cg c
    refine xc_region ?_
    refine x_val (r_indexAny Try.underlying24 Try.sizeOf46 s9 s11 (by omega) (by omega)) (nd_of rfl) rfl ?_
    refine x_val (r_loadAggAt (cs := cgC c) Try.isAgg46 Try.sizeOf46 es rfl hcell2) (nd_of rfl) rfl ?_
    refine x_declA h Try.zeroValue46 Try.sizeOf46 rfl (en rfl es) (by first | assumption | exact Ok.node (by assumption) | exact xOk.cells (by assumption) | exact ChOk.ok (by assumption)) rfl ?_
    intro b8 w h
    refine xw_nil ?_
    refine hK11 _ _ ?_
    refine xc_gen (fun g hg => ?_)
    have s0 := (hg 0).trans (en rfl (en rfl (en rfl s0)))
    have s1 := (hg 1).trans (en rfl (en rfl (en rfl s1)))
    have s4 := (hg 4).trans (en rfl (en rfl (en rfl s4)))
    have s5 := (hg 5).trans (en rfl (en rfl (en rfl s5)))
    have s6 := (hg 6).trans (en rfl (en rfl (en rfl s6)))
    have s8 := (hg 8).trans es
    have s9 := (hg 9).trans (en rfl (en rfl (en rfl s9)))
    have s10 := (hg 10).trans (en rfl (en rfl (en rfl s10)))
    have s11 := (hg 11).trans (en rfl (en rfl (en rfl s11)))
    have s12 := (hg 12).trans (en rfl (en rfl (en rfl s12)))
    clear hg
    refine xc_seq (fun K hK12 => ?_)
    refine xc_block ?_
    have h : SatL E w (Cells b8 #[.int .i64 c.1, .bool c.2.1, .int .u8 c.2.2.1, .int .i64 c.2.2.2.1, .int .u64 c.2.2.2.2.1, .string c.2.2.2.2.2] 46 :: ARow vo0 out0 :: R) := h
    obtain ⟨G13, hG13⟩ : ∃ g0 : Nat → Value, g0 = g := ⟨_, rfl⟩
    have zG13_0 : G13 0 = _ := (congrFun hG13 0).trans s0
    have zG13_1 : G13 1 = _ := (congrFun hG13 1).trans s1
    have zG13_4 : G13 4 = _ := (congrFun hG13 4).trans s4
    have zG13_8 : G13 8 = _ := (congrFun hG13 8).trans s8
    have zG13_9 : G13 9 = _ := (congrFun hG13 9).trans s9
    have zG13_10 : G13 10 = _ := (congrFun hG13 10).trans s10
    have zG13_11 : G13 11 = _ := (congrFun hG13 11).trans s11
    have zG13_12 : G13 12 = _ := (congrFun hG13 12).trans s12
    refine xc_loop (fun m f w => (∃ (i : Nat) (out : List Atr) (vo : Value), m = l.length - i ∧ i ≤ l.length ∧ out.length ≤ i + k ∧ out ++ applyL (l.drop i) (c :: X.drop (k + 1)) = applyL l X ∧ f 6 = .int .i64 (i : Int) ∧ f 5 = vo ∧ SatL E w (Cells b8 #[.int .i64 c.1, .bool c.2.1, .int .u8 c.2.2.1, .int .i64 c.2.2.2.1, .int .u64 c.2.2.2.2.1, .string c.2.2.2.2.2] 46 :: ARow vo out :: R)) ∧ (f 0 = G13 0 ∧ f 1 = G13 1 ∧ f 4 = G13 4 ∧ f 8 = G13 8 ∧ f 9 = G13 9 ∧ f 10 = G13 10 ∧ f 11 = G13 11 ∧ f 12 = G13 12)) (l.length - i0) ⟨⟨i0, out0, vo0, rfl, hi0, hol0, hap0, s6, s5, h⟩, ⟨congrFun hG13.symm 0, congrFun hG13.symm 1, congrFun hG13.symm 4, congrFun hG13.symm 8, congrFun hG13.symm 9, congrFun hG13.symm 10, congrFun hG13.symm 11, congrFun hG13.symm 12⟩⟩ ?_
    rintro m g w ⟨⟨i, out, vo, hm2, hile, hol, hap, s6, s5, h⟩, ⟨y0, y1, y4, y8, y9, y10, y11, y12⟩⟩
    have s0 := y0.trans zG13_0
    have s1 := y1.trans zG13_1
    have s4 := y4.trans zG13_4
    have s8 := y8.trans zG13_8
    have s9 := y9.trans zG13_9
    have s10 := y10.trans zG13_10
    have s11 := y11.trans zG13_11
    have s12 := y12.trans zG13_12
    refine xc_seq (fun K hK14 => ?_)
    refine xc_seq (fun K hK15 => ?_)
    refine xc_region ?_
    refine x_val (r_move s6) (nd_of rfl) rfl ?_
    refine x_val (r_move (en rfl s0)) (nd_of rfl) rfl ?_
    refine x_val (r_len Try.underlying38 es) (nd_of rfl) rfl ?_
    refine x_val (r_lss (en rfl (en rfl es)) es rfl) (nd_of rfl) rfl ?_
    refine xw_nil ?_
    refine hK15 _ _ ?_
    refine xc_gen (fun g hg => ?_)
    have s0 := (hg 0).trans (en rfl (en rfl (en rfl (en rfl s0))))
    have s1 := (hg 1).trans (en rfl (en rfl (en rfl (en rfl s1))))
    have s4 := (hg 4).trans (en rfl (en rfl (en rfl (en rfl s4))))
    have s5 := (hg 5).trans (en rfl (en rfl (en rfl (en rfl s5))))
    have s6 := (hg 6).trans (en rfl (en rfl (en rfl (en rfl s6))))
    have s8 := (hg 8).trans (en rfl (en rfl (en rfl (en rfl s8))))
    have s9 := (hg 9).trans (en rfl (en rfl (en rfl (en rfl s9))))
    have s10 := (hg 10).trans (en rfl (en rfl (en rfl (en rfl s10))))
    have s11 := (hg 11).trans (en rfl (en rfl (en rfl (en rfl s11))))
    have s12 := (hg 12).trans (en rfl (en rfl (en rfl (en rfl s12))))
    have s18 := (hg 18).trans es
    clear hg
    refine xc_cond s18 (fun hc => ?_) (fun hc => ?_)
    ·
      refine xc_skip ?_
      refine hK14 _ _ ?_
      refine xc_seq (fun K hK16 => ?_)
      refine xc_block ?_
      refine xc_seq (fun K hK17 => ?_)
      refine xc_block ?_
      refine xc_seq (fun K hK18 => ?_)
      have hil : i < l.length := by have := of_decide_eq_true hc; omega
      obtain ⟨x, hx⟩ : ∃ x, l[i]? = some x := ⟨_, List.getElem?_eq_getElem hil⟩
      obtain ⟨ad, rfl, hcell⟩ := hrd _ h.drop.drop i x hx
      have hdl := drop_get hx
      refine xc_plan 9 [(0, 2), (1, 2), (2, 2), (3, 2), (4, 1), (5, 2), (6, 1), (7, 2), (8, 2)] (by kernel_rfl) rfl (by kernel_rfl) h ?_
      have h := h.drew
      refine xp_read (i := 0) rfl (fun W => r_move s0) rfl (fun _ _ _ hh => by first | exact bodyR_np hh | exact bodyY_np hh | exact hh) ?_
      refine xp_read (i := 1) rfl (fun W => r_move (en rfl s6)) rfl (fun _ _ _ hh => by first | exact bodyR_np hh | exact bodyY_np hh | exact hh) ?_
      refine xp_read (i := 2) rfl (fun W => r_indexAny Try.underlying38 Try.sizeOf72 (en rfl es) es (by omega) (by omega)) rfl (fun _ _ _ hh => by first | exact bodyR_np hh | exact bodyY_np hh | exact hh) ?_
      refine xp_read (i := 3) rfl (fun W => r_fieldAddrA Try.underlying72 rfl Try.sizeOf3 rfl es) rfl (fun _ _ _ hh => by first | exact bodyR_np hh | exact bodyY_np hh | exact hh) ?_
      refine xp_load (i := 4) rfl (fun W hW => r_loadCell Try.isAgg3 es (by obtain ⟨b1, e1, c1⟩ := hrd _ hW.drop.drop i x hx; cases e1; exact c1 0 _ rfl)) rfl (fun _ _ _ hh => by first | exact bodyR_np hh | exact bodyY_np hh | exact hh) ?_
      refine xp_read (i := 5) rfl (fun W => r_fieldAddr (o' := 0) Try.underlying46 rfl Try.sizeOf3 rfl (en rfl (en rfl (en rfl (en rfl (en rfl s8))))) rfl) rfl (fun _ _ _ hh => by first | exact bodyR_np hh | exact bodyY_np hh | exact hh) ?_
      refine xp_load (i := 6) rfl (fun W hW => r_load hW 0 rfl Try.isAgg3 es gc0) rfl (fun _ _ _ hh => by first | exact bodyR_np hh | exact bodyY_np hh | exact hh) ?_
      refine xp_read (i := 7) rfl (fun W => r_lss (en rfl (en rfl es)) es rfl) rfl (fun _ _ _ hh => by first | exact bodyR_np hh | exact bodyY_np hh | exact hh) ?_
      refine xp_read (i := 8) rfl (fun W => r_assign es) rfl (fun _ _ _ hh => by first | exact bodyR_np hh | exact bodyY_np hh | exact hh) ?_
      refine xp_nil ?_
      refine hK18 _ _ ?_
      refine xc_gen (fun g hg => ?_)
      have s0 := (hg 0).trans (en rfl (en rfl (en rfl (en rfl (en rfl (en rfl (en rfl (en rfl (en rfl s0)))))))))
      have s1 := (hg 1).trans (en rfl (en rfl (en rfl (en rfl (en rfl (en rfl (en rfl (en rfl (en rfl s1)))))))))
      have s4 := (hg 4).trans (en rfl (en rfl (en rfl (en rfl (en rfl (en rfl (en rfl (en rfl (en rfl s4)))))))))
      have s5 := (hg 5).trans (en rfl (en rfl (en rfl (en rfl (en rfl (en rfl (en rfl (en rfl (en rfl s5)))))))))
      have s6 := (hg 6).trans (en rfl (en rfl (en rfl (en rfl (en rfl (en rfl (en rfl (en rfl (en rfl s6)))))))))
      have s8 := (hg 8).trans (en rfl (en rfl (en rfl (en rfl (en rfl (en rfl (en rfl (en rfl (en rfl s8)))))))))
      have s9 := (hg 9).trans (en rfl (en rfl (en rfl (en rfl (en rfl (en rfl (en rfl (en rfl (en rfl s9)))))))))
      have s10 := (hg 10).trans (en rfl (en rfl (en rfl (en rfl (en rfl (en rfl (en rfl (en rfl (en rfl s10)))))))))
      have s11 := (hg 11).trans (en rfl (en rfl (en rfl (en rfl (en rfl (en rfl (en rfl (en rfl (en rfl s11)))))))))
      have s12 := (hg 12).trans (en rfl (en rfl (en rfl (en rfl (en rfl (en rfl (en rfl (en rfl (en rfl s12)))))))))
      have s18 := (hg 18).trans (en rfl (en rfl (en rfl (en rfl (en rfl (en rfl (en rfl (en rfl (en rfl s18)))))))))
      have s21 := (hg 21).trans es
      clear hg
      refine xc_cond s21 (fun hc => ?_) (fun hc => ?_)
      ·
        refine xc_seq (fun K hK19 => ?_)
        have hlt : x.1 < c.1 := of_decide_eq_true hc
        rw [hdl, apply_lt hlt] at hap
        refine xc_region ?_
        refine x_val (r_move s5) (nd_of rfl) rfl ?_
        refine x_val (r_move (en rfl s0)) (nd_of rfl) rfl ?_
        refine x_val (r_move (en rfl (en rfl s6))) (nd_of rfl) rfl ?_
        refine x_val (r_indexAny Try.underlying38 Try.sizeOf72 (en rfl es) es (by omega) (by omega)) (nd_of rfl) rfl ?_
        refine x_val (r_loadAggAt (cs := atC x) Try.isAgg72 Try.sizeOf72 es rfl hcell) (nd_of rfl) rfl ?_
        refine x_bslice h Try.underlying38 Try.sizeOf72 zAttr rfl rfl es rfl (ok_at5 x) rfl ?_; intro bs w h
        refine x_append (m := 1) (bytes := 48) (h.f2) Try.underlying38 (by kernel_rfl) (en rfl (en rfl (en rfl (en rfl (en rfl es))))) es (ok_at x) (by omega) (by omega) rfl ?_; intro vo2 w h; have h := h.f1.drop
        have h := h.arow
        refine x_val (r_assign es) (nd_of rfl) rfl ?_
        refine xw_nil ?_
        refine hK19 _ _ ?_
        refine xc_gen (fun g hg => ?_)
        have s0 := (hg 0).trans (en rfl (en rfl (en rfl (en rfl (en rfl (en rfl (en rfl (en rfl s0))))))))
        have s1 := (hg 1).trans (en rfl (en rfl (en rfl (en rfl (en rfl (en rfl (en rfl (en rfl s1))))))))
        have s4 := (hg 4).trans (en rfl (en rfl (en rfl (en rfl (en rfl (en rfl (en rfl (en rfl s4))))))))
        have s5 := (hg 5).trans es
        have s6 := (hg 6).trans (en rfl (en rfl (en rfl (en rfl (en rfl (en rfl (en rfl (en rfl s6))))))))
        have s8 := (hg 8).trans (en rfl (en rfl (en rfl (en rfl (en rfl (en rfl (en rfl (en rfl s8))))))))
        have s9 := (hg 9).trans (en rfl (en rfl (en rfl (en rfl (en rfl (en rfl (en rfl (en rfl s9))))))))
        have s10 := (hg 10).trans (en rfl (en rfl (en rfl (en rfl (en rfl (en rfl (en rfl (en rfl s10))))))))
        have s11 := (hg 11).trans (en rfl (en rfl (en rfl (en rfl (en rfl (en rfl (en rfl (en rfl s11))))))))
        have s12 := (hg 12).trans (en rfl (en rfl (en rfl (en rfl (en rfl (en rfl (en rfl (en rfl s12))))))))
        have s18 := (hg 18).trans (en rfl (en rfl (en rfl (en rfl (en rfl (en rfl (en rfl (en rfl s18))))))))
        have s21 := (hg 21).trans (en rfl (en rfl (en rfl (en rfl (en rfl (en rfl (en rfl (en rfl s21))))))))
        clear hg
        refine xc_exit ?_
        refine hK16 _ _ ?_
        refine xc_region ?_
        refine x_val (r_move s6) (nd_of rfl) rfl ?_
        refine x_val (r_add es ec (show _ = (((i + 1 : Nat) : Int) : Int) from by omega) (by unfold I64; omega)) (nd_of rfl) rfl ?_
        refine x_val (r_assign es) (nd_of rfl) rfl ?_
        refine xw_nil ?_
        exact ⟨l.length - (i + 1), by omega, ⟨i + 1, out ++ [x], vo2, rfl, by omega, by rw [List.length_append, List.length_cons, List.length_nil]; omega, by rw [List.append_assoc]; exact hap, es, (en rfl (en rfl (en rfl s5))), h.f1⟩, ⟨((en rfl (en rfl (en rfl s0)))).trans zG13_0.symm, ((en rfl (en rfl (en rfl s1)))).trans zG13_1.symm, ((en rfl (en rfl (en rfl s4)))).trans zG13_4.symm, ((en rfl (en rfl (en rfl s8)))).trans zG13_8.symm, ((en rfl (en rfl (en rfl s9)))).trans zG13_9.symm, ((en rfl (en rfl (en rfl s10)))).trans zG13_10.symm, ((en rfl (en rfl (en rfl s11)))).trans zG13_11.symm, ((en rfl (en rfl (en rfl s12)))).trans zG13_12.symm⟩⟩
      ·
        refine xc_seq (fun K hK20 => ?_)
        have hge := of_decide_eq_false hc
        refine xc_plan 9 [(0, 2), (1, 2), (2, 2), (3, 2), (4, 1), (5, 2), (6, 1), (7, 2), (8, 2)] (by kernel_rfl) rfl (by kernel_rfl) h ?_
        have h := h.drew
        refine xp_read (i := 0) rfl (fun W => r_move s0) rfl (fun _ _ _ hh => by first | exact bodyR_np hh | exact bodyY_np hh | exact hh) ?_
        refine xp_read (i := 1) rfl (fun W => r_move (en rfl s6)) rfl (fun _ _ _ hh => by first | exact bodyR_np hh | exact bodyY_np hh | exact hh) ?_
        refine xp_read (i := 2) rfl (fun W => r_indexAny Try.underlying38 Try.sizeOf72 (en rfl es) es (by omega) (by omega)) rfl (fun _ _ _ hh => by first | exact bodyR_np hh | exact bodyY_np hh | exact hh) ?_
        refine xp_read (i := 3) rfl (fun W => r_fieldAddrA Try.underlying72 rfl Try.sizeOf3 rfl es) rfl (fun _ _ _ hh => by first | exact bodyR_np hh | exact bodyY_np hh | exact hh) ?_
        refine xp_load (i := 4) rfl (fun W hW => r_loadCell Try.isAgg3 es (by obtain ⟨b1, e1, c1⟩ := hrd _ hW.drop.drop i x hx; cases e1; exact c1 0 _ rfl)) rfl (fun _ _ _ hh => by first | exact bodyR_np hh | exact bodyY_np hh | exact hh) ?_
        refine xp_read (i := 5) rfl (fun W => r_fieldAddr (o' := 0) Try.underlying46 rfl Try.sizeOf3 rfl (en rfl (en rfl (en rfl (en rfl (en rfl s8))))) rfl) rfl (fun _ _ _ hh => by first | exact bodyR_np hh | exact bodyY_np hh | exact hh) ?_
        refine xp_load (i := 6) rfl (fun W hW => r_load hW 0 rfl Try.isAgg3 es gc0) rfl (fun _ _ _ hh => by first | exact bodyR_np hh | exact bodyY_np hh | exact hh) ?_
        refine xp_read (i := 7) rfl (fun W => r_eql (en rfl (en rfl es)) es rfl) rfl (fun _ _ _ hh => by first | exact bodyR_np hh | exact bodyY_np hh | exact hh) ?_
        refine xp_read (i := 8) rfl (fun W => r_assign es) rfl (fun _ _ _ hh => by first | exact bodyR_np hh | exact bodyY_np hh | exact hh) ?_
        refine xp_nil ?_
        refine hK20 _ _ ?_
        refine xc_gen (fun g hg => ?_)
        have s0 := (hg 0).trans (en rfl (en rfl (en rfl (en rfl (en rfl (en rfl (en rfl (en rfl (en rfl s0)))))))))
        have s1 := (hg 1).trans (en rfl (en rfl (en rfl (en rfl (en rfl (en rfl (en rfl (en rfl (en rfl s1)))))))))
        have s4 := (hg 4).trans (en rfl (en rfl (en rfl (en rfl (en rfl (en rfl (en rfl (en rfl (en rfl s4)))))))))
        have s5 := (hg 5).trans (en rfl (en rfl (en rfl (en rfl (en rfl (en rfl (en rfl (en rfl (en rfl s5)))))))))
        have s6 := (hg 6).trans (en rfl (en rfl (en rfl (en rfl (en rfl (en rfl (en rfl (en rfl (en rfl s6)))))))))
        have s8 := (hg 8).trans (en rfl (en rfl (en rfl (en rfl (en rfl (en rfl (en rfl (en rfl (en rfl s8)))))))))
        have s9 := (hg 9).trans (en rfl (en rfl (en rfl (en rfl (en rfl (en rfl (en rfl (en rfl (en rfl s9)))))))))
        have s10 := (hg 10).trans (en rfl (en rfl (en rfl (en rfl (en rfl (en rfl (en rfl (en rfl (en rfl s10)))))))))
        have s11 := (hg 11).trans (en rfl (en rfl (en rfl (en rfl (en rfl (en rfl (en rfl (en rfl (en rfl s11)))))))))
        have s12 := (hg 12).trans (en rfl (en rfl (en rfl (en rfl (en rfl (en rfl (en rfl (en rfl (en rfl s12)))))))))
        have s18 := (hg 18).trans (en rfl (en rfl (en rfl (en rfl (en rfl (en rfl (en rfl (en rfl (en rfl s18)))))))))
        have s21 := (hg 21).trans (en rfl (en rfl (en rfl (en rfl (en rfl (en rfl (en rfl (en rfl (en rfl s21)))))))))
        have s37 := (hg 37).trans es
        clear hg
        refine xc_cond s37 (fun hc => ?_) (fun hc => ?_)
        ·
          have heq : x.1 = c.1 := of_decide_eq_true hc
          have hput : out ++ (putC c ++ applyL (l.drop (i + 1)) (X.drop (k + 1))) = applyL l X := by rw [hdl, apply_eq heq] at hap; exact hap
          obtain ⟨q, hq⟩ : ∃ q, q = i + 1 := ⟨_, rfl⟩
          rw [← hq] at hput
          have hqb : i ≤ q ∧ q ≤ l.length := by omega
          refine xc_region ?_
          refine x_val (r_move s6) (nd_of rfl) rfl ?_
          refine x_val (r_add es ec (show _ = ((q : Int) : Int) from by omega) (by unfold I64; omega)) (nd_of rfl) rfl ?_
          refine x_val (r_assign es) (nd_of rfl) rfl ?_
          refine xw_nil ?_
          refine hK17 _ _ ?_
          refine xc_gen (fun g hg => ?_)
          have s0 := (hg 0).trans (en rfl (en rfl (en rfl s0)))
          have s1 := (hg 1).trans (en rfl (en rfl (en rfl s1)))
          have s4 := (hg 4).trans (en rfl (en rfl (en rfl s4)))
          have s5 := (hg 5).trans (en rfl (en rfl (en rfl s5)))
          have s6 := (hg 6).trans es
          have s8 := (hg 8).trans (en rfl (en rfl (en rfl s8)))
          have s9 := (hg 9).trans (en rfl (en rfl (en rfl s9)))
          have s10 := (hg 10).trans (en rfl (en rfl (en rfl s10)))
          have s11 := (hg 11).trans (en rfl (en rfl (en rfl s11)))
          have s12 := (hg 12).trans (en rfl (en rfl (en rfl s12)))
          have s18 := (hg 18).trans (en rfl (en rfl (en rfl s18)))
          have s21 := (hg 21).trans (en rfl (en rfl (en rfl s21)))
          have s37 := (hg 37).trans (en rfl (en rfl (en rfl s37)))
          clear hg
          refine xc_seq (fun K hK21 => ?_)
          refine xc_seq (fun K hK22 => ?_)
          refine xc_region ?_
          refine x_val (r_fieldAddr (o' := 1) Try.underlying46 rfl Try.sizeOf4 rfl s8 rfl) (nd_of rfl) rfl ?_
          refine x_val (r_load h 0 rfl Try.isAgg4 es gc1) (nd_of rfl) rfl ?_
          refine x_val (r_not es rfl) (nd_of rfl) rfl ?_
          refine xw_nil ?_
          refine hK22 _ _ ?_
          refine xc_gen (fun g hg => ?_)
          have s0 := (hg 0).trans (en rfl (en rfl (en rfl s0)))
          have s1 := (hg 1).trans (en rfl (en rfl (en rfl s1)))
          have s4 := (hg 4).trans (en rfl (en rfl (en rfl s4)))
          have s5 := (hg 5).trans (en rfl (en rfl (en rfl s5)))
          have s6 := (hg 6).trans (en rfl (en rfl (en rfl s6)))
          have s8 := (hg 8).trans (en rfl (en rfl (en rfl s8)))
          have s9 := (hg 9).trans (en rfl (en rfl (en rfl s9)))
          have s10 := (hg 10).trans (en rfl (en rfl (en rfl s10)))
          have s11 := (hg 11).trans (en rfl (en rfl (en rfl s11)))
          have s12 := (hg 12).trans (en rfl (en rfl (en rfl s12)))
          have s18 := (hg 18).trans (en rfl (en rfl (en rfl s18)))
          have s21 := (hg 21).trans (en rfl (en rfl (en rfl s21)))
          have s37 := (hg 37).trans (en rfl (en rfl (en rfl s37)))
          have s50 := (hg 50).trans es
          clear hg
          refine xc_cond s50 (fun hc => ?_) (fun hc => ?_)
          ·
            have hg : c.2.1 = false := by simpa using hc
            refine xc_region ?_
            refine x_val (r_move s5) (nd_of rfl) rfl ?_
            refine x_val (r_fieldAddr (o' := 0) Try.underlying46 rfl Try.sizeOf3 rfl (en rfl s8) rfl) (nd_of rfl) rfl ?_
            refine x_val (r_load h 0 rfl Try.isAgg3 es gc0) (nd_of rfl) rfl ?_
            refine x_val (r_fieldAddr (o' := 2) Try.underlying46 rfl Try.sizeOf44 rfl (en rfl (en rfl (en rfl s8))) rfl) (nd_of rfl) rfl ?_
            refine x_val (r_loadAgg (ds := #[.int .u8 c.2.2.1, .int .i64 c.2.2.2.1, .int .u64 c.2.2.2.2.1, .string c.2.2.2.2.2]) h 0 rfl Try.isAgg44 Try.sizeOf44 es (by exact Nat.le_refl _) (by kernel_rfl)) (nd_of rfl) rfl ?_
            refine x_val (r_build14 Try.underlying72 zAttr rfl Try.sizeOf3 Try.sizeOf44 rfl rfl (en rfl (en rfl es)) rfl es) (nd_of rfl) rfl ?_
            refine x_bslice h Try.underlying38 Try.sizeOf72 zAttr rfl rfl es rfl (ok_at5 (chA c)) rfl ?_; intro bs w h
            refine x_append (m := 1) (bytes := 48) (h.f2) Try.underlying38 (by kernel_rfl) (en rfl (en rfl (en rfl (en rfl (en rfl (en rfl es)))))) es (ok_at (chA c)) (by omega) (by omega) rfl ?_; intro vo2 w h; have h := h.f1.drop
            have h : SatL E w (ARow vo2 (out ++ [chA c]) :: R) := (h.arow).f1.drop
            have hpc : putC c = [chA c] := by unfold putC; rw [hg]; rfl
            rw [hpc] at hput
            refine x_val (r_assign es) (nd_of rfl) rfl ?_
            refine xw_nil ?_
            refine hK21 _ _ ?_
            refine xc_gen (fun g hg => ?_)
            have s0 := (hg 0).trans (en rfl (en rfl (en rfl (en rfl (en rfl (en rfl (en rfl (en rfl (en rfl s0)))))))))
            have s1 := (hg 1).trans (en rfl (en rfl (en rfl (en rfl (en rfl (en rfl (en rfl (en rfl (en rfl s1)))))))))
            have s4 := (hg 4).trans (en rfl (en rfl (en rfl (en rfl (en rfl (en rfl (en rfl (en rfl (en rfl s4)))))))))
            have s5 := (hg 5).trans es
            have s6 := (hg 6).trans (en rfl (en rfl (en rfl (en rfl (en rfl (en rfl (en rfl (en rfl (en rfl s6)))))))))
            have s8 := (hg 8).trans (en rfl (en rfl (en rfl (en rfl (en rfl (en rfl (en rfl (en rfl (en rfl s8)))))))))
            have s9 := (hg 9).trans (en rfl (en rfl (en rfl (en rfl (en rfl (en rfl (en rfl (en rfl (en rfl s9)))))))))
            have s10 := (hg 10).trans (en rfl (en rfl (en rfl (en rfl (en rfl (en rfl (en rfl (en rfl (en rfl s10)))))))))
            have s11 := (hg 11).trans (en rfl (en rfl (en rfl (en rfl (en rfl (en rfl (en rfl (en rfl (en rfl s11)))))))))
            have s12 := (hg 12).trans (en rfl (en rfl (en rfl (en rfl (en rfl (en rfl (en rfl (en rfl (en rfl s12)))))))))
            have s18 := (hg 18).trans (en rfl (en rfl (en rfl (en rfl (en rfl (en rfl (en rfl (en rfl (en rfl s18)))))))))
            have s21 := (hg 21).trans (en rfl (en rfl (en rfl (en rfl (en rfl (en rfl (en rfl (en rfl (en rfl s21)))))))))
            have s37 := (hg 37).trans (en rfl (en rfl (en rfl (en rfl (en rfl (en rfl (en rfl (en rfl (en rfl s37)))))))))
            have s50 := (hg 50).trans (en rfl (en rfl (en rfl (en rfl (en rfl (en rfl (en rfl (en rfl (en rfl s50)))))))))
            clear hg
            refine xc_exit ?_
            refine hK10 _ _ ?_
            refine xc_region ?_
            refine x_val (r_add s11 ec (show _ = (((k + 1 : Nat) : Int) : Int) from by omega) (by unfold I64; omega)) (nd_of rfl) rfl ?_
            refine x_val (r_move es) (nd_of rfl) rfl ?_
            refine xw_nil ?_
            exact ⟨X.length - (k + 1), by omega, ⟨k + 1, q, out ++ [chA c], vo2, rfl, by omega, hqb.2, by rw [List.length_append, List.length_cons, List.length_nil]; omega, by rw [List.append_assoc]; exact hput, es, (en rfl (en rfl s6)), (en rfl (en rfl s5)), h⟩, ⟨((en rfl (en rfl s0))).trans zG7_0.symm, ((en rfl (en rfl s1))).trans zG7_1.symm, ((en rfl (en rfl s4))).trans zG7_4.symm, ((en rfl (en rfl s9))).trans zG7_9.symm, ((en rfl (en rfl s10))).trans zG7_10.symm⟩⟩
          ·
            refine xc_skip ?_
            refine hK21 _ _ ?_
            refine xc_exit ?_
            refine hK10 _ _ ?_
            have hg : c.2.1 = true := by simpa using hc
            have hpc : putC c = [] := by unfold putC; rw [hg]; rfl
            rw [hpc] at hput
            have h := (h.f0).drop
            refine xc_region ?_
            refine x_val (r_add s11 ec (show _ = (((k + 1 : Nat) : Int) : Int) from by omega) (by unfold I64; omega)) (nd_of rfl) rfl ?_
            refine x_val (r_move es) (nd_of rfl) rfl ?_
            refine xw_nil ?_
            exact ⟨X.length - (k + 1), by omega, ⟨k + 1, q, out, vo, rfl, by omega, hqb.2, by omega, hput, es, (en rfl (en rfl s6)), (en rfl (en rfl s5)), h⟩, ⟨((en rfl (en rfl s0))).trans zG7_0.symm, ((en rfl (en rfl s1))).trans zG7_1.symm, ((en rfl (en rfl s4))).trans zG7_4.symm, ((en rfl (en rfl s9))).trans zG7_9.symm, ((en rfl (en rfl s10))).trans zG7_10.symm⟩⟩
        ·
          refine xc_skip ?_
          refine hK17 _ _ ?_
          refine xc_seq (fun K hK23 => ?_)
          refine xc_seq (fun K hK24 => ?_)
          have hne := of_decide_eq_false hc
          have hput : out ++ (putC c ++ applyL (l.drop i) (X.drop (k + 1))) = applyL l X := by rw [hdl, apply_gt (by omega)] at hap; rw [hdl]; exact hap
          obtain ⟨q, hq⟩ : ∃ q, q = i := ⟨_, rfl⟩
          rw [← hq] at hput
          have hqb : i ≤ q ∧ q ≤ l.length := by omega
          have s6 : g 6 = .int .i64 (q : Int) := by rw [hq]; exact s6
          refine xc_region ?_
          refine x_val (r_fieldAddr (o' := 1) Try.underlying46 rfl Try.sizeOf4 rfl s8 rfl) (nd_of rfl) rfl ?_
          refine x_val (r_load h 0 rfl Try.isAgg4 es gc1) (nd_of rfl) rfl ?_
          refine x_val (r_not es rfl) (nd_of rfl) rfl ?_
          refine xw_nil ?_
          refine hK24 _ _ ?_
          refine xc_gen (fun g hg => ?_)
          have s0 := (hg 0).trans (en rfl (en rfl (en rfl s0)))
          have s1 := (hg 1).trans (en rfl (en rfl (en rfl s1)))
          have s4 := (hg 4).trans (en rfl (en rfl (en rfl s4)))
          have s5 := (hg 5).trans (en rfl (en rfl (en rfl s5)))
          have s6 := (hg 6).trans (en rfl (en rfl (en rfl s6)))
          have s8 := (hg 8).trans (en rfl (en rfl (en rfl s8)))
          have s9 := (hg 9).trans (en rfl (en rfl (en rfl s9)))
          have s10 := (hg 10).trans (en rfl (en rfl (en rfl s10)))
          have s11 := (hg 11).trans (en rfl (en rfl (en rfl s11)))
          have s12 := (hg 12).trans (en rfl (en rfl (en rfl s12)))
          have s18 := (hg 18).trans (en rfl (en rfl (en rfl s18)))
          have s21 := (hg 21).trans (en rfl (en rfl (en rfl s21)))
          have s37 := (hg 37).trans (en rfl (en rfl (en rfl s37)))
          have s50 := (hg 50).trans es
          clear hg
          refine xc_cond s50 (fun hc => ?_) (fun hc => ?_)
          ·
            have hg : c.2.1 = false := by simpa using hc
            refine xc_region ?_
            refine x_val (r_move s5) (nd_of rfl) rfl ?_
            refine x_val (r_fieldAddr (o' := 0) Try.underlying46 rfl Try.sizeOf3 rfl (en rfl s8) rfl) (nd_of rfl) rfl ?_
            refine x_val (r_load h 0 rfl Try.isAgg3 es gc0) (nd_of rfl) rfl ?_
            refine x_val (r_fieldAddr (o' := 2) Try.underlying46 rfl Try.sizeOf44 rfl (en rfl (en rfl (en rfl s8))) rfl) (nd_of rfl) rfl ?_
            refine x_val (r_loadAgg (ds := #[.int .u8 c.2.2.1, .int .i64 c.2.2.2.1, .int .u64 c.2.2.2.2.1, .string c.2.2.2.2.2]) h 0 rfl Try.isAgg44 Try.sizeOf44 es (by exact Nat.le_refl _) (by kernel_rfl)) (nd_of rfl) rfl ?_
            refine x_val (r_build14 Try.underlying72 zAttr rfl Try.sizeOf3 Try.sizeOf44 rfl rfl (en rfl (en rfl es)) rfl es) (nd_of rfl) rfl ?_
            refine x_bslice h Try.underlying38 Try.sizeOf72 zAttr rfl rfl es rfl (ok_at5 (chA c)) rfl ?_; intro bs w h
            refine x_append (m := 1) (bytes := 48) (h.f2) Try.underlying38 (by kernel_rfl) (en rfl (en rfl (en rfl (en rfl (en rfl (en rfl es)))))) es (ok_at (chA c)) (by omega) (by omega) rfl ?_; intro vo2 w h; have h := h.f1.drop
            have h : SatL E w (ARow vo2 (out ++ [chA c]) :: R) := (h.arow).f1.drop
            have hpc : putC c = [chA c] := by unfold putC; rw [hg]; rfl
            rw [hpc] at hput
            refine x_val (r_assign es) (nd_of rfl) rfl ?_
            refine xw_nil ?_
            refine hK23 _ _ ?_
            refine xc_gen (fun g hg => ?_)
            have s0 := (hg 0).trans (en rfl (en rfl (en rfl (en rfl (en rfl (en rfl (en rfl (en rfl (en rfl s0)))))))))
            have s1 := (hg 1).trans (en rfl (en rfl (en rfl (en rfl (en rfl (en rfl (en rfl (en rfl (en rfl s1)))))))))
            have s4 := (hg 4).trans (en rfl (en rfl (en rfl (en rfl (en rfl (en rfl (en rfl (en rfl (en rfl s4)))))))))
            have s5 := (hg 5).trans es
            have s6 := (hg 6).trans (en rfl (en rfl (en rfl (en rfl (en rfl (en rfl (en rfl (en rfl (en rfl s6)))))))))
            have s8 := (hg 8).trans (en rfl (en rfl (en rfl (en rfl (en rfl (en rfl (en rfl (en rfl (en rfl s8)))))))))
            have s9 := (hg 9).trans (en rfl (en rfl (en rfl (en rfl (en rfl (en rfl (en rfl (en rfl (en rfl s9)))))))))
            have s10 := (hg 10).trans (en rfl (en rfl (en rfl (en rfl (en rfl (en rfl (en rfl (en rfl (en rfl s10)))))))))
            have s11 := (hg 11).trans (en rfl (en rfl (en rfl (en rfl (en rfl (en rfl (en rfl (en rfl (en rfl s11)))))))))
            have s12 := (hg 12).trans (en rfl (en rfl (en rfl (en rfl (en rfl (en rfl (en rfl (en rfl (en rfl s12)))))))))
            have s18 := (hg 18).trans (en rfl (en rfl (en rfl (en rfl (en rfl (en rfl (en rfl (en rfl (en rfl s18)))))))))
            have s21 := (hg 21).trans (en rfl (en rfl (en rfl (en rfl (en rfl (en rfl (en rfl (en rfl (en rfl s21)))))))))
            have s37 := (hg 37).trans (en rfl (en rfl (en rfl (en rfl (en rfl (en rfl (en rfl (en rfl (en rfl s37)))))))))
            have s50 := (hg 50).trans (en rfl (en rfl (en rfl (en rfl (en rfl (en rfl (en rfl (en rfl (en rfl s50)))))))))
            clear hg
            refine xc_exit ?_
            refine hK10 _ _ ?_
            refine xc_region ?_
            refine x_val (r_add s11 ec (show _ = (((k + 1 : Nat) : Int) : Int) from by omega) (by unfold I64; omega)) (nd_of rfl) rfl ?_
            refine x_val (r_move es) (nd_of rfl) rfl ?_
            refine xw_nil ?_
            exact ⟨X.length - (k + 1), by omega, ⟨k + 1, q, out ++ [chA c], vo2, rfl, by omega, hqb.2, by rw [List.length_append, List.length_cons, List.length_nil]; omega, by rw [List.append_assoc]; exact hput, es, (en rfl (en rfl s6)), (en rfl (en rfl s5)), h⟩, ⟨((en rfl (en rfl s0))).trans zG7_0.symm, ((en rfl (en rfl s1))).trans zG7_1.symm, ((en rfl (en rfl s4))).trans zG7_4.symm, ((en rfl (en rfl s9))).trans zG7_9.symm, ((en rfl (en rfl s10))).trans zG7_10.symm⟩⟩
          ·
            refine xc_skip ?_
            refine hK23 _ _ ?_
            refine xc_exit ?_
            refine hK10 _ _ ?_
            have hg : c.2.1 = true := by simpa using hc
            have hpc : putC c = [] := by unfold putC; rw [hg]; rfl
            rw [hpc] at hput
            have h := (h.f0).drop
            refine xc_region ?_
            refine x_val (r_add s11 ec (show _ = (((k + 1 : Nat) : Int) : Int) from by omega) (by unfold I64; omega)) (nd_of rfl) rfl ?_
            refine x_val (r_move es) (nd_of rfl) rfl ?_
            refine xw_nil ?_
            exact ⟨X.length - (k + 1), by omega, ⟨k + 1, q, out, vo, rfl, by omega, hqb.2, by omega, hput, es, (en rfl (en rfl s6)), (en rfl (en rfl s5)), h⟩, ⟨((en rfl (en rfl s0))).trans zG7_0.symm, ((en rfl (en rfl s1))).trans zG7_1.symm, ((en rfl (en rfl s4))).trans zG7_4.symm, ((en rfl (en rfl s9))).trans zG7_9.symm, ((en rfl (en rfl s10))).trans zG7_10.symm⟩⟩
    ·
      refine xc_exit ?_
      refine hK12 _ _ ?_
      refine xc_seq (fun K hK25 => ?_)
      have hil : i = l.length := by have := of_decide_eq_false hc; omega
      have hput : out ++ (putC c ++ applyL (l.drop i) (X.drop (k + 1))) = applyL l X := by rw [hil, List.drop_length, apply_nil] at hap; rw [hil, List.drop_length]; exact hap
      obtain ⟨q, hq⟩ : ∃ q, q = i := ⟨_, rfl⟩
      rw [← hq] at hput
      have hqb : i ≤ q ∧ q ≤ l.length := by omega
      have s6 : g 6 = .int .i64 (q : Int) := by rw [hq]; exact s6
      refine xc_region ?_
      refine x_val (r_fieldAddr (o' := 1) Try.underlying46 rfl Try.sizeOf4 rfl s8 rfl) (nd_of rfl) rfl ?_
      refine x_val (r_load h 0 rfl Try.isAgg4 es gc1) (nd_of rfl) rfl ?_
      refine x_val (r_not es rfl) (nd_of rfl) rfl ?_
      refine xw_nil ?_
      refine hK25 _ _ ?_
      refine xc_gen (fun g hg => ?_)
      have s0 := (hg 0).trans (en rfl (en rfl (en rfl s0)))
      have s1 := (hg 1).trans (en rfl (en rfl (en rfl s1)))
      have s4 := (hg 4).trans (en rfl (en rfl (en rfl s4)))
      have s5 := (hg 5).trans (en rfl (en rfl (en rfl s5)))
      have s6 := (hg 6).trans (en rfl (en rfl (en rfl s6)))
      have s8 := (hg 8).trans (en rfl (en rfl (en rfl s8)))
      have s9 := (hg 9).trans (en rfl (en rfl (en rfl s9)))
      have s10 := (hg 10).trans (en rfl (en rfl (en rfl s10)))
      have s11 := (hg 11).trans (en rfl (en rfl (en rfl s11)))
      have s12 := (hg 12).trans (en rfl (en rfl (en rfl s12)))
      have s18 := (hg 18).trans (en rfl (en rfl (en rfl s18)))
      have s61 := (hg 61).trans es
      clear hg
      refine xc_cond s61 (fun hc => ?_) (fun hc => ?_)
      ·
        have hg : c.2.1 = false := by simpa using hc
        refine xc_region ?_
        refine x_val (r_move s5) (nd_of rfl) rfl ?_
        refine x_val (r_fieldAddr (o' := 0) Try.underlying46 rfl Try.sizeOf3 rfl (en rfl s8) rfl) (nd_of rfl) rfl ?_
        refine x_val (r_load h 0 rfl Try.isAgg3 es gc0) (nd_of rfl) rfl ?_
        refine x_val (r_fieldAddr (o' := 2) Try.underlying46 rfl Try.sizeOf44 rfl (en rfl (en rfl (en rfl s8))) rfl) (nd_of rfl) rfl ?_
        refine x_val (r_loadAgg (ds := #[.int .u8 c.2.2.1, .int .i64 c.2.2.2.1, .int .u64 c.2.2.2.2.1, .string c.2.2.2.2.2]) h 0 rfl Try.isAgg44 Try.sizeOf44 es (by exact Nat.le_refl _) (by kernel_rfl)) (nd_of rfl) rfl ?_
        refine x_val (r_build14 Try.underlying72 zAttr rfl Try.sizeOf3 Try.sizeOf44 rfl rfl (en rfl (en rfl es)) rfl es) (nd_of rfl) rfl ?_
        refine x_bslice h Try.underlying38 Try.sizeOf72 zAttr rfl rfl es rfl (ok_at5 (chA c)) rfl ?_; intro bs w h
        refine x_append (m := 1) (bytes := 48) (h.f2) Try.underlying38 (by kernel_rfl) (en rfl (en rfl (en rfl (en rfl (en rfl (en rfl es)))))) es (ok_at (chA c)) (by omega) (by omega) rfl ?_; intro vo2 w h; have h := h.f1.drop
        have h : SatL E w (ARow vo2 (out ++ [chA c]) :: R) := (h.arow).f1.drop
        have hpc : putC c = [chA c] := by unfold putC; rw [hg]; rfl
        rw [hpc] at hput
        refine x_val (r_assign es) (nd_of rfl) rfl ?_
        refine xw_nil ?_
        refine hK10 _ _ ?_
        refine xc_gen (fun g hg => ?_)
        have s0 := (hg 0).trans (en rfl (en rfl (en rfl (en rfl (en rfl (en rfl (en rfl (en rfl (en rfl s0)))))))))
        have s1 := (hg 1).trans (en rfl (en rfl (en rfl (en rfl (en rfl (en rfl (en rfl (en rfl (en rfl s1)))))))))
        have s4 := (hg 4).trans (en rfl (en rfl (en rfl (en rfl (en rfl (en rfl (en rfl (en rfl (en rfl s4)))))))))
        have s5 := (hg 5).trans es
        have s6 := (hg 6).trans (en rfl (en rfl (en rfl (en rfl (en rfl (en rfl (en rfl (en rfl (en rfl s6)))))))))
        have s8 := (hg 8).trans (en rfl (en rfl (en rfl (en rfl (en rfl (en rfl (en rfl (en rfl (en rfl s8)))))))))
        have s9 := (hg 9).trans (en rfl (en rfl (en rfl (en rfl (en rfl (en rfl (en rfl (en rfl (en rfl s9)))))))))
        have s10 := (hg 10).trans (en rfl (en rfl (en rfl (en rfl (en rfl (en rfl (en rfl (en rfl (en rfl s10)))))))))
        have s11 := (hg 11).trans (en rfl (en rfl (en rfl (en rfl (en rfl (en rfl (en rfl (en rfl (en rfl s11)))))))))
        have s12 := (hg 12).trans (en rfl (en rfl (en rfl (en rfl (en rfl (en rfl (en rfl (en rfl (en rfl s12)))))))))
        have s18 := (hg 18).trans (en rfl (en rfl (en rfl (en rfl (en rfl (en rfl (en rfl (en rfl (en rfl s18)))))))))
        have s61 := (hg 61).trans (en rfl (en rfl (en rfl (en rfl (en rfl (en rfl (en rfl (en rfl (en rfl s61)))))))))
        clear hg
        refine xc_region ?_
        refine x_val (r_add s11 ec (show _ = (((k + 1 : Nat) : Int) : Int) from by omega) (by unfold I64; omega)) (nd_of rfl) rfl ?_
        refine x_val (r_move es) (nd_of rfl) rfl ?_
        refine xw_nil ?_
        exact ⟨X.length - (k + 1), by omega, ⟨k + 1, q, out ++ [chA c], vo2, rfl, by omega, hqb.2, by rw [List.length_append, List.length_cons, List.length_nil]; omega, by rw [List.append_assoc]; exact hput, es, (en rfl (en rfl s6)), (en rfl (en rfl s5)), h⟩, ⟨((en rfl (en rfl s0))).trans zG7_0.symm, ((en rfl (en rfl s1))).trans zG7_1.symm, ((en rfl (en rfl s4))).trans zG7_4.symm, ((en rfl (en rfl s9))).trans zG7_9.symm, ((en rfl (en rfl s10))).trans zG7_10.symm⟩⟩
      ·
        refine xc_skip ?_
        refine hK10 _ _ ?_
        have hg : c.2.1 = true := by simpa using hc
        have hpc : putC c = [] := by unfold putC; rw [hg]; rfl
        rw [hpc] at hput
        have h := (h.f0).drop
        refine xc_region ?_
        refine x_val (r_add s11 ec (show _ = (((k + 1 : Nat) : Int) : Int) from by omega) (by unfold I64; omega)) (nd_of rfl) rfl ?_
        refine x_val (r_move es) (nd_of rfl) rfl ?_
        refine xw_nil ?_
        exact ⟨X.length - (k + 1), by omega, ⟨k + 1, q, out, vo, rfl, by omega, hqb.2, by omega, hput, es, (en rfl (en rfl s6)), (en rfl (en rfl s5)), h⟩, ⟨((en rfl (en rfl s0))).trans zG7_0.symm, ((en rfl (en rfl s1))).trans zG7_1.symm, ((en rfl (en rfl s4))).trans zG7_4.symm, ((en rfl (en rfl s9))).trans zG7_9.symm, ((en rfl (en rfl s10))).trans zG7_10.symm⟩⟩
  ·
    have hkx : k = X.length := by have := of_decide_eq_false hc; omega
    rw [hkx, List.drop_length, apply_end] at hap0
    obtain ⟨ao, co, rfl, hleo, _⟩ := h.rowVal
    obtain ⟨inf, hinf⟩ : ∃ inf, Try.prog.info? 72 = some inf := Option.isSome_iff_exists.1 (by kernel_rfl)
    rcases Nat.lt_or_ge i0 l.length with hlt | hge
    ·
      skip
      refine xc_exit ?_
      refine hK5 _ _ ?_
      refine xc_seq (fun K hK26 => ?_)
      obtain ⟨a', cap', e', hall⟩ := areads_all hv0 hlt h.drop
      simp only [Value.slice.injEq] at e'
      obtain ⟨rfl, _, rfl⟩ := e'
      refine xc_region ?_
      refine x_val (r_move s5) (nd_of rfl) rfl ?_
      refine x_val (r_move (en rfl s0)) (nd_of rfl) rfl ?_
      refine x_val (r_move (en rfl (en rfl s6))) (nd_of rfl) rfl ?_
      refine x_val (r_sliceFromA Try.underlying38 Try.sizeOf72 (en rfl es) es hlt hcap) (nd_of rfl) rfl ?_
      refine x_append_at (bytes := 48) (news := aflat (l.drop i0)) h Try.underlying38 (by kernel_rfl) (en rfl (en rfl (en rfl es))) es (by rw [aflat_len, List.length_drop]) hall aflat_one (by omega) (by omega) rfl ?_; intro vo2 w h
      refine x_val (r_assign es) (nd_of rfl) rfl ?_
      refine xw_nil ?_
      refine hK26 _ _ ?_
      refine xc_gen (fun g hg => ?_)
      have s0 := (hg 0).trans (en rfl (en rfl (en rfl (en rfl (en rfl (en rfl s0))))))
      have s1 := (hg 1).trans (en rfl (en rfl (en rfl (en rfl (en rfl (en rfl s1))))))
      have s4 := (hg 4).trans es
      have s5 := (hg 5).trans (en rfl (en rfl (en rfl (en rfl (en rfl (en rfl s5))))))
      have s6 := (hg 6).trans (en rfl (en rfl (en rfl (en rfl (en rfl (en rfl s6))))))
      have s9 := (hg 9).trans (en rfl (en rfl (en rfl (en rfl (en rfl (en rfl s9))))))
      have s10 := (hg 10).trans (en rfl (en rfl (en rfl (en rfl (en rfl (en rfl s10))))))
      have s11 := (hg 11).trans (en rfl (en rfl (en rfl (en rfl (en rfl (en rfl s11))))))
      have s12 := (hg 12).trans (en rfl (en rfl (en rfl (en rfl (en rfl (en rfl s12))))))
      clear hg
      refine xc_ret ?_
      refine bodyR_1 rfl s4 ?_
      exact (by unfold ARow; rw [← hap0, List.length_append, List.length_drop, aflat_app]; exact h)
    ·
      skip
      refine xc_exit ?_
      refine hK5 _ _ ?_
      refine xc_seq (fun K hK27 => ?_)
      obtain rfl : i0 = l.length := by omega
      rw [List.drop_length, List.append_nil] at hap0
      refine xc_region ?_
      refine x_val (r_move s5) (nd_of rfl) rfl ?_
      refine x_val (r_move (en rfl s0)) (nd_of rfl) rfl ?_
      refine x_val (r_move (en rfl (en rfl s6))) (nd_of rfl) rfl ?_
      refine x_val (r_sliceEnd Try.underlying38 Try.sizeOf72 (en rfl es) es hcap) (nd_of rfl) rfl ?_
      refine x_val (r_append (en rfl (en rfl (en rfl es))) es (append_none_run Try.underlying38 hinf hleo)) (nd_of rfl) rfl ?_
      refine x_val (r_assign es) (nd_of rfl) rfl ?_
      refine xw_nil ?_
      refine hK27 _ _ ?_
      refine xc_gen (fun g hg => ?_)
      have s0 := (hg 0).trans (en rfl (en rfl (en rfl (en rfl (en rfl (en rfl s0))))))
      have s1 := (hg 1).trans (en rfl (en rfl (en rfl (en rfl (en rfl (en rfl s1))))))
      have s4 := (hg 4).trans es
      have s5 := (hg 5).trans (en rfl (en rfl (en rfl (en rfl (en rfl (en rfl s5))))))
      have s6 := (hg 6).trans (en rfl (en rfl (en rfl (en rfl (en rfl (en rfl s6))))))
      have s9 := (hg 9).trans (en rfl (en rfl (en rfl (en rfl (en rfl (en rfl s9))))))
      have s10 := (hg 10).trans (en rfl (en rfl (en rfl (en rfl (en rfl (en rfl s10))))))
      have s11 := (hg 11).trans (en rfl (en rfl (en rfl (en rfl (en rfl (en rfl s11))))))
      have s12 := (hg 12).trans (en rfl (en rfl (en rfl (en rfl (en rfl (en rfl s12))))))
      clear hg
      refine xc_ret ?_
      refine bodyR_1 rfl s4 ?_
      exact (hap0 ▸ h)
end
end Go.Proofs.Ytonnijghdlakfaa
