/-
Run equations that the first texts lack: strings, unsigned division, conversions, slices from a place on.
-/
import Derived.Test.YtfmhcefjbghhlaaX5
import Derived.Laws.Cover3
import Derived.Laws.Small
namespace Go.Proofs.Ytfmhcefjbghhlaa
open Go Go.RowKit
section
variable {P : Program} {f : Nat → Value} {w : World} {d : Option Tmp} {ty : TypeId} {pos : String} {af : Array Edge} {g : Option (Tmp × Bool)}
theorem r_string {op : BinOp} {t yt : TypeId} {x y : Operand} {a b : ByteArray} {v : Value} (hx : ev f x = .string a) (hy : ev f y = .string b)
    (h : (binOp op t (.string a) (.string b)).run P w = .ok v w) : (execOp (ev f) ⟨d, .binOp op t x y yt, ty, pos, af, g⟩).run P w = .ok (.value v) w := by
  have e : (eqGuard op t x y (.string a) (.string b)).run P w = .ok () w := by
    unfold eqGuard; cases op <;> rfl
  simp [execOp, hx, hy, e, h]
theorem r_eqs {t yt : TypeId} {x y : Operand} {a b : ByteArray} {r : Bool} (hx : ev f x = .string a) (hy : ev f y = .string b) (hr : (a.toList == b.toList) = r) :
    (execOp (ev f) ⟨d, .binOp .eql t x y yt, ty, pos, af, g⟩).run P w = .ok (.value (.bool r)) w :=
  r_string hx hy (by subst hr; simp [binOp, Op.stringOp])
theorem r_nes {t yt : TypeId} {x y : Operand} {a b : ByteArray} {r : Bool} (hx : ev f x = .string a) (hy : ev f y = .string b) (hr : (!(a.toList == b.toList)) = r) :
    (execOp (ev f) ⟨d, .binOp .neq t x y yt, ty, pos, af, g⟩).run P w = .ok (.value (.bool r)) w :=
  r_string hx hy (by subst hr; simp [binOp, Op.stringOp])
theorem r_convert {src dst : TypeId} {x : Operand} {k k' : IntKind} {n m : Int} {u : TypeDesc} (hs : P.underlying src = some u) (hd : P.underlying dst = some (.int k')) (hx : ev f x = .int k n) (hm : k'.wrap n = m) :
    (execOp (ev f) ⟨d, .convert src dst x, ty, pos, af, g⟩).run P w = .ok (.value (.int k' m)) w := by
  subst hm
  simp [execOp, hx, convert, run_underlying hs, run_underlying hd, Conv.intToInt]
theorem r_rem {t yt : TypeId} {x y : Operand} {k : IntKind} {a b c : Int} (hx : ev f x = .int k a) (hy : ev f y = .int k b) (hb : b ≠ 0) (hc : a.tmod b = c) :
    (execOp (ev f) ⟨d, .binOp .rem t x y yt, ty, pos, af, g⟩).run P w = .ok (.value (.int k c)) w :=
  r_int hx hy (by subst hc; simp [binOp, Op.intDiv, hb])
theorem r_indexAny {T e : TypeId} {x y : Operand} {k : IntKind} {a : Addr} {s len cap : Nat} {i : Int} (hu : P.underlying T = some (.slice e)) (hs : ∀ w, (sizeOf e).run P w = .ok s w)
    (hx : ev f x = .slice (some a) len cap) (hy : ev f y = .int k i) (h0 : 0 ≤ i) (h1 : i < (len : Int)) :
    (execOp (ev f) ⟨d, .indexAddr T x y, ty, pos, af, g⟩).run P w = .ok (.value (.pointer (some (a.add (i.toNat * s))))) w := by
  simp [execOp, hx, hy, Instr.indexAt, asIntOf, run_underlying hu, h0, h1, hs]
/-- s[l:] of a slice -/
theorem r_sliceFromN {T e : TypeId} {x y : Operand} {s : Nat} {kk : IntKind} {b o len cap l : Nat} (hu : P.underlying T = some (.slice e)) (hs : ∀ w, (sizeOf e).run P w = .ok s w)
    (hx : ev f x = .slice (some ⟨b, o, none⟩) len cap) (hy : ev f y = .int kk (l : Int)) (h1 : l ≤ len) (h2 : len ≤ cap) :
    (execOp (ev f) ⟨d, .slice T x (some y) none none, ty, pos, af, g⟩).run P w = .ok (.value (.slice (some ⟨b, if cap = l then o else o + l * s, none⟩) (len - l) (cap - l))) w := by
  have e1 : ¬ ((len : Int) < (l : Int)) := by omega
  by_cases hc : cap = l
  · subst hc
    simp [execOp, hx, hy, Instr.sliceAt, Instr.slice, Instr.sliceBounds, Instr.sliceBound, asIntOf, run_underlying hu, hs, h1, h2]
  · simp [execOp, hx, hy, Instr.sliceAt, Instr.slice, Instr.sliceBounds, Instr.sliceBound, asIntOf, run_underlying hu, hs, h1, hc, add_pt]
theorem r_buildSlice0 {T e : TypeId} {k : Nat} (hu : P.underlying T = some (.slice e)) (hs : ∀ w, (sizeOf e).run P w = .ok k w) :
    (execOp (ev f) ⟨d, .buildSlice T 0 #[], ty, pos, af, g⟩).run P w = .ok (.value (.slice (some ⟨w.heap.size, 0, none⟩) 0 0)) (w.alloc (.cells #[] e)) := by
  have e0 : Array.range 0 = #[] := Array.eq_empty_of_size_eq_zero (by simp)
  simp [execOp, Instr.buildSlice, run_underlying hu, hs, newRow, Instr.fill, e0]

theorem SatL.oldCell {E : Env} {L : List SProp} {W : World} {a : Addr} {v : Value} (h : SatL E w L) (k : Nat) (hk : L[k]? = some (Old W)) (hv : W.cell? a = some v) : w.cell? a = some v := by
  obtain ⟨m, hA, hs⟩ := h.at k hk
  have hb : ∃ o, W.heap[a.block]? = some o := by
    cases e : W.heap[a.block]? with
    | some o => exact ⟨o, rfl⟩
    | none => simp [World.cell?, e] at hv
  obtain ⟨o, ho⟩ := hb
  rw [World.cell?_of_block (w := W) (w' := w) ((hs _ _ (hA _ _ ho)).trans ho.symm)]
  exact hv
theorem r_loadOld {E : Env} {L : List SProp} {W : World} {T : TypeId} {x : Operand} {a : Addr} {v : Value} (h : SatL E w L) (k : Nat) (hk : L[k]? = some (Old W))
    (ha : ∀ w, (isAgg T).run P w = .ok false w) (hx : ev f x = .pointer (some a)) (hv : W.cell? a = some v) : (execOp (ev f) ⟨d, .load T x, ty, pos, af, g⟩).run P w = .ok (.value v) w := by
  have hc := h.oldCell k hk hv
  simp [execOp, hx, Instr.loadAt, Instr.sureAddr, loadVar, ha, hc]

theorem r_index1 {T e : TypeId} {x y : Operand} {k : IntKind} {a : Addr} {len cap i : Nat} (hu : P.underlying T = some (.slice e)) (hs : ∀ w, (sizeOf e).run P w = .ok 1 w)
    (hx : ev f x = .slice (some a) len cap) (hy : ev f y = .int k (i : Int)) (h1 : i < len) :
    (execOp (ev f) ⟨d, .indexAddr T x y, ty, pos, af, g⟩).run P w = .ok (.value (.pointer (some (a.add i)))) w := by
  have := r_indexAny (P := P) (w := w) (d := d) (ty := ty) (pos := pos) (af := af) (g := g) hu hs hx hy (by omega) (by omega)
  simpa using this
theorem r_eqnilS {t yt e : TypeId} {x y : Operand} {p : Option Addr} {l c : Nat} {r : Bool} (hu : P.underlying t = some (.slice e)) (hx : ev f x = .slice p l c) (hy : ev f y = .slice none 0 0) (hr : p.isNone = r) :
    (execOp (ev f) ⟨d, .binOp .eql t x y yt, ty, pos, af, g⟩).run P w = .ok (.value (.bool r)) w := by
  subst hr
  simp [execOp, hx, hy, eqGuard, binOp, run_equal_slice_nil (P := P) (w := w) t e p l c hu]
theorem r_eqb {t yt : TypeId} {x y : Operand} {a b r : Bool} (hu : P.underlying t = some .bool) (hx : ev f x = .bool a) (hy : ev f y = .bool b) (hr : (a == b) = r) :
    (execOp (ev f) ⟨d, .binOp .eql t x y yt, ty, pos, af, g⟩).run P w = .ok (.value (.bool r)) w := by
  subst hr
  simp [execOp, hx, hy, eqGuard, binOp, run_equal_bool (P := P) (w := w) t a b hu]

/-- a slice of ints that the caller handed in -/
def OldInts (W : World) (v : Value) (zs : List Int) : Prop :=
  ∃ a cap, v = .slice a zs.length cap ∧ zs.length ≤ cap ∧ cap ≤ maxLen ∧ ∀ i, i < zs.length → ∃ a', a = some a' ∧ W.cell? (a'.add (i * 1)) = some (.int .i64 (zs.getD i 0))
end

section
variable {ro : Option Nat} {P : Program} {ops : Array Oper} {R : Exit → (Nat → Value) → World → Prop} {n : Nat} {ds : List Deferred} {f : Nat → Value} {w : World} {E : Env} {L : List SProp}
theorem SatL.row0 {b e sz : Nat} (h : SatL E w (Cells b #[] e :: L)) : SatL E w (Row e sz (.slice (some ⟨b, 0, none⟩) 0 0) 0 [] :: L) :=
  h.closeRow (sz := sz) ⟨rfl, by simp, Nat.le_refl _, by unfold maxLen; omega, by simp, by simp⟩
theorem run_append_at {e t ty : TypeId} {sz bytes m c : Nat} {v : Value} {k : Nat} {xs news : List Value} {a : Addr}
    (h : SatL E w (Row e sz v k xs :: L)) (ht : P.underlying t = some (.slice e)) (hinfo : (P.info? e).map (fun i => (i.zero.map (·.cells.size), i.size, i.bytes)) = some (some sz, sz, bytes))
    (hl : news.length = m * sz) (hnews : ∀ j u, news[j]? = some u → w.cell? (a.add j) = some u) (h1 : ∀ u ∈ news, u.oneCell' = true) (hbytes : (k + m) * bytes ≤ 140737488355328) (h63 : k + m ≤ 9223372036854775807) :
    ∃ v' w', (Builtin.append_ #[t, t] ty #[v, .slice (some a) m c]).run P w = .ok v' w' ∧ SatL E w' (Row e sz v' (k + m) (xs ++ news) :: L) := by
  obtain ⟨i, hi, hii⟩ := Option.map_eq_some_iff.1 hinfo
  simp only [Prod.mk.injEq] at hii
  obtain ⟨z, hz, hzs⟩ := Option.map_eq_some_iff.1 hii.1
  exact h.append ht hi hz hii.2.1 hii.2.2 hzs a m c news hl hnews h1 hbytes (by unfold maxLen; omega)
theorem x_append_at {d : Nat} {e t ty : TypeId} {sz bytes : Nat} {k m c : Nat} {v : Value} {xs news : List Value} {a : Addr} {x y : Operand} {pos : String} {af : Array Edge} {rest : List Oper}
    (h : SatL E w (Row e sz v k xs :: L)) (ht : P.underlying t = some (.slice e)) (hinfo : (P.info? e).map (fun i => (i.zero.map (·.cells.size), i.size, i.bytes)) = some (some sz, sz, bytes))
    (hx : ev f x = v) (hy : ev f y = .slice (some a) m c) (hl : news.length = m * sz) (hnews : ∀ j u, news[j]? = some u → w.cell? (a.add j) = some u) (h1 : ∀ u ∈ news, u.oneCell' = true) (hbytes : (k + m) * bytes ≤ 140737488355328) (h63 : k + m ≤ 9223372036854775807) (hn : Nat.blt d n = true)
    (hnext : ∀ v' w', SatL E w' (Row e sz v' (k + m) (xs ++ news) :: L) → xw ro P ops R n ds rest (upd f d v') w') :
    xw ro P ops R n ds (⟨some d, .call { callee := .builtin .append, args := #[x, y], argTypes := #[t, t] }, ty, pos, af, none⟩ :: rest) f w :=
  let ⟨v', w', hr, hs⟩ := run_append_at (ty := ty) h ht hinfo hl hnews h1 hbytes h63
  x_val (r_append hx hy hr) (nd_of rfl) hn (hnext v' w' hs)
theorem xp_append_at {S : World → Prop} {zz i : Nat} {plan : List (Nat × Nat)} {d : Nat} {e t ty : TypeId} {sz bytes : Nat} {k m c : Nat} {v : Value} {xs news : List Value} {a : Addr} {x y : Operand} {pos : String} {af : Array Edge}
    (h : SatL E w (Row e sz v k xs :: L)) (hi : ops[i]? = some ⟨some d, .call { callee := .builtin .append, args := #[x, y], argTypes := #[t, t] }, ty, pos, af, none⟩) (ht : P.underlying t = some (.slice e)) (hinfo : (P.info? e).map (fun i => (i.zero.map (·.cells.size), i.size, i.bytes)) = some (some sz, sz, bytes))
    (hx : ev f x = v) (hy : ev f y = .slice (some a) m c) (hl : news.length = m * sz) (hnews : ∀ j u, news[j]? = some u → w.cell? (a.add j) = some u) (h1 : ∀ u ∈ news, u.oneCell' = true) (hbytes : (k + m) * bytes ≤ 140737488355328) (h63 : k + m ≤ 9223372036854775807) (hn : Nat.blt d n = true)
    (hnext : ∀ v' w', SatL E w' (Row e sz v' (k + m) (xs ++ news) :: L) → (i ≠ zz → S w') ∧ xp P ops S zz R n ds plan (upd f d v') w') : xp P ops S zz R n ds ((i, 0) :: plan) f w :=
  let ⟨v', w', hr, hs⟩ := run_append_at (ty := ty) h ht hinfo hl hnews h1 hbytes h63
  have h1 := hnext v' w' hs
  xp_val hi (r_append hx hy hr) hn h1.1 h1.2
/-- a slice of parts that are told -/
theorem x_bsliceL {d : Nat} {T e ty : TypeId} {k len : Nat} {z : Value} {parts : Array (Nat × Operand)} {vs : List (Nat × Value)} {c : Array Value} {pos : String} {af : Array Edge} {rest : List Oper} (h : SatL E w L) (hu : P.underlying T = some (.slice e)) (hs : ∀ w, (sizeOf e).run P w = .ok k w) (hz : ∀ w, (zeroValue e).run P w = .ok z w)
    (hv : parts.toList.map (fun p => (p.1, ev f p.2)) = vs) (hf : Instr.fill (fun i => some (i * k, k)) ((Array.range (len * k)).map fun i => z.cells[i % z.cells.size]!) vs = some c) (h1 : Nat.ble (len * k) 16777216 = true) (h0 : (len * k == 0) = false) (hn : Nat.blt d n = true)
    (hnext : ∀ b w', SatL E w' (Cells b c e :: L) → xw ro P ops R n ds rest (upd f d (.slice (some ⟨b, 0, none⟩) len len)) w') :
    xw ro P ops R n ds (⟨some d, .buildSlice T len parts, ty, pos, af, none⟩ :: rest) f w := by
  have e1 : ¬ (16777216 < len * k) := by have := Nat.ble_eq ▸ h1; omega
  have e2 : ¬ (len * k = 0) := by simpa using h0
  refine x_val (v := .slice (some ⟨w.heap.size, 0, none⟩) len len) (w' := w.alloc (.cells c e)) ?_ (nd_of rfl) hn (hnext _ _ (h.alloc (.cells c e)))
  simp only [execOp, Instr.buildSlice, Sem.run_bind, run_underlying hu, Result.andThen_ok, hs]
  simp [e1, e2, hz, hv, hf, newRow]
theorem x_bslice0 {d : Nat} {T e ty : TypeId} {k : Nat} {pos : String} {af : Array Edge} {rest : List Oper} (h : SatL E w L) (hu : P.underlying T = some (.slice e)) (hs : ∀ w, (sizeOf e).run P w = .ok k w) (hn : Nat.blt d n = true)
    (hnext : ∀ b w', SatL E w' (Row e k (.slice (some ⟨b, 0, none⟩) 0 0) 0 [] :: L) → xw ro P ops R n ds rest (upd f d (.slice (some ⟨b, 0, none⟩) 0 0)) w') :
    xw ro P ops R n ds (⟨some d, .buildSlice T 0 #[], ty, pos, af, none⟩ :: rest) f w :=
  x_val (r_buildSlice0 hu hs) (nd_of rfl) hn (hnext _ _ (SatL.row0 (h.alloc (.cells #[] e))))
theorem xp_bslice0 {S : World → Prop} {zz i : Nat} {plan : List (Nat × Nat)} {d : Nat} {T e ty : TypeId} {k : Nat} {pos : String} {af : Array Edge} (h : SatL E w L)
    (hi : ops[i]? = some ⟨some d, .buildSlice T 0 #[], ty, pos, af, none⟩) (hu : P.underlying T = some (.slice e)) (hs : ∀ w, (sizeOf e).run P w = .ok k w) (hn : Nat.blt d n = true)
    (hnext : ∀ b w', SatL E w' (Row e k (.slice (some ⟨b, 0, none⟩) 0 0) 0 [] :: L) → (i ≠ zz → S w') ∧ xp P ops S zz R n ds plan (upd f d (.slice (some ⟨b, 0, none⟩) 0 0)) w') : xp P ops S zz R n ds ((i, 0) :: plan) f w :=
  have h1 := hnext _ _ (SatL.row0 (h.alloc (.cells #[] e)))
  xp_val hi (r_buildSlice0 hu hs) hn h1.1 h1.2
end
end Go.Proofs.Ytfmhcefjbghhlaa
