/-
Parts of a slice that was handed in; guarded effects in a region that draws its order.
-/
import Derived.Test.YtimieinmphhmmaaH7
import Derived.Laws.Entries
import Derived.DataElems
namespace Go.Proofs.Ytimieinmphhmmaa
open Go Go.RowKit
section
variable {P : Program} {f : Nat → Value} {w : World} {d : Option Tmp} {ty : TypeId} {pos : String} {af : Array Edge} {g : Option (Tmp × Bool)}
theorem r_sliceAnyTo {T e : TypeId} {x y : Operand} {s : Nat} {kk : IntKind} {a : Option Addr} {len cap h : Nat} (hu : P.underlying T = some (.slice e)) (hs : ∀ w, (sizeOf e).run P w = .ok s w)
    (hx : ev f x = .slice a len cap) (hy : ev f y = .int kk (h : Int)) (h1 : h ≤ cap) :
    (execOp (ev f) ⟨d, .slice T x none (some y) none, ty, pos, af, g⟩).run P w = .ok (.value (.slice a h cap)) w := by
  have e0 : a.map (fun b => b.add 0) = a := by cases a <;> simp [Addr.add]
  simp [execOp, hx, hy, Instr.sliceAt, Instr.slice, Instr.sliceBounds, Instr.sliceBound, asIntOf, run_underlying hu, hs, h1, e0]
theorem r_sliceAnyFrom {T e : TypeId} {x y : Operand} {s : Nat} {kk : IntKind} {a : Option Addr} {len cap l : Nat} (hu : P.underlying T = some (.slice e)) (hs : ∀ w, (sizeOf e).run P w = .ok s w)
    (hx : ev f x = .slice a len cap) (hy : ev f y = .int kk (l : Int)) (h1 : l ≤ len) (h2 : len ≤ cap) :
    (execOp (ev f) ⟨d, .slice T x (some y) none none, ty, pos, af, g⟩).run P w = .ok (.value (.slice (if cap = l then a else a.map (·.add (l * s))) (len - l) (cap - l))) w := by
  by_cases hc : cap = l
  · subst hc
    simp [execOp, hx, hy, Instr.sliceAt, Instr.slice, Instr.sliceBounds, Instr.sliceBound, asIntOf, run_underlying hu, hs, h1]
  · simp [execOp, hx, hy, Instr.sliceAt, Instr.slice, Instr.sliceBounds, Instr.sliceBound, asIntOf, run_underlying hu, hs, h1, hc]
end
section
variable {E : Env} {R L : List SProp} {w : World} {zs : List Int} {v : Value} {k : IntKind} {a : Option Addr} {n cap : Nat}
theorem Reads.to {i : Nat} (hv : Reads E R (.slice a n cap) k zs) (hi : i ≤ zs.length) : Reads E R (.slice a i cap) k (zs.take i) := fun w h => by
  obtain ⟨a2, cap2, e1, h1, h2, h3⟩ := hv w h
  cases e1
  refine ⟨a, cap, by rw [List.length_take, Nat.min_eq_left hi], by simp; omega, h2, fun j r hj => ?_⟩
  rw [List.getElem?_take] at hj
  split at hj
  · exact h3 j r hj
  · cases hj
theorem Reads.from {i : Nat} (hv : Reads E R (.slice a n cap) k zs) : Reads E R (.slice (if cap = i then a else a.map (·.add (i * 1))) (n - i) (cap - i)) k (zs.drop i) := fun w h => by
  obtain ⟨a2, cap2, e1, h1, h2, h3⟩ := hv w h
  cases e1
  refine ⟨_, _, by rw [List.length_drop], by simp; omega, by omega, fun j r hj => ?_⟩
  rw [List.getElem?_drop] at hj
  have hlt := (List.getElem?_eq_some_iff.1 hj).1
  obtain ⟨a', e2, hc⟩ := h3 _ r hj
  rw [if_neg (by omega)]
  refine ⟨a'.add (i * 1), by rw [e2]; rfl, ?_⟩
  rw [Addr.add_add, Nat.mul_one]
  exact hc
end
section
variable {P : Program} {ops : Array Oper} {S : World → Prop} {z : Nat} {R : Exit → (Nat → Value) → World → Prop} {n : Nat} {ds : List Deferred} {plan : List (Nat × Nat)} {f : Nat → Value} {w : World}
theorem xp_valG {i d e j : Nat} {op : Op} {ty : TypeId} {pos : String} {af : Array Edge} {b : Bool} {v : Value} {w' : World} (hi : ops[i]? = some ⟨some d, op, ty, pos, af, some (j, b)⟩)
    (hj : (ops[j]?).bind (·.dst) = some e) (hd : Nat.blt e n = true) (hv : ev f (.tmp e) = .bool b)
    (hr : (execOp (ev f) ⟨some d, op, ty, pos, af, some (j, b)⟩).run P w = .ok (.value v) w') (hn : Nat.blt d n = true) (hS : i ≠ z → S w') (h : xp P ops S z R n ds plan (upd f d v) w') : xp P ops S z R n ds ((i, 0) :: plan) f w := by
  refine xp_one fun listed a hp ha hrd => ?_
  unfold wpOp
  have e' : Region.wanted ⟨some d, op, ty, pos, af, some (j, b)⟩ (yielded ops a.tmps) = true := by simp [Region.wanted, ha.yielded hj hd hv]
  simp only [hi, e', if_true]
  refine .inl ?_
  unfold Oper.wp
  rw [ha.eval, hr, Oper.upon_value]
  exact ⟨fun _ => hS, h _ hp _ (ha.put hn v) (set_z hrd hS)⟩
theorem xp_bslice0G {E : Env} {L : List SProp} {i d e0 j : Nat} {T e ty : TypeId} {k : Nat} {pos : String} {af : Array Edge} {b : Bool} (h : SatL E w L)
    (hi : ops[i]? = some ⟨some d, .buildSlice T 0 #[], ty, pos, af, some (j, b)⟩) (hj : (ops[j]?).bind (·.dst) = some e0) (hd : Nat.blt e0 n = true) (hv : ev f (.tmp e0) = .bool b) (hu : P.underlying T = some (.slice e)) (hs : ∀ w, (sizeOf e).run P w = .ok k w) (hn : Nat.blt d n = true)
    (hnext : ∀ b w', SatL E w' (Row e k (.slice (some ⟨b, 0, none⟩) 0 0) 0 [] :: L) → (i ≠ z → S w') ∧ xp P ops S z R n ds plan (upd f d (.slice (some ⟨b, 0, none⟩) 0 0)) w') : xp P ops S z R n ds ((i, 0) :: plan) f w :=
  have h1 := hnext _ _ (SatL.row0 (h.alloc (.cells #[] e)))
  xp_valG hi hj hd hv (r_buildSlice0 hu hs) hn h1.1 h1.2
end
end Go.Proofs.Ytimieinmphhmmaa
