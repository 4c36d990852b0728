/-
What one operation comes to: an equation for each kind, over any program; memory as assertions.
-/
import Derived.Test.YtfmhcefjbghhlaaX2
namespace Go.Proofs.Ytfmhcefjbghhlaa
open Go Go.RowKit

def nd : Op → Bool | .defer _ => false | _ => true
theorem nd_of {op : Op} (h : nd op = true) : ∀ c, op ≠ .defer c := fun c e => by subst e; cases h

/-- integers of 64 bits -/
def I64 (x : Int) : Prop := -9223372036854775808 ≤ x ∧ x ≤ 9223372036854775807
theorem I64.wrap {x : Int} (h : I64 x) : IntKind.i64.wrap x = x := by
  obtain ⟨h1, h2⟩ := h
  rw [IntKind.wrap_i64]
  omega

theorem add_pt (b o k : Nat) : (⟨b, o, none⟩ : Addr).add k = ⟨b, o + k, none⟩ := by unfold Addr.add; split <;> simp_all

/-- operands by operands -/
def Evs (f : Nat → Value) : List Operand → List Value → Prop
  | [], [] => True
  | a :: as, v :: vs => ev f a = v ∧ Evs f as vs
  | _, _ => False
theorem Evs.nil {f : Nat → Value} : Evs f [] [] := trivial
theorem Evs.cons {f : Nat → Value} {a : Operand} {v : Value} {as : List Operand} {vs : List Value} (h : ev f a = v) (h2 : Evs f as vs) : Evs f (a :: as) (v :: vs) := ⟨h, h2⟩
theorem Evs.map {f : Nat → Value} : ∀ {as : List Operand} {vs : List Value}, Evs f as vs → as.toArray.map (ev f) = vs.toArray
  | [], [], _ => by simp
  | a :: as, v :: vs, h => by
    have ih := Evs.map h.2
    simp only [List.map_toArray] at ih ⊢
    have e : as.map (ev f) = vs := by simpa using ih
    simp [e, h.1]
  | [], _ :: _, h => h.elim
  | _ :: _, [], h => h.elim

section
variable {P : Program} {f : Nat → Value} {w : World} {d : Option Tmp} {ty : TypeId} {pos : String} {af : Array Edge} {g : Option (Nat × Bool)}

theorem r_move {x : Operand} {v : Value} (hx : ev f x = v) : (execOp (ev f) ⟨d, .move x, ty, pos, af, g⟩).run P w = .ok (.value v) w := by subst hx; rfl
theorem r_assign {x : Operand} {v : Value} (hx : ev f x = v) : (execOp (ev f) ⟨d, .assign x, ty, pos, af, g⟩).run P w = .ok (.value v) w := by subst hx; rfl
theorem r_pick_t {c a b : Operand} {v : Value} (hc : ev f c = .bool true) (hx : ev f a = v) : (execOp (ev f) ⟨d, .pick c a b, ty, pos, af, g⟩).run P w = .ok (.value v) w := by
  subst hx; simp [execOp, hc, asBool]
theorem r_pick_f {c a b : Operand} {v : Value} (hc : ev f c = .bool false) (hx : ev f b = v) : (execOp (ev f) ⟨d, .pick c a b, ty, pos, af, g⟩).run P w = .ok (.value v) w := by
  subst hx; simp [execOp, hc, asBool]
theorem r_nilCheck {x : Operand} {a : Addr} (hx : ev f x = .pointer (some a)) : (execOp (ev f) ⟨d, .nilCheck x, ty, pos, af, g⟩).run P w = .ok (.value (.pointer (some a))) w := by
  simp [execOp, hx]
theorem r_extract {x : Operand} {vs : Array Value} {k : Nat} {v : Value} (hx : ev f x = .tuple vs) (hv : vs[k]? = some v) : (execOp (ev f) ⟨d, .extract x k, ty, pos, af, g⟩).run P w = .ok (.value v) w := by
  simp [execOp, hx, Instr.extract, hv]
theorem r_not {x : Operand} {b b' : Bool} (hx : ev f x = .bool b) (hb : (!b) = b') {t : TypeId} : (execOp (ev f) ⟨d, .unOp .not t x, ty, pos, af, g⟩).run P w = .ok (.value (.bool b')) w := by
  subst hb; simp [execOp, hx, Op.unary]
theorem r_func {fn : Fn} {as cs : List Operand} {vs us : List Value} (ha : Evs f as vs) (hc : Evs f cs us) : (execOp (ev f) ⟨d, .makeFunc fn as.toArray cs.toArray, ty, pos, af, g⟩).run P w = .ok (.value (.func fn vs.toArray us.toArray)) w := by
  simp only [execOp, ha.map, hc.map, Instr.makeFunc]; rfl

/-! integers -/
theorem r_int {op : BinOp} {t yt : TypeId} {x y : Operand} {k : IntKind} {a b : Int} {v : Value} (hx : ev f x = .int k a) (hy : ev f y = .int k b)
    (h : (binOp op t (.int k a) (.int k b)).run P w = .ok v w) : (execOp (ev f) ⟨d, .binOp op t x y yt, ty, pos, af, g⟩).run P w = .ok (.value v) w := by
  have e : (eqGuard op t x y (.int k a) (.int k b)).run P w = .ok () w := by
    unfold eqGuard; cases op <;> rfl
  simp [execOp, hx, hy, e, h]
theorem r_add {t yt : TypeId} {x y : Operand} {a b c : Int} (hx : ev f x = .int .i64 a) (hy : ev f y = .int .i64 b) (hc : a + b = c) (hb : I64 c) :
    (execOp (ev f) ⟨d, .binOp .add t x y yt, ty, pos, af, g⟩).run P w = .ok (.value (.int .i64 c)) w :=
  r_int hx hy (by subst hc; simp [binOp, Op.intArith, hb.wrap])
theorem r_sub {t yt : TypeId} {x y : Operand} {a b c : Int} (hx : ev f x = .int .i64 a) (hy : ev f y = .int .i64 b) (hc : a - b = c) (hb : I64 c) :
    (execOp (ev f) ⟨d, .binOp .sub t x y yt, ty, pos, af, g⟩).run P w = .ok (.value (.int .i64 c)) w :=
  r_int hx hy (by subst hc; simp [binOp, Op.intArith, hb.wrap])
theorem r_lss {t yt : TypeId} {x y : Operand} {k : IntKind} {a b : Int} {r : Bool} (hx : ev f x = .int k a) (hy : ev f y = .int k b) (hr : decide (a < b) = r) :
    (execOp (ev f) ⟨d, .binOp .lss t x y yt, ty, pos, af, g⟩).run P w = .ok (.value (.bool r)) w :=
  r_int hx hy (by subst hr; simp [binOp, Op.intCmp])
theorem r_leq {t yt : TypeId} {x y : Operand} {k : IntKind} {a b : Int} {r : Bool} (hx : ev f x = .int k a) (hy : ev f y = .int k b) (hr : decide (a ≤ b) = r) :
    (execOp (ev f) ⟨d, .binOp .leq t x y yt, ty, pos, af, g⟩).run P w = .ok (.value (.bool r)) w :=
  r_int hx hy (by subst hr; simp [binOp, Op.intCmp])
theorem r_gtr {t yt : TypeId} {x y : Operand} {k : IntKind} {a b : Int} {r : Bool} (hx : ev f x = .int k a) (hy : ev f y = .int k b) (hr : decide (b < a) = r) :
    (execOp (ev f) ⟨d, .binOp .gtr t x y yt, ty, pos, af, g⟩).run P w = .ok (.value (.bool r)) w :=
  r_int hx hy (by subst hr; simp [binOp, Op.intCmp])
theorem r_geq {t yt : TypeId} {x y : Operand} {k : IntKind} {a b : Int} {r : Bool} (hx : ev f x = .int k a) (hy : ev f y = .int k b) (hr : decide (b ≤ a) = r) :
    (execOp (ev f) ⟨d, .binOp .geq t x y yt, ty, pos, af, g⟩).run P w = .ok (.value (.bool r)) w :=
  r_int hx hy (by subst hr; simp [binOp, Op.intCmp])
theorem r_eql {t yt : TypeId} {x y : Operand} {k : IntKind} {a b : Int} {r : Bool} (hx : ev f x = .int k a) (hy : ev f y = .int k b) (hr : decide (a = b) = r) :
    (execOp (ev f) ⟨d, .binOp .eql t x y yt, ty, pos, af, g⟩).run P w = .ok (.value (.bool r)) w :=
  r_int hx hy (by subst hr; simp [binOp, Op.intCmp]; by_cases e : a = b <;> simp [e])
theorem r_neq {t yt : TypeId} {x y : Operand} {k : IntKind} {a b : Int} {r : Bool} (hx : ev f x = .int k a) (hy : ev f y = .int k b) (hr : decide (a ≠ b) = r) :
    (execOp (ev f) ⟨d, .binOp .neq t x y yt, ty, pos, af, g⟩).run P w = .ok (.value (.bool r)) w :=
  r_int hx hy (by subst hr; simp [binOp, Op.intCmp]; by_cases e : a = b <;> simp [e])
theorem r_eqnil {t yt e : TypeId} {x y : Operand} {p : Option Addr} {r : Bool} (hu : P.underlying t = some (.pointer e)) (hx : ev f x = .pointer p) (hy : ev f y = .pointer none) (hr : p.isNone = r) :
    (execOp (ev f) ⟨d, .binOp .eql t x y yt, ty, pos, af, g⟩).run P w = .ok (.value (.bool r)) w := by
  subst hr
  have hp : P.underlying t = some (.pointer (P.pointee t)) := by simp [Program.pointee, hu]
  cases p <;> simp [execOp, hx, hy, eqGuard, binOp, run_equal_pointer_nil (P := P) (w := w) t _ hp]

theorem r_nenil {t yt e : TypeId} {x y : Operand} {p : Option Addr} {r : Bool} (hu : P.underlying t = some (.pointer e)) (hx : ev f x = .pointer p) (hy : ev f y = .pointer none) (hr : p.isSome = r) :
    (execOp (ev f) ⟨d, .binOp .neq t x y yt, ty, pos, af, g⟩).run P w = .ok (.value (.bool r)) w := by
  subst hr
  have hp : P.underlying t = some (.pointer (P.pointee t)) := by simp [Program.pointee, hu]
  cases p <;> simp [execOp, hx, hy, eqGuard, binOp, run_equal_pointer_nil (P := P) (w := w) t _ hp]

theorem r_min {ts : Array TypeId} {x y : Operand} {a b c : Int} (hx : ev f x = .int .i64 a) (hy : ev f y = .int .i64 b) (hc : (if b < a then b else a) = c) :
    (execOp (ev f) ⟨d, .call { callee := .builtin .min, args := #[x, y], argTypes := ts }, ty, pos, af, g⟩).run P w = .ok (.value (.int .i64 c)) w := by
  subst hc; simp [execOp, resolve, invoke, builtin, hx, hy, run_min_int2]
theorem r_max {ts : Array TypeId} {x y : Operand} {a b c : Int} (hx : ev f x = .int .i64 a) (hy : ev f y = .int .i64 b) (hc : (if b > a then b else a) = c) :
    (execOp (ev f) ⟨d, .call { callee := .builtin .max, args := #[x, y], argTypes := ts }, ty, pos, af, g⟩).run P w = .ok (.value (.int .i64 c)) w := by
  subst hc; simp [execOp, resolve, invoke, builtin, hx, hy, run_max_int2]
theorem r_len {t e : TypeId} {x : Operand} {a : Option Addr} {n c : Nat} (hu : P.underlying t = some (.slice e)) (hx : ev f x = .slice a n c) :
    (execOp (ev f) ⟨d, .call { callee := .builtin .len, args := #[x], argTypes := #[t] }, ty, pos, af, g⟩).run P w = .ok (.value (.int .i64 (n : Int))) w := by
  simp [execOp, resolve, invoke, builtin, hx, Builtin.len_, run_underlying hu, goInt]

/-! addresses -/
theorem r_fieldAddr {T : TypeId} {fs : Array Field} {fd : Field} {x : Operand} {k b o o' s : Nat} (hu : P.underlying T = some (.struct fs)) (hf : fs[k]? = some fd) (hs : ∀ w, (sizeOf fd.type).run P w = .ok s w) (hs0 : (s == 0) = false)
    (hx : ev f x = .pointer (some ⟨b, o, none⟩)) (ho : o + fd.offset = o') : (execOp (ev f) ⟨d, .fieldAddr T x k, ty, pos, af, g⟩).run P w = .ok (.value (.pointer (some ⟨b, o', none⟩))) w := by
  subst ho
  have h0 : s ≠ 0 := by simpa using hs0
  simp [execOp, hx, Instr.fieldAt, run_underlying hu, hf, Instr.sureAddr, fieldPlace, hs, h0, add_pt]
theorem r_fieldAddrZ {T : TypeId} {fs : Array Field} {fd : Field} {x : Operand} {k b o s : Nat} (hu : P.underlying T = some (.struct fs)) (hf : fs[k]? = some fd) (hs : ∀ w, (sizeOf fd.type).run P w = .ok s w) (hs0 : (s == 0) = false)
    (hx : ev f x = .pointer (some ⟨b, o, none⟩)) (ho : fd.offset = 0) : (execOp (ev f) ⟨d, .fieldAddr T x k, ty, pos, af, g⟩).run P w = .ok (.value (.pointer (some ⟨b, o, none⟩))) w :=
  r_fieldAddr hu hf hs hs0 hx (by rw [ho]; rfl)
theorem r_build02 {T : TypeId} {zs : Array Value} {f0 f1 : Field} {s0 s1 : Nat} (hu : P.underlying T = some (.struct #[f0, f1])) (hz : ∀ w, (zeroValue T).run P w = .ok (.agg zs) w) (hs0 : ∀ w, (sizeOf f0.type).run P w = .ok s0 w) (hs1 : ∀ w, (sizeOf f1.type).run P w = .ok s1 w) :
    (execOp (ev f) ⟨d, .build T #[], ty, pos, af, g⟩).run P w = .ok (.value (.agg zs)) w := by
  have e : (Value.agg zs).cells = zs := rfl
  simp [execOp, Instr.build, hz, run_underlying hu, hs0, hs1, Instr.fill, e]
theorem r_indexAddr {T e : TypeId} {x y : Operand} {k : IntKind} {b o o' s len cap : Nat} {i : Int} (hu : P.underlying T = some (.slice e)) (hs : ∀ w, (sizeOf e).run P w = .ok s w)
    (hx : ev f x = .slice (some ⟨b, o, none⟩) len cap) (hy : ev f y = .int k i) (h0 : 0 ≤ i) (h1 : i < (len : Int)) (ho : o + i.toNat * s = o') :
    (execOp (ev f) ⟨d, .indexAddr T x y, ty, pos, af, g⟩).run P w = .ok (.value (.pointer (some ⟨b, o', none⟩))) w := by
  subst ho
  simp [execOp, hx, hy, Instr.indexAt, asIntOf, run_underlying hu, h0, h1, hs, add_pt]

theorem r_indexAddr0 {T e : TypeId} {x y : Operand} {k : IntKind} {b s len cap : Nat} {i : Int} (hu : P.underlying T = some (.slice e)) (hs : ∀ w, (sizeOf e).run P w = .ok s w)
    (hx : ev f x = .slice (some ⟨b, 0, none⟩) len cap) (hy : ev f y = .int k i) (h0 : 0 ≤ i) (h1 : i < (len : Int)) :
    (execOp (ev f) ⟨d, .indexAddr T x y, ty, pos, af, g⟩).run P w = .ok (.value (.pointer (some ⟨b, i.toNat * s, none⟩))) w :=
  r_indexAddr hu hs hx hy h0 h1 (Nat.zero_add _)
theorem r_indexAddrN {T e : TypeId} {x y : Operand} {k : IntKind} {b s len cap i : Nat} (hu : P.underlying T = some (.slice e)) (hs : ∀ w, (sizeOf e).run P w = .ok s w)
    (hx : ev f x = .slice (some ⟨b, 0, none⟩) len cap) (hy : ev f y = .int k (i : Int)) (h1 : i < len) :
    (execOp (ev f) ⟨d, .indexAddr T x y, ty, pos, af, g⟩).run P w = .ok (.value (.pointer (some ⟨b, i * s, none⟩))) w :=
  r_indexAddr hu hs hx hy (by omega) (by omega) (by simp)

/-! loads and stores -/
theorem r_load {E : Env} {L : List SProp} {T t : TypeId} {x : Operand} {b i : Nat} {cs : Array Value} {v : Value} (h : SatL E w L) (k : Nat) (hk : L[k]? = some (Cells b cs t))
    (ha : ∀ w, (isAgg T).run P w = .ok false w) (hx : ev f x = .pointer (some ⟨b, i, none⟩)) (hv : cs[i]? = some v) : (execOp (ev f) ⟨d, .load T x, ty, pos, af, g⟩).run P w = .ok (.value v) w := by
  have hc := h.cell k hk hv
  simp [execOp, hx, Instr.loadAt, Instr.sureAddr, loadVar, ha, hc]

theorem run_loadCells_at {E : Env} {L : List SProp} {t : TypeId} {b o n : Nat} {cs : Array Value} (h : SatL E w L) (k : Nat) (hk : L[k]? = some (Cells b cs t)) (hn : o + n ≤ cs.size) :
    (loadCells ⟨b, o, none⟩ n).run P w = .ok (cs.extract o (o + n)) w := by
  have h1 := run_loadCells_list (P := P) w ⟨b, o, none⟩ (cs.extract o (o + n)).toList (fun j v hv => by
    rw [add_pt]
    have hv' : (cs.extract o (o + n))[j]? = some v := by rw [Array.getElem?_toList] at hv; exact hv
    rw [Array.getElem?_extract] at hv'
    split at hv'
    · exact h.cell k hk hv'
    · cases hv')
  have hlen : (cs.extract o (o + n)).toList.length = n := by simp; omega
  rw [hlen] at h1
  rw [h1, Array.toArray_toList]

theorem r_loadAgg {E : Env} {L : List SProp} {T t : TypeId} {x : Operand} {b o n : Nat} {cs ds : Array Value} (h : SatL E w L) (k : Nat) (hk : L[k]? = some (Cells b cs t))
    (ha : ∀ w, (isAgg T).run P w = .ok true w) (hs : ∀ w, (sizeOf T).run P w = .ok n w) (hx : ev f x = .pointer (some ⟨b, o, none⟩)) (hn : o + n ≤ cs.size) (hd : cs.extract o (o + n) = ds) :
    (execOp (ev f) ⟨d, .load T x, ty, pos, af, g⟩).run P w = .ok (.value (.agg ds)) w := by
  subst hd
  have hc := run_loadCells_at (P := P) h k hk hn
  simp [execOp, hx, Instr.loadAt, Instr.sureAddr, loadVar, ha, hs, hc]

theorem r_store {E : Env} {L : List SProp} {T t : TypeId} {x y : Operand} {b i : Nat} {cs : Array Value} {v : Value} (h : SatL E w L) (k : Nat) (hk : L[k]? = some (Cells b cs t))
    (hs : ∀ w, (sizeOf T).run P w = .ok 1 w) (hx : ev f x = .pointer (some ⟨b, i, none⟩)) (hy : ev f y = v) (hv : v.oneCell' = true) {u : Value} (hi : cs[i]? = some u) :
    (execOp (ev f) ⟨d, .store T x y, ty, pos, af, g⟩).run P w = .ok .skip (w.setCell ⟨b, i, none⟩ v) := by
  have hcell := h.cell (i := i) (v := u) k hk hi
  have hfr := frozen_of_row w b i cs t (h.block k hk)
  have hcs : v.cells = #[v] := by cases v <;> first | rfl | cases hv
  simp [execOp, hx, hy, Instr.storeAt, Instr.sureAddr, storeVar, hcs, hs, storeCells, add_pt, run_store P w _ v _ hv, hcell, hfr]

theorem r_storeAgg {E : Env} {L : List SProp} {T t : TypeId} {x y : Operand} {b o n : Nat} {cs vs : Array Value} (h : SatL E w L) (k : Nat) (hk : L[k]? = some (Cells b cs t))
    (hs : ∀ w, (sizeOf T).run P w = .ok n w) (hx : ev f x = .pointer (some ⟨b, o, none⟩)) (hy : ev f y = .agg vs) (hv : vs.size = n) (h1 : ∀ v ∈ vs.toList, v.oneCell' = true) (hi : o + n ≤ cs.size) :
    (execOp (ev f) ⟨d, .store T x y, ty, pos, af, g⟩).run P w = .ok .skip (w.setRow b (cs.toList.take o ++ vs.toList ++ cs.toList.drop (o + n)).toArray) := by
  have hst := run_storeCells_at P b o t vs.toList 0 cs w (h.block k hk) (by simp [hv]; omega) h1
  simp only [Nat.add_zero] at hst
  have hcs : (Value.agg vs).cells = vs := rfl
  simp [execOp, hx, hy, Instr.storeAt, Instr.sureAddr, storeVar, hcs, hs, hv] at hst ⊢
  simp [hst]

theorem r_alloc {T : TypeId} {z : Value} (hz : ∀ w, (zeroValue T).run P w = .ok z w) : (execOp (ev f) ⟨d, .alloc T, ty, pos, af, g⟩).run P w = .ok (.value (.pointer (some ⟨w.heap.size, 0, none⟩))) (w.alloc (.cells z.cells T)) := by
  simp [execOp, Instr.alloc, hz, newVar, newRow]
theorem r_box {T : TypeId} {x : Operand} {v : Value} (hx : ev f x = v) : (execOp (ev f) ⟨d, .box T x, ty, pos, af, g⟩).run P w = .ok (.value (.pointer (some ⟨w.heap.size, 0, none⟩))) (w.alloc (.cells v.cells T)) := by
  subst hx
  simp [execOp, Instr.box, newVar, newRow]

/-! values of several cells -/
structure Ok (n : Nat) (c : Array Value) : Prop where
  size : c.size = n
  one : ∀ v ∈ c.toList, v.oneCell' = true

theorem ext_full {n : Nat} {c : Array Value} (h : c.size = n) : c.extract 0 (0 + n) = c := by subst h; simp
theorem over_full {n : Nat} {cs vs : Array Value} (h : cs.size = n) : (cs.toList.take 0 ++ vs.toList ++ cs.toList.drop (0 + n)).toArray = vs := by
  have : cs.toList.drop (0 + n) = [] := List.drop_eq_nil_of_le (by simp [h])
  rw [this]; simp

theorem lv_one {E : Env} {L : List SProp} {T t : TypeId} {b i : Nat} {cs : Array Value} {v : Value} (h : SatL E w L) (k : Nat) (hk : L[k]? = some (Cells b cs t)) (ha : ∀ w, (isAgg T).run P w = .ok false w) (hv : cs[i]? = some v) :
    (loadVar T ⟨b, i, none⟩).run P w = .ok v w := by
  have hc := h.cell k hk hv
  simp [loadVar, ha, hc]
theorem lv_agg {E : Env} {L : List SProp} {T t : TypeId} {b n : Nat} {cs : Array Value} (h : SatL E w L) (k : Nat) (hk : L[k]? = some (Cells b cs t)) (ha : ∀ w, (isAgg T).run P w = .ok true w) (hs : ∀ w, (sizeOf T).run P w = .ok n w) (hn : cs.size = n) :
    (loadVar T ⟨b, 0, none⟩).run P w = .ok (.agg cs) w := by
  have hc := run_loadCells_at (P := P) (o := 0) (n := n) h k hk (by omega)
  rw [ext_full hn] at hc
  simp [loadVar, ha, hs, hc]

/-! calls -/
theorem r_call {h : FuncId} {as : List Operand} {vs : List Value} {ts : Array TypeId} (hc : ∀ args w, (callFunc h args).run P w = .ok (.enter h args) w) (ha : Evs f as vs) :
    (execOp (ev f) ⟨d, .call { callee := .value (.func h), args := as.toArray, argTypes := ts }, ty, pos, af, g⟩).run P w = .ok (.enter h vs.toArray) w := by
  have e := ha.map
  simp only [execOp, resolve, Sem.run_bind, e, ev, Deferred.ofValue, Sem.run_pure, Result.andThen_ok, invoke, hc]
  simp
theorem r_callv {h : FuncId} {x : Operand} {us : Array Value} {as : List Operand} {vs : List Value} {ts : Array TypeId} (hc : ∀ args w, (callFunc h args).run P w = .ok (.enter h args) w) (hx : ev f x = .func (.func h) #[] us) (ha : Evs f as vs) :
    (execOp (ev f) ⟨d, .call { callee := .value x, args := as.toArray, argTypes := ts }, ty, pos, af, g⟩).run P w = .ok (.enter h (vs.toArray ++ us)) w := by
  have e := ha.map
  simp only [execOp, resolve, Sem.run_bind, e, hx, Deferred.ofValue, Sem.run_pure, Result.andThen_ok, invoke, hc]
  simp
end
end Go.Proofs.Ytfmhcefjbghhlaa
