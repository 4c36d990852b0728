/-
Frames as functions, one step lemma per operation kind, code combinators: the walk's own small calculus, over any program.
-/
import Derived.WalkKit
import Derived.TacticsIn
import Derived.OrdersHeld
import Derived.KernelRfl
namespace Go.Proofs.Ytfmhcefjbghhlaa
open Go Go.RowKit

/-- the fence that bars nothing -/
def WF (ro : Option Nat) : Fence := { Fence.wide with round := ro }

def upd (f : Nat → Value) (d : Nat) (v : Value) : Nat → Value := fun t => if t = d then v else f t
theorem upd_apply (f : Nat → Value) (d : Nat) (v : Value) (t : Nat) : upd f d v t = if t = d then v else f t := rfl

structure Is (a : Act) (n : Nat) (f : Nat → Value) (ds : List Deferred) : Prop where
  size : a.tmps.size = n
  get : ∀ t, a.tmps.getD t undef = f t
  defers : a.defers = ds

theorem Is.put {a : Act} {n : Nat} {f : Nat → Value} {ds : List Deferred} (h : Is a n f ds) {d : Nat} (hd : Nat.blt d n = true) (v : Value) : Is (a.put (some d) v) n (upd f d v) ds := by
  have hd' : d < n := (Nat.blt_eq ▸ hd)
  refine ⟨by simp [Act.put, h.size], fun t => ?_, h.defers⟩
  simp only [Act.put, upd]
  rw [Array.getD_eq_getD_getElem?, Array.getElem?_setIfInBounds]
  by_cases e : d = t
  · subst e
    rw [if_pos rfl, if_pos (by rw [h.size]; exact hd'), if_pos rfl]
    rfl
  · rw [if_neg e, if_neg (fun e' => e e'.symm), ← h.get t, Array.getD_eq_getD_getElem?]

theorem Is.putNone {a : Act} {n : Nat} {f : Nat → Value} {ds : List Deferred} (h : Is a n f ds) (v : Value) : Is (a.put none v) n f ds := h

def ev (f : Nat → Value) : Operand → Value
  | .tmp t => f t
  | .const v => v
  | .global g => .pointer (some ⟨g, 0, none⟩)
  | .func g => .func (.func g) #[] #[]

theorem Is.eval {a : Act} {n : Nat} {f : Nat → Value} {ds : List Deferred} (h : Is a n f ds) : a.eval = ev f := by
  funext x
  cases x with
  | tmp t => exact h.get t
  | const v => rfl
  | global g => rfl
  | func g => rfl

theorem Is.yielded {a : Act} {n : Nat} {f : Nat → Value} {ds : List Deferred} (h : Is a n f ds) {ops : Array Oper} {j d : Nat} {b : Bool}
    (hj : (ops[j]?).bind (·.dst) = some d) (hd : Nat.blt d n = true) (hv : f d = .bool b) : yielded ops a.tmps j = some b := by
  have hd' : d < n := (Nat.blt_eq ▸ hd)
  have hg := h.get d
  rw [Array.getD_eq_getD_getElem?, Array.getElem?_eq_getElem (by rw [h.size]; exact hd')] at hg
  simp only [Option.getD_some] at hg
  unfold Go.yielded
  rw [hj]
  simp only [Option.bind_some]
  rw [Array.getElem?_eq_getElem (by rw [h.size]; exact hd'), hg, hv]

theorem Is.yielded_none {a : Act} {n : Nat} {f : Nat → Value} {ds : List Deferred} (h : Is a n f ds) {ops : Array Oper} {j d : Nat}
    (hj : (ops[j]?).bind (·.dst) = some d) (hd : Nat.blt d n = true) (hv : f d = undef) : Go.yielded ops a.tmps j = none := by
  have hd' : d < n := (Nat.blt_eq ▸ hd)
  have hg := h.get d
  rw [Array.getD_eq_getD_getElem?, Array.getElem?_eq_getElem (by rw [h.size]; exact hd')] at hg
  simp only [Option.getD_some] at hg
  unfold Go.yielded
  rw [hj]
  simp only [Option.bind_some]
  rw [Array.getElem?_eq_getElem (by rw [h.size]; exact hd'), hg, hv]
  rfl

/-- posts over frames -/
def qf (n : Nat) (ds : List Deferred) (R : Exit → (Nat → Value) → World → Prop) : Exit → Act → World → Prop := fun e a w => ∃ f, Is a n f ds ∧ R e f w

/-- a list of operations, from a frame -/
def xw (ro : Option Nat) (P : Program) (ops : Array Oper) (R : Exit → (Nat → Value) → World → Prop) (n : Nat) (ds : List Deferred) (l : List Oper) (f : Nat → Value) (w : World) : Prop :=
  ∀ a, Is a n f ds → wpListIn (WF ro) 0 P ops (qf n ds R) l a w

def xc (ro : Option Nat) (P : Program) (R : Exit → (Nat → Value) → World → Prop) (n : Nat) (ds : List Deferred) (c : Code) (f : Nat → Value) (w : World) : Prop :=
  ∀ a, Is a n f ds → c.wpIn (WF ro) 0 P (qf n ds R) a w

section
variable {ro : Option Nat} {P : Program} {ops : Array Oper} {R : Exit → (Nat → Value) → World → Prop} {n : Nat} {ds : List Deferred} {f : Nat → Value} {w w' : World}

theorem xw_nil (h : R .normal f w) : xw ro P ops R n ds [] f w := fun _ ha => ⟨f, ha, h⟩

/-- an operation that yields a value -/
theorem xw_val {dst : Option Tmp} {op : Op} {ty : TypeId} {pos : String} {af : Array Edge} {rest : List Oper} {v : Value}
    (hr : (execOp (ev f) ⟨dst, op, ty, pos, af, none⟩).run P w = .ok (.value v) w') (hnd : ∀ c, op ≠ .defer c)
    (h : ∀ a, Is a n f ds → wpListIn (WF ro) 0 P ops (qf n ds R) rest (a.put dst v) w') : xw ro P ops R n ds (⟨dst, op, ty, pos, af, none⟩ :: rest) f w := by
  intro a ha
  have e : Region.wanted ⟨dst, op, ty, pos, af, none⟩ (yielded ops a.tmps) = true := rfl
  simp only [wpListIn, e, if_true, Oper.wpIn]
  refine ⟨fun _ _ => trivial, ?_⟩
  rw [Oper.semAt_eq _ _ _ (by exact hnd), ha.eval, hr, Oper.uponIn_value]
  exact h a ha

theorem x_val {d : Nat} {op : Op} {ty : TypeId} {pos : String} {af : Array Edge} {rest : List Oper} {v : Value}
    (hr : (execOp (ev f) ⟨some d, op, ty, pos, af, none⟩).run P w = .ok (.value v) w') (hnd : ∀ c, op ≠ .defer c) (hn : Nat.blt d n = true)
    (h : xw ro P ops R n ds rest (upd f d v) w') : xw ro P ops R n ds (⟨some d, op, ty, pos, af, none⟩ :: rest) f w :=
  xw_val hr hnd fun _ ha => h _ (ha.put hn v)

/-- an operation that yields nothing -/
theorem x_skip {op : Op} {ty : TypeId} {pos : String} {af : Array Edge} {rest : List Oper}
    (hr : (execOp (ev f) ⟨none, op, ty, pos, af, none⟩).run P w = .ok .skip w') (hnd : ∀ c, op ≠ .defer c)
    (h : xw ro P ops R n ds rest f w') : xw ro P ops R n ds (⟨none, op, ty, pos, af, none⟩ :: rest) f w := by
  intro a ha
  have e : Region.wanted ⟨none, op, ty, pos, af, none⟩ (yielded ops a.tmps) = true := rfl
  simp only [wpListIn, e, if_true, Oper.wpIn]
  refine ⟨fun _ _ => trivial, ?_⟩
  rw [Oper.semAt_eq _ _ _ (by exact hnd), ha.eval, hr, Oper.uponIn_skip]
  exact h _ ha

/-- a guard that is met -/
theorem x_take {dst : Option Tmp} {op : Op} {ty : TypeId} {pos : String} {af : Array Edge} {rest : List Oper} {j d : Nat} {b : Bool}
    (hj : (ops[j]?).bind (·.dst) = some d) (hd : Nat.blt d n = true) (hv : f d = .bool b)
    (h : xw ro P ops R n ds (⟨dst, op, ty, pos, af, none⟩ :: rest) f w) : xw ro P ops R n ds (⟨dst, op, ty, pos, af, some (j, b)⟩ :: rest) f w := by
  intro a ha
  have h1 := h a ha
  have e : Region.wanted ⟨dst, op, ty, pos, af, none⟩ (yielded ops a.tmps) = true := rfl
  have e' : Region.wanted ⟨dst, op, ty, pos, af, some (j, b)⟩ (yielded ops a.tmps) = true := by
    simp [Region.wanted, ha.yielded hj hd hv]
  simp only [wpListIn, e, e', if_true] at h1 ⊢
  exact h1

/-- a guard that is not met -/
theorem x_pass {d' : Nat} {op : Op} {ty : TypeId} {pos : String} {af : Array Edge} {rest : List Oper} {j d : Nat} {b : Bool}
    (hj : (ops[j]?).bind (·.dst) = some d) (hd : Nat.blt d n = true) (hv : f d = .bool (!b)) (hn : Nat.blt d' n = true)
    (h : xw ro P ops R n ds rest (upd f d' undef) w) : xw ro P ops R n ds (⟨some d', op, ty, pos, af, some (j, b)⟩ :: rest) f w := by
  intro a ha
  have e' : Region.wanted ⟨some d', op, ty, pos, af, some (j, b)⟩ (yielded ops a.tmps) = false := by
    cases b <;> simp [Region.wanted, ha.yielded hj hd hv]
  simp only [wpListIn, e']
  exact ⟨fun _ _ => trivial, h _ (ha.put hn undef)⟩

theorem x_pass0 {d' : Nat} {op : Op} {ty : TypeId} {pos : String} {af : Array Edge} {rest : List Oper} {j d : Nat} {b : Bool}
    (hj : (ops[j]?).bind (·.dst) = some d) (hd : Nat.blt d n = true) (hv : f d = undef) (hn : Nat.blt d' n = true)
    (h : xw ro P ops R n ds rest (upd f d' undef) w) : xw ro P ops R n ds (⟨some d', op, ty, pos, af, some (j, b)⟩ :: rest) f w := by
  intro a ha
  have e' : Region.wanted ⟨some d', op, ty, pos, af, some (j, b)⟩ (yielded ops a.tmps) = false := by
    simp [Region.wanted, ha.yielded_none hj hd hv]
  simp only [wpListIn, e']
  exact ⟨fun _ _ => trivial, h _ (ha.put hn undef)⟩

/-- the result of a call, as a value -/
def Ret (R : Value → World → Prop) : Ending → World → Prop
  | .returned v, w => R v w
  | _, _ => False

theorem calls_wf {P : Program} {g : FuncId} {args : Array Value} {w : World} {T : Ending → World → Prop} (h : Calls P g args w T) (ro : Option Nat) : CallsIn (WF ro) 0 P g args w T :=
  have h1 : CallsIn Fence.wide 0 P g args w T := callsIn_wide.2 h
  ⟨trivial, fun cs hr => h1.2 cs hr⟩

/-- a call that enters a function -/
theorem x_enter {d : Nat} {op : Op} {ty : TypeId} {pos : String} {af : Array Edge} {rest : List Oper} {g : FuncId} {args : Array Value} {T : Value → World → Prop}
    (hr : (execOp (ev f) ⟨some d, op, ty, pos, af, none⟩).run P w = .ok (.enter g args) w) (hnd : ∀ c, op ≠ .defer c) (hn : Nat.blt d n = true)
    (hc : Calls P g args w (Ret T)) (h : ∀ v w', T v w' → xw ro P ops R n ds rest (upd f d v) w') : xw ro P ops R n ds (⟨some d, op, ty, pos, af, none⟩ :: rest) f w := by
  intro a ha
  have e : Region.wanted ⟨some d, op, ty, pos, af, none⟩ (yielded ops a.tmps) = true := rfl
  simp only [wpListIn, e, if_true, Oper.wpIn]
  refine ⟨fun _ _ => trivial, ?_⟩
  rw [Oper.semAt_eq _ _ _ (by exact hnd), ha.eval, hr, Oper.uponIn_enter]
  refine ⟨fun h0 => by simp [WF, Fence.wide] at h0, ((calls_wf hc ro).mono ?_)⟩
  intro e w' he
  cases e with
  | returned v => exact h v w' he _ (ha.put hn v)
  | panicked c => exact he.elim
  | outgrown => exact he.elim

/-! code -/
def thenR (K : (Nat → Value) → World → Prop) (R : Exit → (Nat → Value) → World → Prop) : Exit → (Nat → Value) → World → Prop
  | .normal, f, w => K f w
  | e, f, w => R e f w

def blockR (id : Nat) (R : Exit → (Nat → Value) → World → Prop) : Exit → (Nat → Value) → World → Prop
  | .exit id', f, w => if id' = id then R .normal f w else R (.exit id') f w
  | e, f, w => R e f w

theorem xc_seq {x y : Code} (h : ∀ K : (Nat → Value) → World → Prop, (∀ f w, xc ro P R n ds y f w → K f w) → xc ro P (thenR K R) n ds x f w) : xc ro P R n ds (.seq x y) f w := by
  intro a ha
  refine wpIn_seq (Go.wpIn_mono (h (fun f w => xc ro P R n ds y f w) (fun _ _ h => h) a ha) ?_)
  intro e a' w' ⟨f', ha', hR⟩
  cases e with
  | normal => exact hR a' ha'
  | exit i => exact ⟨f', ha', hR⟩
  | goto i => exact ⟨f', ha', hR⟩
  | ret => exact ⟨f', ha', hR⟩
  | panic c => exact ⟨f', ha', hR⟩
  | outgrown => exact ⟨f', ha', hR⟩

theorem xc_cond {c : Operand} {x y : Code} {t : Bool} (hc : ev f c = .bool t) (ht : t = true → xc ro P R n ds x f w) (hf : t = false → xc ro P R n ds y f w) : xc ro P R n ds (.cond c x y) f w := by
  intro a ha
  refine wpIn_cond (t := t) (by rw [ha.eval]; exact hc) ?_
  cases t
  · exact hf rfl a ha
  · exact ht rfl a ha

theorem xc_block {i : Nat} {c : Code} (h : xc ro P (blockR i R) n ds c f w) : xc ro P R n ds (.block i c) f w := by
  intro a ha
  refine wpIn_block (Go.wpIn_mono (h a ha) ?_)
  intro e a' w' ⟨f', ha', hR⟩
  cases e with
  | exit j =>
    simp only [blockR] at hR
    simp only [Exit.inBlock]
    split
    · rename_i hj; rw [if_pos hj] at hR; exact ⟨f', ha', hR⟩
    · rename_i hj; rw [if_neg hj] at hR; exact ⟨f', ha', hR⟩
  | normal => exact ⟨f', ha', hR⟩
  | goto i => exact ⟨f', ha', hR⟩
  | ret => exact ⟨f', ha', hR⟩
  | panic c => exact ⟨f', ha', hR⟩
  | outgrown => exact ⟨f', ha', hR⟩

theorem xc_exit {i : Nat} (h : R (.exit i) f w) : xc ro P R n ds (.exit i) f w := fun _ ha => wpIn_exit ⟨f, ha, h⟩
theorem xc_ret (h : R .ret f w) : xc ro P R n ds .ret f w := fun _ ha => wpIn_ret ⟨f, ha, h⟩
theorem xc_skip (h : R .normal f w) : xc ro P R n ds .skip f w := fun _ ha => wpIn_skip ⟨f, ha, h⟩

theorem xc_region {i : Nat} {l : List Oper} (h : xw ro P l.toArray R n ds l f w) : xc ro P R n ds (.region i l.toArray false) f w := fun a ha => wpIn_region_lit (h a ha)

theorem xc_gen {c : Code} (h : ∀ g, (∀ t, g t = f t) → xc ro P R n ds c g w) : xc ro P R n ds c f w := h f fun _ => rfl

/-- a loop: J m f w: what holds at a round's head, m falling -/
theorem xc_loop {c : Code} (J : Nat → (Nat → Value) → World → Prop) (m : Nat) (h0 : J m f w)
    (round : ∀ m f w, J m f w → xc ro P (thenR (fun f' w' => ∃ m', m' < m ∧ J m' f' w') R) n ds c f w) : xc ro P R n ds (.loop c) f w := by
  classical
  intro a ha
  let I : Act → World → Prop := fun a w => ∃ m f, Is a n f ds ∧ J m f w
  let good : Act → World → Nat → Prop := fun a w m => ∃ f, Is a n f ds ∧ J m f w
  let μ : Act → World → Nat := fun a w => if h : ∃ m, good a w m ∧ ∀ m', m' < m → ¬ good a w m' then h.choose else 0
  have least : ∀ a w, I a w → ∃ m, good a w m ∧ ∀ m', m' < m → ¬ good a w m' := by
    intro a w ⟨m, f, h1, h2⟩
    induction m using Nat.strongRecOn generalizing f with
    | _ m ih =>
      by_cases hx : ∃ m', m' < m ∧ good a w m'
      · obtain ⟨m', hlt, f', h1', h2'⟩ := hx
        exact ih m' hlt f' h1' h2'
      · exact ⟨m, ⟨f, h1, h2⟩, fun m' hlt hg => hx ⟨m', hlt, hg⟩⟩
  have hμ : ∀ a w, I a w → good a w (μ a w) ∧ ∀ m', m' < μ a w → ¬ good a w m' := by
    intro a w hI
    have h := least a w hI
    have e : μ a w = h.choose := dif_pos h
    rw [e]
    exact h.choose_spec
  refine wpIn_loop I μ ⟨m, f, ha, h0⟩ ?_
  intro a w hI
  obtain ⟨⟨f, hf, hJ⟩, _⟩ := hμ a w hI
  refine Go.wpIn_mono (round _ f w hJ a hf) ?_
  intro e a' w' ⟨f', ha', hR⟩
  cases e with
  | normal =>
    obtain ⟨m', hlt, hJ'⟩ := hR
    refine ⟨⟨m', f', ha', hJ'⟩, ?_⟩
    have h2 := (hμ a' w' ⟨m', f', ha', hJ'⟩).2
    rcases Nat.lt_or_ge (μ a' w') (μ a w) with h | h
    · exact h
    · exact absurd ⟨f', ha', hJ'⟩ (h2 m' (by omega))
  | exit i => exact ⟨f', ha', hR⟩
  | goto i => exact ⟨f', ha', hR⟩
  | ret => exact ⟨f', ha', hR⟩
  | panic c => exact ⟨f', ha', hR⟩
  | outgrown => exact ⟨f', ha', hR⟩

/-- the post of a body, over frames -/
def bodyR (P : Program) (fn : Func) (n : Nat) (T : Value → World → Prop) : Exit → (Nat → Value) → World → Prop
  | .normal, f, w | .ret, f, w => ∀ tmps : Array Value, tmps.size = n → (∀ t, tmps.getD t undef = f t) → ∃ v, (results fn tmps).run P w = .ok v w ∧ T v w
  | _, _, _ => False

/-- a function's call, from its body's walk -/
theorem calls_x {g : FuncId} {fn : Func} {c : Code} {args : List Value} {T : Value → World → Prop} (hf : P.funcs[g]? = some fn) (hb : fn.body = some c) (hn : fn.ntmps = n) (hl : Nat.ble args.length n = true)
    (h : xc none P (bodyR P fn n T) n [] c (fun t => args.getD t undef) w) : Calls P g args.toArray w (Ret T) := by
  refine calls_of_wp hf hb (wpIn_wide (n := 0) |>.1 ?_)
  have hl' : args.length ≤ n := (Nat.ble_eq ▸ hl)
  have h1 := h { tmps := args.toArray ++ Array.replicate (fn.ntmps - args.toArray.size) undef, defers := [] } ⟨by simp [hn]; omega, fun t => ?_, rfl⟩
  · refine Go.wpIn_mono h1 ?_
    intro e a w ⟨f, ha, hR⟩
    cases e with
    | normal => obtain ⟨v, hv, hT⟩ := hR a.tmps ha.size ha.get; exact ⟨ha.defers, v, hv, hT⟩
    | ret => obtain ⟨v, hv, hT⟩ := hR a.tmps ha.size ha.get; exact ⟨ha.defers, v, hv, hT⟩
    | exit i => exact hR.elim
    | goto i => exact hR.elim
    | panic c => exact hR.elim
    | outgrown => exact hR.elim
  · rw [Array.getD_eq_getD_getElem?, Array.getElem?_append]
    simp only [List.size_toArray, List.getElem?_toArray]
    by_cases ht : t < args.length
    · rw [if_pos ht]; simp [List.getD]
    · rw [if_neg ht, Array.getElem?_replicate]
      have : args[t]? = none := List.getElem?_eq_none (by omega)
      rw [List.getD, this]
      split <;> rfl

theorem Calls.ret_mono {g : FuncId} {args : Array Value} {T T' : Value → World → Prop} (h : Calls P g args w (Ret T)) (hT : ∀ v w', T v w' → T' v w') : Calls P g args w (Ret T') :=
  h.mono fun e w' he => by cases e <;> first | exact hT _ _ he | exact he

/-! results -/
theorem bodyR_1 {fn : Func} {t : Tmp} {v : Value} {T : Value → World → Prop} (h : fn.results = #[.tmp t]) (hv : ev f (.tmp t) = v) (hT : T v w) : bodyR P fn n T .ret f w := fun tmps _ hg =>
  ⟨_, results_tmp h tmps P w, by rw [hg]; rw [← show ev f (.tmp t) = v from hv] at hT; exact hT⟩
theorem bodyR_2 {fn : Func} {t u : Tmp} {a b : Value} {T : Value → World → Prop} (h : fn.results = #[.tmp t, .tmp u]) (ha : ev f (.tmp t) = a) (hb : ev f (.tmp u) = b) (hT : T (.tuple #[a, b]) w) : bodyR P fn n T .ret f w := fun tmps _ hg =>
  ⟨_, results_tmp2 h tmps P w, by rw [hg, hg]; subst ha hb; exact hT⟩
theorem bodyR_3 {fn : Func} {t u x : Tmp} {a b c : Value} {T : Value → World → Prop} (h : fn.results = #[.tmp t, .tmp u, .tmp x]) (ha : ev f (.tmp t) = a) (hb : ev f (.tmp u) = b) (hc : ev f (.tmp x) = c) (hT : T (.tuple #[a, b, c]) w) : bodyR P fn n T .ret f w := fun tmps _ hg =>
  ⟨_, results_tmp3 h tmps P w, by rw [hg, hg, hg]; subst ha hb hc; exact hT⟩
theorem bodyR_0 {fn : Func} {T : Value → World → Prop} (h : fn.results = #[]) (hT : T (.tuple #[]) w) : bodyR P fn n T .normal f w := fun tmps _ _ =>
  ⟨_, results_none h tmps P w, hT⟩
theorem bodyR_r0 {fn : Func} {T : Value → World → Prop} (h : fn.results = #[]) (hT : T (.tuple #[]) w) : bodyR P fn n T .ret f w := fun tmps _ _ =>
  ⟨_, results_none h tmps P w, hT⟩
theorem run_results_c {fn : Func} {a : Tmp} {t : TypeId} (tmps : Array Value) {p : Addr} {v : Value} (h : fn.results = #[.cell a t]) (hp : tmps.getD a undef = .pointer (some p)) (hl : (loadVar t p).run P w = .ok v w) :
    (results fn tmps).run P w = .ok v w := by
  have hp' : tmps[a]?.getD undef = .pointer (some p) := by simpa using hp
  simp [results, h, hp', asAddr, hl]
theorem bodyR_c {fn : Func} {a : Tmp} {t : TypeId} {p : Addr} {v : Value} {T : Value → World → Prop} (h : fn.results = #[.cell a t]) (hp : ev f (.tmp a) = .pointer (some p)) (hl : (loadVar t p).run P w = .ok v w) (hT : T v w) :
    bodyR P fn n T .ret f w := fun tmps _ hg => ⟨v, run_results_c tmps h (by rw [hg]; exact hp) hl, hT⟩
theorem bodyR_ct {fn : Func} {a u : Tmp} {t : TypeId} {p : Addr} {v b : Value} {T : Value → World → Prop} (h : fn.results = #[.cell a t, .tmp u]) (hp : ev f (.tmp a) = .pointer (some p)) (hl : (loadVar t p).run P w = .ok v w) (hb : ev f (.tmp u) = b) (hT : T (.tuple #[v, b]) w) :
    bodyR P fn n T .ret f w := fun tmps _ hg => by
  have hp' : tmps[a]?.getD undef = .pointer (some p) := by have := hg a; simp at this; rw [this]; exact hp
  have hb' : tmps[u]?.getD undef = b := by have := hg u; simp at this; rw [this]; exact hb
  exact ⟨_, by simp [results, h, hp', hb', asAddr, hl], hT⟩
theorem bodyR_ctt {fn : Func} {a u x : Tmp} {t : TypeId} {p : Addr} {v b c : Value} {T : Value → World → Prop} (h : fn.results = #[.cell a t, .tmp u, .tmp x]) (hp : ev f (.tmp a) = .pointer (some p)) (hl : (loadVar t p).run P w = .ok v w) (hb : ev f (.tmp u) = b) (hc : ev f (.tmp x) = c) (hT : T (.tuple #[v, b, c]) w) :
    bodyR P fn n T .ret f w := fun tmps _ hg => by
  have hp' : tmps[a]?.getD undef = .pointer (some p) := by have := hg a; simp at this; rw [this]; exact hp
  have hb' : tmps[u]?.getD undef = b := by have := hg u; simp at this; rw [this]; exact hb
  have hc' : tmps[x]?.getD undef = c := by have := hg x; simp at this; rw [this]; exact hc
  exact ⟨_, by simp [results, h, hp', hb', hc', asAddr, hl], hT⟩
theorem bodyR_cc {fn : Func} {a a2 : Tmp} {t t2 : TypeId} {p p2 : Addr} {v v2 : Value} {T : Value → World → Prop} (h : fn.results = #[.cell a t, .cell a2 t2]) (hp : ev f (.tmp a) = .pointer (some p)) (hl : (loadVar t p).run P w = .ok v w) (hp2 : ev f (.tmp a2) = .pointer (some p2)) (hl2 : (loadVar t2 p2).run P w = .ok v2 w) (hT : T (.tuple #[v, v2]) w) :
    bodyR P fn n T .ret f w := fun tmps _ hg => by
  have hp' : tmps[a]?.getD undef = .pointer (some p) := by have := hg a; simp at this; rw [this]; exact hp
  have hp2' : tmps[a2]?.getD undef = .pointer (some p2) := by have := hg a2; simp at this; rw [this]; exact hp2
  exact ⟨_, by simp [results, h, hp', hp2', asAddr, hl, hl2], hT⟩
theorem bodyR_cct {fn : Func} {a a2 u : Tmp} {t t2 : TypeId} {p p2 : Addr} {v v2 b : Value} {T : Value → World → Prop} (h : fn.results = #[.cell a t, .cell a2 t2, .tmp u]) (hp : ev f (.tmp a) = .pointer (some p)) (hl : (loadVar t p).run P w = .ok v w) (hp2 : ev f (.tmp a2) = .pointer (some p2)) (hl2 : (loadVar t2 p2).run P w = .ok v2 w) (hb : ev f (.tmp u) = b) (hT : T (.tuple #[v, v2, b]) w) :
    bodyR P fn n T .ret f w := fun tmps _ hg => by
  have hp' : tmps[a]?.getD undef = .pointer (some p) := by have := hg a; simp at this; rw [this]; exact hp
  have hp2' : tmps[a2]?.getD undef = .pointer (some p2) := by have := hg a2; simp at this; rw [this]; exact hp2
  have hb' : tmps[u]?.getD undef = b := by have := hg u; simp at this; rw [this]; exact hb
  exact ⟨_, by simp [results, h, hp', hp2', hb', asAddr, hl, hl2], hT⟩
end
theorem bodyR_np {P : Program} {fn : Func} {n : Nat} {T : Value → World → Prop} {x : _} {f : Nat → Value} {w : World} (h : bodyR P fn n T (.panic x) f w) : False := h
attribute [irreducible] bodyR
end Go.Proofs.Ytfmhcefjbghhlaa
