/-
Calls of function values, rounds of a range over a function, and the walk of a body that holds such a range.
-/
import Derived.Test.YtfmhcefjbghhlaaX3
import Derived.RangeFuncIn
import Derived.RangeFuncRecord
namespace Go.Proofs.Ytfmhcefjbghhlaa
open Go Go.RowKit

/-- what a call of a function value does -/
def FnOk (P : Program) (y : Value) (args : List Value) (w : World) (T : Value → World → Prop) : Prop :=
  (∃ h us, y = .func (.func h) #[] us ∧ (∀ as w, (callFunc h as).run P w = .ok (.enter h as) w) ∧ Calls P h (args.toArray ++ us) w (Ret T)) ∨
  (∃ l r, y = .func (.yield l) #[] #[] ∧ w.heap[l]? = some (.loop r) ∧ args.length = r.params.size ∧
    ∀ ro, RoundIn (WF ro) 0 P l r.fn ((r.params.zip args.toArray).foldl (fun t (p, v) => t.setIfInBounds p v) r.tmps) r.assign r.body w (Ret T))

theorem FnOk.mono {P : Program} {y : Value} {args : List Value} {w : World} {T T' : Value → World → Prop} (h : FnOk P y args w T) (hT : ∀ v w', T v w' → T' v w') : FnOk P y args w T' := by
  rcases h with ⟨h, us, e, hc, hca⟩ | ⟨l, r, e, hl, hn, hr⟩
  · exact .inl ⟨h, us, e, hc, Calls.ret_mono hca hT⟩
  · exact .inr ⟨l, r, e, hl, hn, fun ro => (hr ro).mono fun e w' he => by cases e <;> first | exact hT _ _ he | exact he⟩

section
variable {ro : Option Nat} {P : Program} {ops : Array Oper} {R : Exit → (Nat → Value) → World → Prop} {n : Nat} {ds : List Deferred} {f : Nat → Value} {w : World} {E : Env} {L : List SProp}

theorem r_yield {d : Option Tmp} {ty : TypeId} {pos : String} {af : Array Edge} {g : Option (Nat × Bool)} {x : Operand} {as : List Operand} {vs : List Value} {ts : Array TypeId} {l : Nat} {r : Loop}
    (hx : ev f x = .func (.yield l) #[] #[]) (ha : Evs f as vs) (hl : w.heap[l]? = some (.loop r)) (hn : vs.length = r.params.size) :
    (execOp (ev f) ⟨d, .call { callee := .value x, args := as.toArray, argTypes := ts }, ty, pos, af, g⟩).run P w = .ok (.round l r.fn ((r.params.zip vs.toArray).foldl (fun t (p, v) => t.setIfInBounds p v) r.tmps) r.assign r.body) w := by
  have e := ha.map
  have hy := run_yield (P := P) (args := vs.toArray) hl (by simpa using hn)
  simp only [execOp, resolve, Sem.run_bind, e, hx, Deferred.ofValue, Sem.run_pure, Result.andThen_ok, invoke]
  simpa using hy

theorem x_callY {d : Nat} {ty : TypeId} {pos : String} {af : Array Edge} {rest : List Oper} {x : Operand} {as : List Operand} {vs : List Value} {ts : Array TypeId} {y : Value} {T : Value → World → Prop}
    (hx : ev f x = y) (ha : Evs f as vs) (hn : Nat.blt d n = true) (hY : FnOk P y vs w T) (h : ∀ v w', T v w' → xw ro P ops R n ds rest (upd f d v) w') :
    xw ro P ops R n ds (⟨some d, .call { callee := .value x, args := as.toArray, argTypes := ts }, ty, pos, af, none⟩ :: rest) f w := by
  rcases hY with ⟨g, us, rfl, hc, hca⟩ | ⟨l, r, rfl, hl, hlen, hr⟩
  · exact x_enter (r_callv hc hx ha) (nd_of rfl) hn hca h
  · intro a ha'
    have e : Region.wanted ⟨some d, .call { callee := .value x, args := as.toArray, argTypes := ts }, ty, pos, af, none⟩ (yielded ops a.tmps) = true := rfl
    simp only [wpListIn, e, if_true, Oper.wpIn]
    refine ⟨fun _ _ => trivial, ?_⟩
    rw [Oper.semAt_eq _ _ _ (by exact nd_of rfl), ha'.eval, r_yield hx ha hl hlen, Oper.uponIn_round]
    refine ⟨fun h0 => by simp [WF, Fence.wide] at h0, ((hr ro).mono ?_)⟩
    intro e w' he
    cases e with
    | returned v => exact h v w' he _ (ha'.put hn v)
    | panicked c => exact he.elim
    | outgrown => exact he.elim

theorem SatL.putObj {b : Nat} {o o' : Obj} (h : SatL E w (pt b o :: L)) : SatL E (w.putObj b o') (pt b o' :: L) := by
  refine h.turn rfl rfl rfl fun m hm hs => ⟨fun k => if k = b then some o' else none, by simp [pt], fun k o2 hk => ?_, fun k hk => ?_, fun k o2 hk hk' => ?_⟩
  · by_cases e : k = b
    · subst e; simp at hk; subst hk; exact World.putObj_heap_same (Array.getElem?_eq_some_iff.1 (hs k _ hm)).1
    · simp [e] at hk
  · by_cases e : k = b
    · subst e; left; rw [hm]; simp
    · simp [e] at hk
  · by_cases e : k = b
    · subst e; rw [hm] at hk; cases hk
    · exact (World.putObj_heap_other e).trans hk'

/-- how a round's body is left -/
def roundR (P : Program) (l : Nat) (T : Value → World → Prop) : Exit → (Nat → Value) → World → Prop
  | .normal, _, w => ∃ v w', (Instr.endRound l none).run P w = .ok v w' ∧ T v w'
  | .ret, _, w => ∃ v w', (Instr.endRound l (some .ret)).run P w = .ok v w' ∧ T v w'
  | .exit id, _, w => ∃ v w', (Instr.endRound l (some (.exit id))).run P w = .ok v w' ∧ T v w'
  | _, _, _ => False

theorem roundR_normal {l : Nat} {r : Loop} {T : Value → World → Prop} (h : SatL E w (pt l (.loop r) :: L)) (hT : ∀ w', SatL E w' (pt l (.loop { r with state := .ready, pending := none }) :: L) → T (.bool true) w') : roundR P l T .normal f w :=
  ⟨_, _, run_endRound none (h.block 0 rfl), hT _ h.putObj⟩
theorem roundR_ret {l : Nat} {r : Loop} {T : Value → World → Prop} (h : SatL E w (pt l (.loop r) :: L)) (hT : ∀ w', SatL E w' (pt l (.loop { r with state := .done, pending := some .ret }) :: L) → T (.bool false) w') : roundR P l T .ret f w :=
  ⟨_, _, run_endRound (some .ret) (h.block 0 rfl), hT _ h.putObj⟩
theorem roundR_exit {l id : Nat} {r : Loop} {T : Value → World → Prop} (h : SatL E w (pt l (.loop r) :: L)) (hT : ∀ w', SatL E w' (pt l (.loop { r with state := .done, pending := some (.exit id) }) :: L) → T (.bool false) w') : roundR P l T (.exit id) f w :=
  ⟨_, _, run_endRound (some (.exit id)) (h.block 0 rfl), hT _ h.putObj⟩

/-- a frame's temporaries as a function, laid anew -/
theorem is_of {tmps : Array Value} (hn : tmps.size = n) : Is { tmps := tmps, defers := [] } n (fun t => tmps.getD t undef) [] := ⟨hn, fun _ => rfl, rfl⟩

/-- one round, out of the walks of its assignment and its body -/
theorem fnOk_round {l : Nat} {r : Loop} {vs : List Value} {T : Value → World → Prop} (h : SatL E w (pt l (.loop r) :: L)) (hlen : vs.length = r.params.size) (hsz : r.tmps.size = n)
    (hb : xc (some l) P (thenR (fun f1 w1 => ∃ (r1 : Loop) (L1 : List SProp), r1.state = .ready ∧ SatL E w1 (pt l (.loop r1) :: L1) ∧ ∀ w2, SatL E w2 (pt l (.loop { r1 with state := .busy }) :: L1) → xc (some l) P (roundR P l T) n [] r.body f1 w2) (fun _ _ _ => False)) n [] r.assign
      (fun t => ((r.params.zip vs.toArray).foldl (fun t (p, v) => t.setIfInBounds p v) r.tmps).getD t undef) w) : FnOk P (.func (.yield l) #[] #[]) vs w T := by
  refine .inr ⟨l, r, rfl, h.block 0 rfl, hlen, fun ro => ?_⟩
  have hsz2 : ((r.params.zip vs.toArray).foldl (fun t (p, v) => t.setIfInBounds p v) r.tmps).size = n := by
    rw [← hsz, ← Array.foldl_toList]
    generalize (r.params.zip vs.toArray).toList = zs
    generalize r.tmps = tm
    induction zs generalizing tm with
    | nil => rfl
    | cons z zs ih => rw [List.foldl_cons, ih]; simp
  refine roundIn_of_wpIn (F := WF ro) trivial ?_
  have h1 := hb _ (is_of hsz2)
  refine Go.wpIn_mono (F := WF (some l)) h1 ?_
  intro e a1 w1 ⟨f1, ha1, hR⟩
  cases e with
  | normal =>
    obtain ⟨r1, L1, hst, hs, hbody⟩ := hR
    refine ⟨_, run_beginRound (hs.block 0 rfl) hst, ?_⟩
    have h2 := hbody _ hs.putObj _ ha1
    refine Go.wpIn_mono (F := WF (some l)) h2 ?_
    intro e2 a2 w2 ⟨f2, ha2, hR2⟩
    cases e2 with
    | normal => exact hR2
    | ret => exact hR2
    | exit i => exact hR2
    | goto i => exact hR2.elim
    | panic c => exact hR2.elim
    | outgrown => exact hR2.elim
  | ret => exact hR.elim
  | exit i => exact hR.elim
  | goto i => exact hR.elim
  | panic c => exact hR.elim
  | outgrown => exact hR.elim
attribute [irreducible] roundR
end
end Go.Proofs.Ytfmhcefjbghhlaa
