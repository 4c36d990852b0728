/-
The walk of a function's body that holds ranges over functions: the deferred calls' list turns.
-/
import Derived.Test.YtfmhcefjbghhlaaY1
namespace Go.Proofs.Ytfmhcefjbghhlaa
open Go Go.RowKit
abbrev RY := Exit → List Deferred → (Nat → Value) → World → Prop
def qfY (n : Nat) (R : RY) : Exit → Act → World → Prop := fun e a w => ∃ (f : Nat → Value) (ds : List Deferred), Is a n f ds ∧ R e ds f w
def yc (P : Program) (R : RY) (n : Nat) (c : Code) (ds : List Deferred) (f : Nat → Value) (w : World) : Prop := ∀ a, Is a n f ds → c.wpIn (WF none) 0 P (qfY n R) a w
def thenY (K : List Deferred → (Nat → Value) → World → Prop) (R : RY) : RY
  | .normal, ds, f, w => K ds f w
  | e, ds, f, w => R e ds f w
def blockY (id : Nat) (R : RY) : RY
  | .exit id', ds, f, w => if id' = id then R .normal ds f w else R (.exit id') ds f w
  | e, ds, f, w => R e ds f w
def mark (D : Nat) : Deferred := { target := .collected D, args := #[] }

section
variable {P : Program} {R : RY} {n : Nat} {ds : List Deferred} {f : Nat → Value} {w : World} {E : Env} {L : List SProp}
theorem yc_of_xc {c : Code} (h : xc none P (fun e f w => R e ds f w) n ds c f w) : yc P R n c ds f w := fun a ha =>
  Go.wpIn_mono (h a ha) fun _ _ _ ⟨f', ha', hR⟩ => ⟨f', ds, ha', hR⟩
theorem yc_region {i : Nat} {l : List Oper} (h : xw none P l.toArray (fun e f w => R e ds f w) n ds l f w) : yc P R n (.region i l.toArray false) ds f w := yc_of_xc (xc_region h)
theorem yc_seq {x y : Code} (h : ∀ K : List Deferred → (Nat → Value) → World → Prop, (∀ ds f w, yc P R n y ds f w → K ds f w) → yc P (thenY K R) n x ds f w) : yc P R n (.seq x y) ds f w := by
  intro a ha
  refine wpIn_seq (Go.wpIn_mono (h (fun ds f w => yc P R n y ds f w) (fun _ _ _ h => h) a ha) ?_)
  intro e a' w' ⟨f', ds', ha', hR⟩
  cases e with
  | normal => exact hR a' ha'
  | exit i => exact ⟨f', ds', ha', hR⟩
  | goto i => exact ⟨f', ds', ha', hR⟩
  | ret => exact ⟨f', ds', ha', hR⟩
  | panic c => exact ⟨f', ds', ha', hR⟩
  | outgrown => exact ⟨f', ds', ha', hR⟩
theorem yc_cond {c : Operand} {x y : Code} {t : Bool} (hc : ev f c = .bool t) (ht : t = true → yc P R n x ds f w) (hf : t = false → yc P R n y ds f w) : yc P R n (.cond c x y) ds f w := by
  intro a ha
  refine wpIn_cond (t := t) (by rw [ha.eval]; exact hc) ?_
  cases t
  · exact hf rfl a ha
  · exact ht rfl a ha
theorem yc_block {i : Nat} {c : Code} (h : yc P (blockY i R) n c ds f w) : yc P R n (.block i c) ds f w := by
  intro a ha
  refine wpIn_block (Go.wpIn_mono (h a ha) ?_)
  intro e a' w' ⟨f', ds', ha', hR⟩
  cases e with
  | exit j =>
    simp only [blockY] at hR
    simp only [Exit.inBlock]
    split
    · rename_i hj; rw [if_pos hj] at hR; exact ⟨f', ds', ha', hR⟩
    · rename_i hj; rw [if_neg hj] at hR; exact ⟨f', ds', ha', hR⟩
  | normal => exact ⟨f', ds', ha', hR⟩
  | goto i => exact ⟨f', ds', ha', hR⟩
  | ret => exact ⟨f', ds', ha', hR⟩
  | panic c => exact ⟨f', ds', ha', hR⟩
  | outgrown => exact ⟨f', ds', ha', hR⟩
theorem yc_exit {i : Nat} (h : R (.exit i) ds f w) : yc P R n (.exit i) ds f w := fun _ ha => wpIn_exit ⟨f, ds, ha, h⟩
theorem yc_ret (h : R .ret ds f w) : yc P R n .ret ds f w := fun _ ha => wpIn_ret ⟨f, ds, ha, h⟩
theorem yc_skip (h : R .normal ds f w) : yc P R n .skip ds f w := fun _ ha => wpIn_skip ⟨f, ds, ha, h⟩
theorem yc_gen {c : Code} (h : ∀ g, (∀ t, g t = f t) → yc P R n c ds g w) : yc P R n c ds f w := h f fun _ => rfl
/-- a cut between two codes: what holds there -/
theorem yc_cut {x y : Code} (I : List Deferred → (Nat → Value) → World → Prop) (hx : yc P (thenY I R) n x ds f w) (hy : ∀ ds f w, I ds f w → yc P R n y ds f w) : yc P R n (.seq x y) ds f w := by
  intro a ha
  refine wpIn_seq (Go.wpIn_mono (hx a ha) ?_)
  intro e a' w' ⟨f', ds', ha', hR⟩
  cases e with
  | normal => exact hy _ _ _ hR a' ha'
  | exit i => exact ⟨f', ds', ha', hR⟩
  | goto i => exact ⟨f', ds', ha', hR⟩
  | ret => exact ⟨f', ds', ha', hR⟩
  | panic c => exact ⟨f', ds', ha', hR⟩
  | outgrown => exact ⟨f', ds', ha', hR⟩
/-- a loop: J m ds f w: what holds at a round's head, m falling -/
theorem yc_loop {c : Code} (J : Nat → List Deferred → (Nat → Value) → World → Prop) (m : Nat) (h0 : J m ds f w)
    (round : ∀ m ds f w, J m ds f w → yc P (thenY (fun ds' f' w' => ∃ m', m' < m ∧ J m' ds' f' w') R) n c ds f w) : yc P R n (.loop c) ds f w := by
  classical
  intro a ha
  let good : Act → World → Nat → Prop := fun a w m => ∃ f ds, Is a n f ds ∧ J m ds f w
  let I : Act → World → Prop := fun a w => ∃ m, good a w m
  let μ : Act → World → Nat := fun a w => if h : ∃ m, good a w m ∧ ∀ m', m' < m → ¬ good a w m' then h.choose else 0
  have least : ∀ a w, I a w → ∃ m, good a w m ∧ ∀ m', m' < m → ¬ good a w m' := by
    intro a w ⟨m, hm⟩
    induction m using Nat.strongRecOn with
    | _ m ih =>
      by_cases hx : ∃ m', m' < m ∧ good a w m'
      · obtain ⟨m', hlt, h1⟩ := hx
        exact ih m' hlt h1
      · exact ⟨m, hm, fun m' hlt hg => hx ⟨m', hlt, hg⟩⟩
  have hμ : ∀ a w, I a w → good a w (μ a w) ∧ ∀ m', m' < μ a w → ¬ good a w m' := by
    intro a w hI
    have h := least a w hI
    have e : μ a w = h.choose := dif_pos h
    rw [e]
    exact h.choose_spec
  refine wpIn_loop I μ ⟨m, f, ds, ha, h0⟩ ?_
  intro a w hI
  obtain ⟨⟨f, ds, hf, hJ⟩, _⟩ := hμ a w hI
  refine Go.wpIn_mono (round _ ds f w hJ a hf) ?_
  intro e a' w' ⟨f', ds', ha', hR⟩
  cases e with
  | normal =>
    obtain ⟨m', hlt, hJ'⟩ := hR
    refine ⟨⟨m', f', ds', ha', hJ'⟩, ?_⟩
    have h2 := (hμ a' w' ⟨m', f', ds', ha', hJ'⟩).2
    rcases Nat.lt_or_ge (μ a' w') (μ a w) with h | h
    · exact h
    · exact absurd ⟨f', ds', ha', hJ'⟩ (h2 m' (by omega))
  | exit i => exact ⟨f', ds', ha', hR⟩
  | goto i => exact ⟨f', ds', ha', hR⟩
  | ret => exact ⟨f', ds', ha', hR⟩
  | panic c => exact ⟨f', ds', ha', hR⟩
  | outgrown => exact ⟨f', ds', ha', hR⟩

/-- a body's post where marks may stand among the deferred calls -/
def bodyY (P : Program) (fn : Func) (n : Nat) (T : Value → World → Prop) : RY
  | .normal, ds, f, w | .ret, ds, f, w => ∀ tmps : Array Value, tmps.size = n → (∀ t, tmps.getD t undef = f t) → LeavesInM (WF none) 0 P fn tmps (Ret T) ds .returning w
  | _, _, _, _ => False
theorem bodyY_nil {fn : Func} {T : Value → World → Prop} (h : bodyR P fn n T .ret f w) : bodyY P fn n T .ret [] f w := by
  unfold bodyR at h
  intro tmps hs hg
  exact h tmps hs hg
theorem bodyY_mark {fn : Func} {T : Value → World → Prop} {D : Nat} (h : SatL E w (pt D (.deferred (some [])) :: L)) (hk : ∀ w', SatL E w' (pt D (.deferred none) :: L) → bodyY P fn n T .ret ds f w') : bodyY P fn n T .ret (mark D :: ds) f w := by
  intro tmps hs hg
  refine ⟨by simp, .inl ⟨D, _, rfl, run_takeDeferred (h.block 0 rfl), ?_⟩⟩
  exact hk _ h.putObj tmps hs hg
theorem bodyY_np {fn : Func} {T : Value → World → Prop} {x : _} (h : bodyY P fn n T (.panic x) ds f w) : False := h
theorem calls_y {g : FuncId} {fn : Func} {c : Code} {args : List Value} {T : Value → World → Prop} (hf : P.funcs[g]? = some fn) (hb : fn.body = some c) (hn : fn.ntmps = n) (hl : Nat.ble args.length n = true)
    (h : yc P (bodyY P fn n T) n c [] (fun t => args.getD t undef) w) : Calls P g args.toArray w (Ret T) := by
  refine callsIn_wide (n := 0) |>.1 (callsIn_of_wp_marks (F := WF none) hf hb trivial ?_)
  have hl' : args.length ≤ n := (Nat.ble_eq ▸ hl)
  have h1 := h { tmps := args.toArray ++ Array.replicate (fn.ntmps - args.toArray.size) undef, defers := [] } ⟨by simp [hn]; omega, fun t => ?_, rfl⟩
  · refine Go.wpIn_mono h1 ?_
    intro e a w ⟨f, ds, ha, hR⟩
    cases e with
    | normal => have h2 := hR a.tmps ha.size ha.get; rw [← ha.defers] at h2; exact h2
    | ret => have h2 := hR a.tmps ha.size ha.get; rw [← ha.defers] at h2; exact h2
    | exit i => exact hR.elim
    | goto i => exact hR.elim
    | panic c => exact hR.elim
    | outgrown => exact hR.elim
  · rw [Array.getD_eq_getD_getElem?, Array.getElem?_append]
    simp only [List.size_toArray, List.getElem?_toArray]
    by_cases ht : t < args.length
    · rw [if_pos ht]; simp [List.getD]
    · rw [if_neg ht, Array.getElem?_replicate]
      have : args[t]? = none := List.getElem?_eq_none (by omega)
      rw [List.getD, this]
      split <;> rfl

/-- a range over a function: its record and the block of its mark are laid, the function is called with yield, what a round has left pending is done -/
theorem yc_range {g : Operand} {ps : Array Tmp} {assign body : Code} {gf : FuncId} {us : Array Value} (hg : ev f g = .func (.func gf) #[] us) (hc : ∀ as w, (callFunc gf as).run P w = .ok (.enter gf as) w) (h : SatL E w L)
    (hcall : ∀ (l D : Nat) (fn : FuncId) (tmps : Array Value) (w1 : World), tmps.size = n → (∀ t, tmps.getD t undef = f t) →
      SatL E w1 (pt l (.loop { state := .ready, pending := none, fn, tmps, params := ps, assign, body, defers := D }) :: pt D (.deferred (some [])) :: L) →
      Calls P gf (#[.func (.yield l) #[] #[]] ++ us) w1 (Ret fun _ w2 => ∃ (r : Loop) (L2 : List SProp), r.state ≠ .busy ∧ SatL E w2 (pt l (.loop r) :: pt D (.deferred (some [])) :: L2) ∧
        ∀ w3, SatL E w3 (pt l (.loop { r with state := .exhausted }) :: pt D (.deferred (some [])) :: L2) →
          (match r.pending with
          | none => R .normal (mark D :: ds) f w3
          | some c => yc P R n c (mark D :: ds) f w3))) : yc P R n (.rangeFunc g ps assign body) ds f w := by
  intro a ha
  refine wpIn_rangeFunc ?_
  intro fn _
  have hs1 : SatL E ((w.alloc (.deferred (some []))).alloc (.loop { state := .ready, pending := none, fn, tmps := a.tmps, params := ps, assign, body, defers := w.heap.size })) (pt (w.heap.size + 1) (.loop { state := .ready, pending := none, fn, tmps := a.tmps, params := ps, assign, body, defers := w.heap.size }) :: pt w.heap.size (.deferred (some [])) :: L) := by
    have h1 := (h.alloc (.deferred (some []))).alloc (.loop { state := .ready, pending := none, fn, tmps := a.tmps, params := ps, assign, body, defers := w.heap.size })
    rwa [World.size_alloc] at h1
  generalize hW : (w.alloc (.deferred (some []))).alloc (.loop { state := .ready, pending := none, fn, tmps := a.tmps, params := ps, assign, body, defers := w.heap.size }) = W1 at hs1
  refine ⟨w.heap.size + 1, [mark w.heap.size], W1, { target := .fn (.func gf) us, args := #[.func (.yield (w.heap.size + 1)) #[] #[]] }, W1, gf, #[.func (.yield (w.heap.size + 1)) #[] #[]] ++ us, W1, hW ▸ run_enterLoop_outer _ _ _ _ _, ?_, (fun f' _ => by exact trivial), ?_, fun h0 => by simp [WF, Fence.wide] at h0, ?_⟩
  · have hg' : a.eval g = .func (.func gf) #[] us := by rw [ha.eval]; exact hg
    simp only [resolve, hg']
    simp [go_sem]
  · simp [invoke, go_sem, hc]
  · refine (calls_wf (hcall _ _ fn a.tmps _ ha.size ha.get hs1) none).mono ?_
    intro e w2 he
    cases e with
    | returned v =>
      obtain ⟨r, L2, hb, hs2, hk⟩ := he
      refine ⟨_, _, run_endLoop (hs2.block 0 rfl) hb, ?_⟩
      have hk2 := hk _ hs2.putObj
      have hA : Is { a with defers := [mark w.heap.size] ++ a.defers } n f (mark w.heap.size :: ds) := ⟨ha.size, ha.get, by rw [ha.defers]; rfl⟩
      cases hp : r.pending with
      | none => rw [hp] at hk2; exact ⟨f, _, hA, hk2⟩
      | some c => rw [hp] at hk2; exact hk2 _ hA
    | panicked c => exact he.elim
    | outgrown => exact he.elim
attribute [irreducible] bodyY
end
end Go.Proofs.Ytfmhcefjbghhlaa
