/-
A region of drawn order within a round.
-/
import Derived.Test.YtmfkhfmidnojhaaX8
import Derived.Test.YtmfkhfmidnojhaaY1
import Derived.OrdersIn
namespace Go.Proofs.Ytmfkhfmidnojhaa
open Go Go.RowKit
section
variable {ro : Option Nat} {P : Program} {ops : Array Oper} {md : Region.Mode} {Q : Exit → Act → World → Prop}
theorem rows_wf {row : String} {args : Array Value} {w : World} {T : Value → World → Prop} (h : Rows P row args w T) : RowsIn (WF ro) 0 P row args w T :=
  fun c cs _ => let ⟨v, w', r, s⟩ := h c cs; ⟨v, w', r, (stepsIn_wide (P := P)).2 s⟩
theorem wpOpIn_of {i : Nat} {K : Act → World → Prop} {a : Act} {w : World} (hnl : ¬ LetsOut Q) (hnd : ∀ o, ops[i]? = some o → ∀ c, o.op ≠ .defer c) (h : wpOp P ops Q i K a w) : wpOpIn (WF ro) 0 P ops Q i K a w := by
  unfold wpOp at h
  unfold wpOpIn
  cases ho : ops[i]? with
  | none => rw [ho] at h; exact h
  | some o =>
    rw [ho] at h
    simp only at h ⊢
    split at h
    · rename_i hw
      rw [if_pos hw]
      rcases h with h | ⟨_, h⟩
      · refine ⟨fun _ _ => trivial, ?_⟩
        rw [Oper.semAt_eq _ _ _ (hnd o ho)]
        unfold Oper.wp at h
        generalize (execOp a.eval o).run P w = r at h ⊢
        match r, h with
        | .ok (.value v) w', h => exact h
        | .ok .skip w', h => exact h
        | .ok (.defer d) w', h => exact h
        | .ok (.enter f args) w', h => exact ⟨fun h0 => by simp [WF, Fence.wide] at h0, calls_wf h ro⟩
        | .ok (.row row args) w', h => exact ⟨fun h0 => by simp [WF, Fence.wide] at h0, rows_wf h⟩
        | .halt (.panic v) w', h => exact h
      · exact absurd h hnl
    · rename_i hw
      rw [if_neg hw]
      exact ⟨fun _ _ => trivial, h⟩
theorem anyIn_of (hnl : ¬ LetsOut Q) (hnd : ∀ (i : Nat) o, ops[i]? = some o → ∀ c, o.op ≠ .defer c) : ∀ (k : Nat) (listed : Array Bool) (a : Act) (w : World), wpAny P md ops Q k listed a w → wpAnyIn (WF ro) 0 P md ops Q k listed a w
  | 0, _, _, _, h => h
  | k + 1, _, _, _, h => ⟨h.1, fun i hi => wpOpIn_of hnl (hnd i) (wpOp_mono (fun _ _ h' => anyIn_of hnl hnd k _ _ _ h') (h.2 i hi))⟩
def noDefer (l : List Oper) : Bool := l.all fun o => match o.op with
  | .defer _ => false
  | _ => true
theorem noDefer_spec {l : List Oper} (h : noDefer l = true) (i : Nat) (o : Oper) (ho : l.toArray[i]? = some o) (c : Call) : o.op ≠ .defer c := by
  intro e
  have h1 := List.all_eq_true.1 h o (List.mem_of_getElem? (by simpa using ho))
  rw [e] at h1
  cases h1
theorem xc_planR {R : Exit → (Nat → Value) → World → Prop} {n : Nat} {ds : List Deferred} {f : Nat → Value} {w : World} {E : Env} {L : List SProp} {i : Nat} {l : List Oper} (z : Nat) (plan : List (Nat × Nat)) (hm : P.follows .mixedOrders = true) (hl : plan.length = l.toArray.size) (hp : planB .any l.toArray z plan (Array.replicate l.toArray.size false) = true)
    (hnd : noDefer l = true) (hng : ∀ f w, ¬ R .outgrown f w) (hS : SatL E w L) (h : xp P l.toArray (fun W => SatL E W L) z R n ds plan f w.drew) : xc ro P R n ds (.region i l.toArray true) f w := by
  intro a ha
  refine wpIn_region_any hm ?_
  have h1 := h _ hp a ha (fun _ => hS.drew)
  rw [hl] at h1
  exact anyIn_of (Q := qf n ds R) (fun hh => by obtain ⟨_, w2, f2, _, hR⟩ := hh; exact hng f2 w2 hR) (fun i o ho => noDefer_spec hnd i o ho) _ _ _ _ (anyP_wpAny _ _ _ _ h1)
end
theorem roundR_ng {P : Program} {l : Nat} {T : Value → World → Prop} {f : Nat → Value} {w : World} (h : roundR P l T .outgrown f w) : False := by unfold roundR at h; exact h
theorem roundR_np {P : Program} {l : Nat} {T : Value → World → Prop} {f : Nat → Value} {w : World} {c : _} (h : roundR P l T (.panic c) f w) : False := by unfold roundR at h; exact h
end Go.Proofs.Ytmfkhfmidnojhaa
