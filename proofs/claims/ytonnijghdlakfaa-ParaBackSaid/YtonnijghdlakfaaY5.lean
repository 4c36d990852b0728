/-
Rounds of a range over a function: what a round's frame is; a range whose body may leave its block.
-/
import Derived.Test.YtonnijghdlakfaaY2
namespace Go.Proofs.Ytonnijghdlakfaa
open Go Go.RowKit
theorem fold_get : ∀ {ps : List Tmp} {vs : List Value} {tmps : Array Value} {t : Nat} (_ : ps.all (fun p => !(Nat.beq p t)) = true),
    ((ps.toArray.zip vs.toArray).foldl (fun t (p, v) => t.setIfInBounds p v) tmps).getD t undef = tmps.getD t undef
  | [], _, _, _, _ => by rw [← Array.foldl_toList]; simp
  | _ :: _, [], _, _, _ => by rw [← Array.foldl_toList]; simp
  | p :: ps, v :: vs, tmps, t, h => by
    simp only [List.all_cons, Bool.and_eq_true] at h
    have ih := fold_get (ps := ps) (vs := vs) (tmps := tmps.setIfInBounds p v) (t := t) h.2
    have hp : p ≠ t := by
      intro e; subst e; simp at h
    rw [show (tmps.setIfInBounds p v).getD t undef = tmps.getD t undef by
      rw [Array.getD_eq_getD_getElem?, Array.getD_eq_getD_getElem?, Array.getElem?_setIfInBounds, if_neg hp]] at ih
    rw [← ih, ← Array.foldl_toList, ← Array.foldl_toList]
    simp
theorem getD_set {tmps : Array Value} {p : Nat} {v : Value} (hp : p < tmps.size) : (tmps.setIfInBounds p v).getD p undef = v := by
  rw [Array.getD_eq_getD_getElem?, Array.getElem?_setIfInBounds, if_pos rfl, if_pos hp]; rfl
theorem fold1_0 {p : Tmp} {v : Value} {tmps : Array Value} (hp : p < tmps.size) : ((#[p].zip [v].toArray).foldl (fun t (p, v) => t.setIfInBounds p v) tmps).getD p undef = v := by
  have e : ((#[p].zip [v].toArray).foldl (fun t (p, v) => t.setIfInBounds p v) tmps) = tmps.setIfInBounds p v := by rw [← Array.foldl_toList]; simp
  rw [e]; exact getD_set hp
theorem fold2_eq {p q : Tmp} {v u : Value} {tmps : Array Value} : ((#[p, q].zip [v, u].toArray).foldl (fun t (p, v) => t.setIfInBounds p v) tmps) = (tmps.setIfInBounds p v).setIfInBounds q u := by
  rw [← Array.foldl_toList]; simp
theorem fold2_0 {p q : Tmp} {v u : Value} {tmps : Array Value} (hp : p < tmps.size) (hq : q ≠ p) : ((#[p, q].zip [v, u].toArray).foldl (fun t (p, v) => t.setIfInBounds p v) tmps).getD p undef = v := by
  rw [fold2_eq, Array.getD_eq_getD_getElem?, Array.getElem?_setIfInBounds, if_neg hq, ← Array.getD_eq_getD_getElem?]; exact getD_set hp
theorem fold2_1 {p q : Tmp} {v u : Value} {tmps : Array Value} (hq : q < tmps.size) : ((#[p, q].zip [v, u].toArray).foldl (fun t (p, v) => t.setIfInBounds p v) tmps).getD q undef = u := by
  rw [fold2_eq]; exact getD_set (by simpa using hq)
section
variable {ro : Option Nat} {P : Program} {K : (Nat → Value) → World → Prop} {R : Exit → (Nat → Value) → World → Prop} {n : Nat} {f : Nat → Value} {w : World} {E : Env} {L M : List SProp}
theorem thenR_mk (h : K f w) : thenR K R .normal f w := h
theorem SatL.loopAbs {l : Nat} {r : Loop} (h : SatL E w (pt l (.loop r) :: L)) : ∃ r', r' = r ∧ SatL E w (pt l (.loop r') :: L) := ⟨r, rfl, h⟩
theorem SatL.app (h : SatL E w (L ++ M)) : SatL E w (M ++ L) := h.perm List.perm_append_comm
end
section
variable {P : Program} {R : RY} {n : Nat} {ds : List Deferred} {f : Nat → Value} {w : World} {E : Env} {L : List SProp}
/-- a range whose body may leave the block around it -/
theorem yc_rangeX {id : Nat} {g : Operand} {ps : Array Tmp} {assign body : Code} {gf : FuncId} {us : Array Value} (hg : ev f g = .func (.func gf) #[] us) (hc : ∀ xs w, (callFunc gf xs).run P w = .ok (.enter gf xs) w) (h : SatL E w L)
    (hcall : ∀ (l D : Nat) (fn : FuncId) (tmps : Array Value) (w1 : World), tmps.size = n → (∀ t, tmps.getD t undef = f t) →
      SatL E w1 (pt l (.loop { state := .ready, pending := none, fn, tmps, params := ps, assign, body, defers := D }) :: pt D (.deferred (some [])) :: L) →
      Calls P gf (#[.func (.yield l) #[] #[]] ++ us) w1 (Ret fun _ w2 => ∃ (r : Loop) (L2 : List SProp), r.state ≠ .busy ∧ (r.pending = none ∨ r.pending = some (.exit id)) ∧ SatL E w2 (pt l (.loop r) :: pt D (.deferred (some [])) :: L2) ∧
        ∀ w3, SatL E w3 (pt D (.deferred (some [])) :: L2) → R .normal (mark D :: ds) f w3)) : yc P R n (.block id (.rangeFunc g ps assign body)) ds f w := by
  refine yc_block (yc_range hg hc h ?_)
  intro l D fn tmps w1 h1 h2 h3
  refine Calls.ret_mono (hcall l D fn tmps w1 h1 h2 h3) ?_
  rintro _ w2 ⟨r, L2, hr, hp, hs, hk⟩
  refine ⟨r, L2, hr, hs, fun w3 h4 => ?_⟩
  rcases hp with hp | hp
  · rw [hp]; exact hk w3 h4.drop
  · rw [hp]; refine yc_exit ?_
    simp only [blockY, if_pos]
    exact hk w3 h4.drop
end
end Go.Proofs.Ytonnijghdlakfaa
