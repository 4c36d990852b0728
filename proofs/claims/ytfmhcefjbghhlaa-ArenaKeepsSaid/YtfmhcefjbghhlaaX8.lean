/-
Regions that draw their order where more than one effect may come up: plans that fork.
-/
import Derived.Test.YtfmhcefjbghhlaaX7
namespace Go.Proofs.Ytfmhcefjbghhlaa
open Go Go.RowKit
section
variable {E : Env} {w : World} {L : List SProp}
theorem Sats.take {h : Array Obj} : ∀ (k : Nat) {L : List SProp} {U : Nat → Prop}, Sats h L U → Sats h (L.take k) U
  | 0, _, _, _ => trivial
  | _ + 1, [], _, _ => trivial
  | k + 1, _ :: _, _, ⟨m, a, s, d, t⟩ => ⟨m, a, s, d, Sats.take k t⟩
theorem SatL.pre1 {A : SProp} (h : SatL E w (A :: L)) : SatL E w [A] := ⟨h.os, h.tape, h.output, Sats.take 1 h.heap⟩
theorem SatL.pre2 {A B : SProp} (h : SatL E w (A :: B :: L)) : SatL E w [A, B] := ⟨h.os, h.tape, h.output, Sats.take 2 h.heap⟩
theorem SatL.pre3 {A B C : SProp} (h : SatL E w (A :: B :: C :: L)) : SatL E w [A, B, C] := ⟨h.os, h.tape, h.output, Sats.take 3 h.heap⟩
theorem SatL.pre4 {A B C D : SProp} (h : SatL E w (A :: B :: C :: D :: L)) : SatL E w [A, B, C, D] := ⟨h.os, h.tape, h.output, Sats.take 4 h.heap⟩
theorem SatL.pre5 {A B C D F : SProp} (h : SatL E w (A :: B :: C :: D :: F :: L)) : SatL E w [A, B, C, D, F] := ⟨h.os, h.tape, h.output, Sats.take 5 h.heap⟩
theorem SatL.pre6 {A B C D F G : SProp} (h : SatL E w (A :: B :: C :: D :: F :: G :: L)) : SatL E w [A, B, C, D, F, G] := ⟨h.os, h.tape, h.output, Sats.take 6 h.heap⟩
end
inductive PT where
  | nil : PT
  | rd : Nat → Nat → PT → PT
  | e1 : Nat → PT → PT
  | e2 : Nat → PT → Nat → PT → PT
  | e3 : Nat → PT → Nat → PT → Nat → PT → PT
def PT.n : PT → Nat
  | .nil => 0
  | .rd _ _ p => p.n + 1
  | .e1 _ p => p.n + 1
  | .e2 _ p _ _ => p.n + 1
  | .e3 _ p _ _ _ _ => p.n + 1
def planT (md : Region.Mode) (ops : Array Oper) (z : Nat) : PT → Array Bool → Bool
  | .nil, listed => (Region.ready md ops listed).isEmpty
  | .rd i 1 p, listed => Region.noSelect ops && (Region.ready md ops listed).contains i && Region.free md ops listed i && waitsOn md ops z i && !listed.getD z false && i != z && planT md ops z p (listed.setIfInBounds i true)
  | .rd i _ p, listed => Region.noSelect ops && (Region.ready md ops listed).contains i && Region.free md ops listed i && i != z && planT md ops z p (listed.setIfInBounds i true)
  | .e1 i p, listed => (Region.ready md ops listed == [i]) && planT md ops z p (listed.setIfInBounds i true)
  | .e2 i p j q, listed => (Region.ready md ops listed == [i, j]) && p.n == q.n && planT md ops z p (listed.setIfInBounds i true) && planT md ops z q (listed.setIfInBounds j true)
  | .e3 i p j q k r, listed => (Region.ready md ops listed == [i, j, k]) && p.n == q.n && p.n == r.n && planT md ops z p (listed.setIfInBounds i true) && planT md ops z q (listed.setIfInBounds j true) && planT md ops z r (listed.setIfInBounds k true)
def xt (P : Program) (ops : Array Oper) (S : World → Prop) (z : Nat) (R : Exit → (Nat → Value) → World → Prop) (n : Nat) (ds : List Deferred) (p : PT) (f : Nat → Value) (w : World) : Prop :=
  ∀ listed, planT .any ops z p listed = true → ∀ a, Is a n f ds → (listed.getD z false = false → S w) → anyP P .any ops (qf n ds R) S z p.n listed a w
def Stp (P : Program) (ops : Array Oper) (S : World → Prop) (z : Nat) (R : Exit → (Nat → Value) → World → Prop) (n : Nat) (ds : List Deferred) (i : Nat) (p : PT) (f : Nat → Value) (w : World) : Prop :=
  ∀ listed a, planT .any ops z p (listed.setIfInBounds i true) = true → Is a n f ds → i ∈ Region.ready .any ops listed →
    wpOp P ops (qf n ds R) i (fun a' w' => (listed.getD z false = false → i ≠ z → S w') ∧ anyP P .any ops (qf n ds R) S z p.n (listed.setIfInBounds i true) a' w') a w
section
variable {P : Program} {ops : Array Oper} {S : World → Prop} {z : Nat} {R : Exit → (Nat → Value) → World → Prop} {n : Nat} {ds : List Deferred} {f : Nat → Value} {w : World} {p q r : PT}
theorem xt_nil (h : R .normal f w) : xt P ops S z R n ds .nil f w := fun listed hp a ha _ =>
  ⟨by simpa [planT] using hp, f, ha, h⟩
theorem xt_load {i : Nat} {d : Nat} {op : Op} {ty : TypeId} {pos : String} {af : Array Edge} {v : Value} (hi : ops[i]? = some ⟨some d, op, ty, pos, af, none⟩)
    (hr : ∀ W, S W → (execOp (ev f) ⟨some d, op, ty, pos, af, none⟩).run P W = .ok (.value v) W) (hn : Nat.blt d n = true)
    (hQ : ∀ c f w, ¬ R (.panic c) f w) (h : xt P ops S z R n ds p (upd f d v) w) : xt P ops S z R n ds (.rd i 1 p) f w := by
  intro listed hp a ha hS
  simp only [planT, Bool.and_eq_true, Bool.not_eq_true', bne_iff_ne] at hp
  obtain ⟨⟨⟨⟨⟨⟨p1, p2⟩, p3⟩, p4⟩, p5⟩, p6⟩, p7⟩ := hp
  refine anyP_read true hi (Region.noSelect_spec p1) (fun _ => p4) p6 (fun c a w h1 => ?_) _ listed a w (Region.free_spec hi p3) (mem_of_contains p2) (.inl ⟨rfl, fun W hW => ?_⟩) (fun _ => p5) hS (h _ p7 _ (ha.put hn v) fun h0 => hS p5)
  · obtain ⟨f', _, h2⟩ := h1; exact (hQ _ _ _ h2).elim
  · rw [ha.eval]; exact hr W (hW rfl)
theorem xt_read {i : Nat} {d : Nat} {op : Op} {ty : TypeId} {pos : String} {af : Array Edge} {v : Value} (hi : ops[i]? = some ⟨some d, op, ty, pos, af, none⟩)
    (hr : ∀ W, (execOp (ev f) ⟨some d, op, ty, pos, af, none⟩).run P W = .ok (.value v) W) (hn : Nat.blt d n = true)
    (hQ : ∀ c f w, ¬ R (.panic c) f w) (h : xt P ops S z R n ds p (upd f d v) w) : xt P ops S z R n ds (.rd i 2 p) f w := by
  intro listed hp a ha hS
  simp only [planT, Bool.and_eq_true, bne_iff_ne] at hp
  obtain ⟨⟨⟨⟨p1, p2⟩, p3⟩, p6⟩, p7⟩ := hp
  refine anyP_read false hi (Region.noSelect_spec p1) (fun h => by cases h) p6 (fun c a w h1 => ?_) _ listed a w (Region.free_spec hi p3) (mem_of_contains p2) (.inl ⟨rfl, fun W _ => ?_⟩) (fun h => by cases h) hS (h _ p7 _ (ha.put hn v) (keep_z p6 hS))
  · obtain ⟨f', _, h2⟩ := h1; exact (hQ _ _ _ h2).elim
  · rw [ha.eval]; exact hr W
theorem xt_e1 {i : Nat} (h : Stp P ops S z R n ds i p f w) : xt P ops S z R n ds (.e1 i p) f w := by
  intro listed hp a ha _
  simp only [planT, Bool.and_eq_true, beq_iff_eq] at hp
  refine ⟨fun h0 => absurd (hp.1.symm.trans h0) (by simp), fun m hm => ?_⟩
  have hm2 := hm
  rw [hp.1] at hm
  obtain rfl : m = i := by simpa using hm
  exact h listed a hp.2 ha hm2
theorem xt_e2 {i j : Nat} (h1 : Stp P ops S z R n ds i p f w) (h2 : Stp P ops S z R n ds j q f w) : xt P ops S z R n ds (.e2 i p j q) f w := by
  intro listed hp a ha _
  simp only [planT, Bool.and_eq_true, beq_iff_eq] at hp
  obtain ⟨⟨⟨g1, g2⟩, g3⟩, g4⟩ := hp
  refine ⟨fun h0 => absurd (g1.symm.trans h0) (by simp), fun m hm => ?_⟩
  have hm2 := hm
  rw [g1] at hm
  simp only [List.mem_cons, List.not_mem_nil, or_false] at hm
  rcases hm with rfl | rfl
  · exact h1 listed a g3 ha hm2
  · have h3 := h2 listed a g4 ha hm2
    rw [← g2] at h3
    exact h3
theorem xt_e3 {i j k : Nat} (h1 : Stp P ops S z R n ds i p f w) (h2 : Stp P ops S z R n ds j q f w) (h3 : Stp P ops S z R n ds k r f w) : xt P ops S z R n ds (.e3 i p j q k r) f w := by
  intro listed hp a ha _
  simp only [planT, Bool.and_eq_true, beq_iff_eq] at hp
  obtain ⟨⟨⟨⟨⟨g1, g2⟩, g2'⟩, g3⟩, g4⟩, g5⟩ := hp
  refine ⟨fun h0 => absurd (g1.symm.trans h0) (by simp), fun m hm => ?_⟩
  have hm2 := hm
  rw [g1] at hm
  simp only [List.mem_cons, List.not_mem_nil, or_false] at hm
  rcases hm with rfl | rfl | rfl
  · exact h1 listed a g3 ha hm2
  · have h4 := h2 listed a g4 ha hm2
    rw [← g2] at h4
    exact h4
  · have h4 := h3 listed a g5 ha hm2
    rw [← g2'] at h4
    exact h4
theorem xs_val {i d : Nat} {op : Op} {ty : TypeId} {pos : String} {af : Array Edge} {v : Value} {w' : World} (hi : ops[i]? = some ⟨some d, op, ty, pos, af, none⟩)
    (hr : (execOp (ev f) ⟨some d, op, ty, pos, af, none⟩).run P w = .ok (.value v) w') (hn : Nat.blt d n = true) (hS : i ≠ z → S w') (h : xt P ops S z R n ds p (upd f d v) w') : Stp P ops S z R n ds i p f w := by
  intro listed a hp ha hrd
  unfold wpOp
  simp only [hi, Region.wanted, if_true]
  refine .inl ?_
  unfold Oper.wp
  rw [ha.eval, hr, Oper.upon_value]
  exact ⟨fun _ => hS, h _ hp _ (ha.put hn v) (set_z hrd hS)⟩
theorem xs_skip {i : Nat} {op : Op} {ty : TypeId} {pos : String} {af : Array Edge} {w' : World} (hi : ops[i]? = some ⟨none, op, ty, pos, af, none⟩)
    (hr : (execOp (ev f) ⟨none, op, ty, pos, af, none⟩).run P w = .ok .skip w') (hS : i ≠ z → S w') (h : xt P ops S z R n ds p f w') : Stp P ops S z R n ds i p f w := by
  intro listed a hp ha hrd
  unfold wpOp
  simp only [hi, Region.wanted, if_true]
  refine .inl ?_
  unfold Oper.wp
  rw [ha.eval, hr, Oper.upon_skip]
  exact ⟨fun _ => hS, h _ hp _ (ha.putNone undef) (set_z hrd hS)⟩
theorem xs_st {E : Env} {L : List SProp} {i : Nat} {op : Op} {ty : TypeId} {pos : String} {af : Array Edge} {w' : World} (hi : ops[i]? = some ⟨none, op, ty, pos, af, none⟩)
    (hr : (execOp (ev f) ⟨none, op, ty, pos, af, none⟩).run P w = .ok .skip w') (hL : SatL E w' L) (hS : i ≠ z → ∀ w, SatL E w L → S w) (h : ∀ w, SatL E w L → xt P ops S z R n ds p f w) : Stp P ops S z R n ds i p f w :=
  xs_skip hi hr (fun hz => hS hz _ hL) (h _ hL)
theorem xs_enter {i d : Nat} {op : Op} {ty : TypeId} {pos : String} {af : Array Edge} {g : FuncId} {args : Array Value} {T : Value → World → Prop} (hi : ops[i]? = some ⟨some d, op, ty, pos, af, none⟩)
    (hr : (execOp (ev f) ⟨some d, op, ty, pos, af, none⟩).run P w = .ok (.enter g args) w) (hn : Nat.blt d n = true)
    (hc : Calls P g args w (Ret T)) (h : ∀ v w', T v w' → (i ≠ z → S w') ∧ xt P ops S z R n ds p (upd f d v) w') : Stp P ops S z R n ds i p f w := by
  intro listed a hp ha hrd
  unfold wpOp
  simp only [hi, Region.wanted, if_true]
  refine .inl ?_
  unfold Oper.wp
  rw [ha.eval, hr, Oper.upon_enter]
  refine hc.mono fun e w' he => ?_
  cases e with
  | returned v => have h1 := h v w' he; exact ⟨fun _ => h1.1, h1.2 _ hp _ (ha.put hn v) (set_z hrd h1.1)⟩
  | panicked c => exact he.elim
  | outgrown => exact he.elim
theorem xs_allocA {E : Env} {L : List SProp} {i d : Nat} {T ty : TypeId} {pos : String} {af : Array Edge} {zs : Array Value} (hi : ops[i]? = some ⟨some d, .alloc T, ty, pos, af, none⟩) (h : SatL E w L) (hz : ∀ w, (zeroValue T).run P w = .ok (.agg zs) w) (hn : Nat.blt d n = true)
    (hnext : ∀ b w', SatL E w' (Cells b zs T :: L) → (i ≠ z → S w') ∧ xt P ops S z R n ds p (upd f d (.pointer (some ⟨b, 0, none⟩))) w') : Stp P ops S z R n ds i p f w := by
  have h1 := hnext _ _ (h.alloc (.cells zs T))
  exact xs_val hi (by simp [execOp, Instr.alloc, hz, newVar, newRow, Value.cells]) hn h1.1 h1.2
theorem xt_plan {E : Env} {L : List SProp} {i : Nat} {l : List Oper} (z : Nat) (p : PT) (hm : P.follows .mixedOrders = true) (hl : p.n = l.toArray.size) (hp : planT .any l.toArray z p (Array.replicate l.toArray.size false) = true)
    (hS : SatL E w L) (h : xt P l.toArray (fun W => SatL E W L) z R n ds p f w.drew) : xc none P R n ds (.region i l.toArray true) f w := by
  intro a ha
  refine (wpIn_wide (n := 0)).2 (wp_region_any hm ?_)
  have h1 := h _ hp a ha (fun _ => hS.drew)
  rw [hl] at h1
  exact anyP_wpAny _ _ _ _ h1
theorem xp_boxA {E : Env} {L : List SProp} {i d : Nat} {plan : List (Nat × Nat)} {T ty : TypeId} {x : Operand} {pos : String} {af : Array Edge} {vs : Array Value} (hi : ops[i]? = some ⟨some d, .box T x, ty, pos, af, none⟩) (h : SatL E w L) (hx : ev f x = .agg vs) (hn : Nat.blt d n = true)
    (hnext : ∀ b w', SatL E w' (Cells b vs T :: L) → (i ≠ z → S w') ∧ xp P ops S z R n ds plan (upd f d (.pointer (some ⟨b, 0, none⟩))) w') : xp P ops S z R n ds ((i, 0) :: plan) f w := by
  have h1 := hnext _ _ (h.alloc (.cells vs T))
  exact xp_val hi (r_box hx) hn h1.1 h1.2
/-- a cut between two codes: what holds there -/
theorem xc_cut {ro : Option Nat} {x y : Code} (I : (Nat → Value) → World → Prop) (hx : xc ro P (thenR I R) n ds x f w) (hy : ∀ f w, I f w → xc ro P R n ds y f w) : xc ro P R n ds (.seq x y) f w := by
  intro a ha
  refine wpIn_seq (Go.wpIn_mono (hx a ha) ?_)
  intro e a' w' ⟨f', ha', hR⟩
  cases e with
  | normal => exact hy f' w' hR a' ha'
  | exit i => exact ⟨f', ha', hR⟩
  | goto i => exact ⟨f', ha', hR⟩
  | ret => exact ⟨f', ha', hR⟩
  | panic c => exact ⟨f', ha', hR⟩
  | outgrown => exact ⟨f', ha', hR⟩
end
end Go.Proofs.Ytfmhcefjbghhlaa
