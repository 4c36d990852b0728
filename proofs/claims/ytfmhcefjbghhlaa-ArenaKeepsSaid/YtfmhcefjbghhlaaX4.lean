/-
Positions in lists of assertions written out; cells of arrays written out; regions that draw their order, by a plan.
-/
import Derived.Test.YtfmhcefjbghhlaaX3
namespace Go.Proofs.Ytfmhcefjbghhlaa
open Go Go.RowKit

theorem es {f : Nat → Value} {d : Nat} {v : Value} : ev (upd f d v) (.tmp d) = v := if_pos rfl
theorem en {f : Nat → Value} {t d : Nat} {u v : Value} (hn : Nat.beq t d = false) (h : ev f (.tmp t) = v) : ev (upd f d u) (.tmp t) = v := by
  have : t ≠ d := fun e => by subst e; simp at hn
  simp only [ev, upd, if_neg this]; exact h
theorem ec {f : Nat → Value} {v : Value} : ev f (.const v) = v := rfl
theorem ef {f : Nat → Value} {g : Nat} : ev f (.func g) = .func (.func g) #[] #[] := rfl

theorem arg0 {a : Value} {l : List Value} : (a :: l).getD 0 undef = a := rfl
theorem arg1 {a b : Value} {l : List Value} : (a :: b :: l).getD 1 undef = b := rfl
theorem arg2 {a b c : Value} {l : List Value} : (a :: b :: c :: l).getD 2 undef = c := rfl
theorem arg3 {a b c d : Value} {l : List Value} : (a :: b :: c :: d :: l).getD 3 undef = d := rfl
theorem arg4 {a b c d e : Value} {l : List Value} : (a :: b :: c :: d :: e :: l).getD 4 undef = e := rfl
theorem arg5 {a b c d e f : Value} {l : List Value} : (a :: b :: c :: d :: e :: f :: l).getD 5 undef = f := rfl
theorem arg6 {a b c d e f g : Value} {l : List Value} : (a :: b :: c :: d :: e :: f :: g :: l).getD 6 undef = g := rfl
theorem arg7 {a b c d e f g h : Value} {l : List Value} : (a :: b :: c :: d :: e :: f :: g :: h :: l).getD 7 undef = h := rfl
theorem gc0 {a : Value} {l : List Value} : (List.toArray (a :: l))[0]? = some a := by simp
theorem gc1 {a b : Value} {l : List Value} : (List.toArray (a :: b :: l))[1]? = some b := by simp
theorem gc2 {a b c : Value} {l : List Value} : (List.toArray (a :: b :: c :: l))[2]? = some c := by simp
theorem gc3 {a b c d : Value} {l : List Value} : (List.toArray (a :: b :: c :: d :: l))[3]? = some d := by simp
theorem gc4 {a b c d e : Value} {l : List Value} : (List.toArray (a :: b :: c :: d :: e :: l))[4]? = some e := by simp
theorem gc5 {a b c d e f : Value} {l : List Value} : (List.toArray (a :: b :: c :: d :: e :: f :: l))[5]? = some f := by simp
theorem gc6 {a b c d e f g : Value} {l : List Value} : (List.toArray (a :: b :: c :: d :: e :: f :: g :: l))[6]? = some g := by simp
theorem gc7 {a b c d e f g h : Value} {l : List Value} : (List.toArray (a :: b :: c :: d :: e :: f :: g :: h :: l))[7]? = some h := by simp
theorem sc0 {a v : Value} {l : List Value} : (List.toArray (a :: l)).setIfInBounds 0 v = List.toArray (v :: l) := by simp
theorem sc1 {a b v : Value} {l : List Value} : (List.toArray (a :: b :: l)).setIfInBounds 1 v = List.toArray (a :: v :: l) := by simp
theorem sc2 {a b c v : Value} {l : List Value} : (List.toArray (a :: b :: c :: l)).setIfInBounds 2 v = List.toArray (a :: b :: v :: l) := by simp
theorem sc3 {a b c d v : Value} {l : List Value} : (List.toArray (a :: b :: c :: d :: l)).setIfInBounds 3 v = List.toArray (a :: b :: c :: v :: l) := by simp
theorem sc4 {a b c d e v : Value} {l : List Value} : (List.toArray (a :: b :: c :: d :: e :: l)).setIfInBounds 4 v = List.toArray (a :: b :: c :: d :: v :: l) := by simp
theorem sc5 {a b c d e f v : Value} {l : List Value} : (List.toArray (a :: b :: c :: d :: e :: f :: l)).setIfInBounds 5 v = List.toArray (a :: b :: c :: d :: e :: v :: l) := by simp
theorem sc6 {a b c d e f g v : Value} {l : List Value} : (List.toArray (a :: b :: c :: d :: e :: f :: g :: l)).setIfInBounds 6 v = List.toArray (a :: b :: c :: d :: e :: f :: v :: l) := by simp
theorem sc7 {a b c d e f g h v : Value} {l : List Value} : (List.toArray (a :: b :: c :: d :: e :: f :: g :: h :: l)).setIfInBounds 7 v = List.toArray (a :: b :: c :: d :: e :: f :: g :: v :: l) := by simp

section
variable {E : Env} {w : World} {L : List SProp}

theorem SatL.f0 {A : SProp} (h : SatL E w (A :: L)) : SatL E w (A :: L) := h.front 0
theorem SatL.f1 {A B : SProp} (h : SatL E w (A :: B :: L)) : SatL E w (B :: A :: L) := h.front 1
theorem SatL.f2 {A B C : SProp} (h : SatL E w (A :: B :: C :: L)) : SatL E w (C :: A :: B :: L) := h.front 2
theorem SatL.f3 {A B C D : SProp} (h : SatL E w (A :: B :: C :: D :: L)) : SatL E w (D :: A :: B :: C :: L) := h.front 3
theorem SatL.f4 {A B C D F : SProp} (h : SatL E w (A :: B :: C :: D :: F :: L)) : SatL E w (F :: A :: B :: C :: D :: L) := h.front 4
theorem SatL.f5 {A B C D F G : SProp} (h : SatL E w (A :: B :: C :: D :: F :: G :: L)) : SatL E w (G :: A :: B :: C :: D :: F :: L) := h.front 5
theorem SatL.f6 {A B C D F G H : SProp} (h : SatL E w (A :: B :: C :: D :: F :: G :: H :: L)) : SatL E w (H :: A :: B :: C :: D :: F :: G :: L) := h.front 6
theorem SatL.f7 {A B C D F G H I : SProp} (h : SatL E w (A :: B :: C :: D :: F :: G :: H :: I :: L)) : SatL E w (I :: A :: B :: C :: D :: F :: G :: H :: L) := h.front 7
theorem SatL.f8 {A B C D F G H I J : SProp} (h : SatL E w (A :: B :: C :: D :: F :: G :: H :: I :: J :: L)) : SatL E w (J :: A :: B :: C :: D :: F :: G :: H :: I :: L) := h.front 8
theorem SatL.f9 {A B C D F G H I J K : SProp} (h : SatL E w (A :: B :: C :: D :: F :: G :: H :: I :: J :: K :: L)) : SatL E w (K :: A :: B :: C :: D :: F :: G :: H :: I :: J :: L) := h.front 9
theorem SatL.f10 {A B C D F G H I J K M : SProp} (h : SatL E w (A :: B :: C :: D :: F :: G :: H :: I :: J :: K :: M :: L)) : SatL E w (M :: A :: B :: C :: D :: F :: G :: H :: I :: J :: K :: L) := h.front 10
theorem SatL.b0 {A : SProp} (h : SatL E w (A :: L)) : SatL E w (A :: L) := h
theorem SatL.b1 {A B : SProp} (h : SatL E w (A :: B :: L)) : SatL E w (B :: A :: L) := h.perm (by simpa using (List.perm_middle (a := A) (l₁ := [B]) (l₂ := L)).symm)
theorem SatL.b2 {A B C : SProp} (h : SatL E w (A :: B :: C :: L)) : SatL E w (B :: C :: A :: L) := h.perm (by simpa using (List.perm_middle (a := A) (l₁ := [B, C]) (l₂ := L)).symm)
theorem SatL.b3 {A B C D : SProp} (h : SatL E w (A :: B :: C :: D :: L)) : SatL E w (B :: C :: D :: A :: L) := h.perm (by simpa using (List.perm_middle (a := A) (l₁ := [B, C, D]) (l₂ := L)).symm)
theorem SatL.b4 {A B C D F : SProp} (h : SatL E w (A :: B :: C :: D :: F :: L)) : SatL E w (B :: C :: D :: F :: A :: L) := h.perm (by simpa using (List.perm_middle (a := A) (l₁ := [B, C, D, F]) (l₂ := L)).symm)
theorem SatL.b5 {A B C D F G : SProp} (h : SatL E w (A :: B :: C :: D :: F :: G :: L)) : SatL E w (B :: C :: D :: F :: G :: A :: L) := h.perm (by simpa using (List.perm_middle (a := A) (l₁ := [B, C, D, F, G]) (l₂ := L)).symm)
theorem SatL.b6 {A B C D F G H : SProp} (h : SatL E w (A :: B :: C :: D :: F :: G :: H :: L)) : SatL E w (B :: C :: D :: F :: G :: H :: A :: L) := h.perm (by simpa using (List.perm_middle (a := A) (l₁ := [B, C, D, F, G, H]) (l₂ := L)).symm)
theorem SatL.b7 {A B C D F G H I : SProp} (h : SatL E w (A :: B :: C :: D :: F :: G :: H :: I :: L)) : SatL E w (B :: C :: D :: F :: G :: H :: I :: A :: L) := h.perm (by simpa using (List.perm_middle (a := A) (l₁ := [B, C, D, F, G, H, I]) (l₂ := L)).symm)
theorem SatL.b8 {A B C D F G H I J : SProp} (h : SatL E w (A :: B :: C :: D :: F :: G :: H :: I :: J :: L)) : SatL E w (B :: C :: D :: F :: G :: H :: I :: J :: A :: L) := h.perm (by simpa using (List.perm_middle (a := A) (l₁ := [B, C, D, F, G, H, I, J]) (l₂ := L)).symm)
theorem SatL.b9 {A B C D F G H I J K : SProp} (h : SatL E w (A :: B :: C :: D :: F :: G :: H :: I :: J :: K :: L)) : SatL E w (B :: C :: D :: F :: G :: H :: I :: J :: K :: A :: L) := h.perm (by simpa using (List.perm_middle (a := A) (l₁ := [B, C, D, F, G, H, I, J, K]) (l₂ := L)).symm)
theorem SatL.b10 {A B C D F G H I J K M : SProp} (h : SatL E w (A :: B :: C :: D :: F :: G :: H :: I :: J :: K :: M :: L)) : SatL E w (B :: C :: D :: F :: G :: H :: I :: J :: K :: M :: A :: L) := h.perm (by simpa using (List.perm_middle (a := A) (l₁ := [B, C, D, F, G, H, I, J, K, M]) (l₂ := L)).symm)
theorem SatL.u0 {z i : Nat} {cs cs' : Array Value} {t : TypeId} {v : Value} (h : SatL E w (Cells z cs t :: L)) (hc : cs.setIfInBounds i v = cs') : SatL E (w.setCell ⟨z, i, none⟩ v) (Cells z cs' t :: L) := by subst hc; exact (h.f0.setCell (i := i) (v := v)).b0
theorem SatL.r0 {z : Nat} {cs cs' ds : Array Value} {t : TypeId} (h : SatL E w (Cells z cs t :: L)) (hc : cs' = ds) : SatL E (w.setRow z cs') (Cells z ds t :: L) := by subst hc; exact (h.f0.setRow (cs' := cs')).b0
theorem SatL.u1 {A : SProp} {z i : Nat} {cs cs' : Array Value} {t : TypeId} {v : Value} (h : SatL E w (A :: Cells z cs t :: L)) (hc : cs.setIfInBounds i v = cs') : SatL E (w.setCell ⟨z, i, none⟩ v) (A :: Cells z cs' t :: L) := by subst hc; exact (h.f1.setCell (i := i) (v := v)).b1
theorem SatL.r1 {A : SProp} {z : Nat} {cs cs' ds : Array Value} {t : TypeId} (h : SatL E w (A :: Cells z cs t :: L)) (hc : cs' = ds) : SatL E (w.setRow z cs') (A :: Cells z ds t :: L) := by subst hc; exact (h.f1.setRow (cs' := cs')).b1
theorem SatL.u2 {A B : SProp} {z i : Nat} {cs cs' : Array Value} {t : TypeId} {v : Value} (h : SatL E w (A :: B :: Cells z cs t :: L)) (hc : cs.setIfInBounds i v = cs') : SatL E (w.setCell ⟨z, i, none⟩ v) (A :: B :: Cells z cs' t :: L) := by subst hc; exact (h.f2.setCell (i := i) (v := v)).b2
theorem SatL.r2 {A B : SProp} {z : Nat} {cs cs' ds : Array Value} {t : TypeId} (h : SatL E w (A :: B :: Cells z cs t :: L)) (hc : cs' = ds) : SatL E (w.setRow z cs') (A :: B :: Cells z ds t :: L) := by subst hc; exact (h.f2.setRow (cs' := cs')).b2
theorem SatL.u3 {A B C : SProp} {z i : Nat} {cs cs' : Array Value} {t : TypeId} {v : Value} (h : SatL E w (A :: B :: C :: Cells z cs t :: L)) (hc : cs.setIfInBounds i v = cs') : SatL E (w.setCell ⟨z, i, none⟩ v) (A :: B :: C :: Cells z cs' t :: L) := by subst hc; exact (h.f3.setCell (i := i) (v := v)).b3
theorem SatL.r3 {A B C : SProp} {z : Nat} {cs cs' ds : Array Value} {t : TypeId} (h : SatL E w (A :: B :: C :: Cells z cs t :: L)) (hc : cs' = ds) : SatL E (w.setRow z cs') (A :: B :: C :: Cells z ds t :: L) := by subst hc; exact (h.f3.setRow (cs' := cs')).b3
theorem SatL.u4 {A B C D : SProp} {z i : Nat} {cs cs' : Array Value} {t : TypeId} {v : Value} (h : SatL E w (A :: B :: C :: D :: Cells z cs t :: L)) (hc : cs.setIfInBounds i v = cs') : SatL E (w.setCell ⟨z, i, none⟩ v) (A :: B :: C :: D :: Cells z cs' t :: L) := by subst hc; exact (h.f4.setCell (i := i) (v := v)).b4
theorem SatL.r4 {A B C D : SProp} {z : Nat} {cs cs' ds : Array Value} {t : TypeId} (h : SatL E w (A :: B :: C :: D :: Cells z cs t :: L)) (hc : cs' = ds) : SatL E (w.setRow z cs') (A :: B :: C :: D :: Cells z ds t :: L) := by subst hc; exact (h.f4.setRow (cs' := cs')).b4
theorem SatL.u5 {A B C D F : SProp} {z i : Nat} {cs cs' : Array Value} {t : TypeId} {v : Value} (h : SatL E w (A :: B :: C :: D :: F :: Cells z cs t :: L)) (hc : cs.setIfInBounds i v = cs') : SatL E (w.setCell ⟨z, i, none⟩ v) (A :: B :: C :: D :: F :: Cells z cs' t :: L) := by subst hc; exact (h.f5.setCell (i := i) (v := v)).b5
theorem SatL.r5 {A B C D F : SProp} {z : Nat} {cs cs' ds : Array Value} {t : TypeId} (h : SatL E w (A :: B :: C :: D :: F :: Cells z cs t :: L)) (hc : cs' = ds) : SatL E (w.setRow z cs') (A :: B :: C :: D :: F :: Cells z ds t :: L) := by subst hc; exact (h.f5.setRow (cs' := cs')).b5
theorem SatL.u6 {A B C D F G : SProp} {z i : Nat} {cs cs' : Array Value} {t : TypeId} {v : Value} (h : SatL E w (A :: B :: C :: D :: F :: G :: Cells z cs t :: L)) (hc : cs.setIfInBounds i v = cs') : SatL E (w.setCell ⟨z, i, none⟩ v) (A :: B :: C :: D :: F :: G :: Cells z cs' t :: L) := by subst hc; exact (h.f6.setCell (i := i) (v := v)).b6
theorem SatL.r6 {A B C D F G : SProp} {z : Nat} {cs cs' ds : Array Value} {t : TypeId} (h : SatL E w (A :: B :: C :: D :: F :: G :: Cells z cs t :: L)) (hc : cs' = ds) : SatL E (w.setRow z cs') (A :: B :: C :: D :: F :: G :: Cells z ds t :: L) := by subst hc; exact (h.f6.setRow (cs' := cs')).b6
theorem SatL.u7 {A B C D F G H : SProp} {z i : Nat} {cs cs' : Array Value} {t : TypeId} {v : Value} (h : SatL E w (A :: B :: C :: D :: F :: G :: H :: Cells z cs t :: L)) (hc : cs.setIfInBounds i v = cs') : SatL E (w.setCell ⟨z, i, none⟩ v) (A :: B :: C :: D :: F :: G :: H :: Cells z cs' t :: L) := by subst hc; exact (h.f7.setCell (i := i) (v := v)).b7
theorem SatL.r7 {A B C D F G H : SProp} {z : Nat} {cs cs' ds : Array Value} {t : TypeId} (h : SatL E w (A :: B :: C :: D :: F :: G :: H :: Cells z cs t :: L)) (hc : cs' = ds) : SatL E (w.setRow z cs') (A :: B :: C :: D :: F :: G :: H :: Cells z ds t :: L) := by subst hc; exact (h.f7.setRow (cs' := cs')).b7
end

/-! blocks that are made -/
section
variable {ro : Option Nat} {P : Program} {ops : Array Oper} {R : Exit → (Nat → Value) → World → Prop} {n : Nat} {ds : List Deferred} {f : Nat → Value} {w : World} {E : Env} {L : List SProp}

theorem x_allocA {d : Nat} {T ty : TypeId} {pos : String} {af : Array Edge} {rest : List Oper} {zs : Array Value} (h : SatL E w L) (hz : ∀ w, (zeroValue T).run P w = .ok (.agg zs) w) (hn : Nat.blt d n = true)
    (hk : ∀ b w', SatL E w' (Cells b zs T :: L) → xw ro P ops R n ds rest (upd f d (.pointer (some ⟨b, 0, none⟩))) w') : xw ro P ops R n ds (⟨some d, .alloc T, ty, pos, af, none⟩ :: rest) f w :=
  x_val (r_alloc hz) (nd_of rfl) hn (hk _ _ (h.alloc _))
theorem x_alloc1 {d : Nat} {T ty : TypeId} {pos : String} {af : Array Edge} {rest : List Oper} {z : Value} (h : SatL E w L) (hz : ∀ w, (zeroValue T).run P w = .ok z w) (h1 : z.oneCell' = true) (hn : Nat.blt d n = true)
    (hk : ∀ b w', SatL E w' (Cells b #[z] T :: L) → xw ro P ops R n ds rest (upd f d (.pointer (some ⟨b, 0, none⟩))) w') : xw ro P ops R n ds (⟨some d, .alloc T, ty, pos, af, none⟩ :: rest) f w := by
  have hcs : z.cells = #[z] := by cases z <;> first | rfl | cases h1
  have h2 := h.alloc (.cells z.cells T)
  rw [hcs] at h2
  refine x_val (r_alloc hz) (nd_of rfl) hn (hk _ _ ?_)
  rw [hcs]; exact h2
theorem x_boxA {d : Nat} {T ty : TypeId} {pos : String} {af : Array Edge} {rest : List Oper} {x : Operand} {vs : Array Value} (h : SatL E w L) (hx : ev f x = .agg vs) (hn : Nat.blt d n = true)
    (hk : ∀ b w', SatL E w' (Cells b vs T :: L) → xw ro P ops R n ds rest (upd f d (.pointer (some ⟨b, 0, none⟩))) w') : xw ro P ops R n ds (⟨some d, .box T x, ty, pos, af, none⟩ :: rest) f w :=
  x_val (r_box hx) (nd_of rfl) hn (hk _ _ (h.alloc _))
theorem x_box1 {d : Nat} {T ty : TypeId} {pos : String} {af : Array Edge} {rest : List Oper} {x : Operand} {v : Value} (h : SatL E w L) (hx : ev f x = v) (h1 : v.oneCell' = true) (hn : Nat.blt d n = true)
    (hk : ∀ b w', SatL E w' (Cells b #[v] T :: L) → xw ro P ops R n ds rest (upd f d (.pointer (some ⟨b, 0, none⟩))) w') : xw ro P ops R n ds (⟨some d, .box T x, ty, pos, af, none⟩ :: rest) f w := by
  have hcs : v.cells = #[v] := by cases v <;> first | rfl | cases h1
  have h2 := h.alloc (.cells v.cells T)
  rw [hcs] at h2
  refine x_val (r_box hx) (nd_of rfl) hn (hk _ _ ?_)
  rw [hcs]; exact h2
/-- an operation that writes -/
theorem x_st {op : Op} {ty : TypeId} {pos : String} {af : Array Edge} {rest : List Oper} {w' : World}
    (hr : (execOp (ev f) ⟨none, op, ty, pos, af, none⟩).run P w = .ok .skip w') (hnd : nd op = true) (h : SatL E w' L)
    (hk : ∀ w', SatL E w' L → xw ro P ops R n ds rest f w') : xw ro P ops R n ds (⟨none, op, ty, pos, af, none⟩ :: rest) f w :=
  x_skip hr (nd_of hnd) (hk _ h)
/-- a variable and its first value -/
theorem x_declA {d k : Nat} {T ty ty2 : TypeId} {pos pos2 : String} {af af2 : Array Edge} {rest : List Oper} {x : Operand} {zs vs : Array Value} (h : SatL E w L) (hz : ∀ w, (zeroValue T).run P w = .ok (.agg zs) w) (hs : ∀ w, (sizeOf T).run P w = .ok k w) (hzs : zs.size = k)
    (hx : ev (upd f d (.pointer (some ⟨w.heap.size, 0, none⟩))) x = .agg vs) (hv : Ok k vs) (hn : Nat.blt d n = true)
    (hk : ∀ b w', SatL E w' (Cells b vs T :: L) → xw ro P ops R n ds rest (upd f d (.pointer (some ⟨b, 0, none⟩))) w') : xw ro P ops R n ds (⟨some d, .alloc T, ty, pos, af, none⟩ :: ⟨none, .store T (.tmp d) x, ty2, pos2, af2, none⟩ :: rest) f w := by
  refine x_val (r_alloc hz) (nd_of rfl) hn ?_
  have h1 := h.alloc (.cells (Value.agg zs).cells T)
  refine x_skip (r_storeAgg h1 0 rfl hs es hx hv.size hv.one (by show 0 + k ≤ zs.size; omega)) (nd_of rfl) ?_
  exact hk _ _ (h1.r0 (over_full hzs))
end

/-! regions that draw their order -/
def waitsOn (md : Region.Mode) (ops : Array Oper) (z i : Nat) : Bool :=
  z == ops.size || match ops[z]? with
    | some o => o.after.any fun e => Region.binds md e && e.on == i
    | none => false

section
variable {P : Program} {ops : Array Oper} {Q : Exit → Act → World → Prop} {md : Region.Mode} {S : World → Prop} {z : Nat}

/-- whatever order is picked; S is kept by all but number z -/
def anyP (P : Program) (md : Region.Mode) (ops : Array Oper) (Q : Exit → Act → World → Prop) (S : World → Prop) (z : Nat) : Nat → Array Bool → Act → World → Prop
  | 0, listed, a, w => Region.ready md ops listed = [] ∧ Q .normal a w
  | k + 1, listed, a, w => (Region.ready md ops listed = [] → Q .normal a w) ∧
    ∀ i ∈ Region.ready md ops listed, wpOp P ops Q i (fun a' w' => (listed.getD z false = false → i ≠ z → S w') ∧ anyP P md ops Q S z k (listed.setIfInBounds i true) a' w') a w

theorem anyP_wpAny : ∀ (k : Nat) (listed : Array Bool) (a : Act) (w : World), anyP P md ops Q S z k listed a w → wpAny P md ops Q k listed a w
  | 0, _, _, _, h => h
  | k + 1, _, _, _, h => ⟨h.1, fun i hi => wpOp_mono (fun _ _ h' => anyP_wpAny k _ _ _ h'.2) (h.2 i hi)⟩

theorem not_z {listed : Array Bool} {i j : Nat} (hw : waitsOn md ops z i = true) (hi : i ∈ Region.ready md ops listed) (hj : j ∈ Region.ready md ops listed) : j ≠ z := by
  rintro rfl
  obtain ⟨_, oj, hoj, hall⟩ := mem_ready.1 hj
  have hlt := (Array.getElem?_eq_some_iff.1 hoj).1
  unfold waitsOn at hw
  simp only [hoj, Bool.or_eq_true, beq_iff_eq] at hw
  rcases hw with h | h
  · omega
  · obtain ⟨e, he, hb⟩ := Array.any_eq_true'.1 h
    simp only [Bool.and_eq_true, beq_iff_eq] at hb
    have h1 := hall e he hb.1
    have h2 := (mem_ready.1 hi).1
    rw [hb.2] at h1
    rw [Array.getD_eq_getD_getElem?] at h1 h2
    cases h3 : listed[i]? with
    | none => rw [h3] at h1; cases h1
    | some b => rw [h3] at h1 h2; simp at h1 h2; rw [h1] at h2; cases h2

/-- a read that may come up now is as good as done; ld: it asks S of the world -/
theorem anyP_read (ld : Bool) {i : Nat} {oi : Oper} {v : Value} (hi : ops[i]? = some oi) (hns : ∀ (j : Nat) (o : Oper) cs b, ops[j]? = some o → o.op ≠ .select cs b)
    (hw : ld = true → waitsOn md ops z i = true) (hiz : i ≠ z)
    (hQ : ∀ c a w, Q (.panic c) (a.put oi.dst v) w → Q (.panic c) a w) : ∀ (k : Nat) (listed : Array Bool) (a : Act) (w : World),
      (∀ j oj, ops[j]? = some oj → j ≠ i → listed.getD j true = false → (∀ e ∈ oj.after, Region.binds md e = true → e.on ≠ i) → oi.apart ops oj = true) →
      i ∈ Region.ready md ops listed → YieldsIf P ops (fun W => ld = true → S W) oi v a → (ld = true → listed.getD z false = false) → (listed.getD z false = false → S w) →
      anyP P md ops Q S z k (listed.setIfInBounds i true) (a.put oi.dst v) w → anyP P md ops Q S z (k + 1) listed a w
  | 0, listed, a, w, _, hr, hy, hz, hS, H => by
    refine ⟨fun h0 => absurd hr (by rw [h0]; simp), fun j hj => ?_⟩
    rcases Decidable.em (j = i) with rfl | hne
    · exact hy.wpOp hi (fun hl => hS (hz hl)) ⟨fun h _ => hS h, H⟩
    · have h1 := ready_mono hj hne
      rw [H.1] at h1; cases h1
  | k + 1, listed, a, w, hfree, hr, hy, hz, hS, H => by
    refine ⟨fun h0 => absurd hr (by rw [h0]; simp), fun j hj => ?_⟩
    rcases Decidable.em (j = i) with rfl | hne
    · exact hy.wpOp hi (fun hl => hS (hz hl)) ⟨fun h _ => hS h, H⟩
    · have hop := H.2 j (ready_mono hj hne)
      obtain ⟨hun, oj, hoj, hafter⟩ := mem_ready.1 hj
      have hui := (mem_ready.1 hr).1
      have hwait : ∀ e ∈ oj.after, Region.binds md e = true → e.on ≠ i := by
        intro e he hb heq
        have hl := hafter e he hb
        rw [heq] at hl
        rw [Array.getD_eq_getD_getElem?] at hl hui
        cases h3 : listed[i]? with
        | none => rw [h3] at hl; cases hl
        | some b => rw [h3] at hl hui; simp at hl hui; rw [hl] at hui; cases hui
      have hjlt : j < listed.size := by
        rcases Nat.lt_or_ge j listed.size with h | h
        · exact h
        · rw [Array.getD_eq_getD_getElem?, Array.getElem?_eq_none (by omega)] at hun; cases hun
      have hswap := wpOp_putIf hoj (hfree j oj hoj hne hun hwait) (fun cs b => hns i oi cs b hi) (fun cs b => hns j oj cs b hoj) hQ hy hop
      refine wpOp_mono (fun a' w' h3 => ?_) hswap
      have hSw : listed.getD z false = false → j ≠ z → S w' := fun h hjz => h3.2.1 (by rw [getD_set_ne false hiz]; exact h) hjz
      have hun2 : (listed.setIfInBounds j true).getD z false = false → j ≠ z ∧ listed.getD z false = false := by
        intro h
        have hjz : j ≠ z := by
          rintro rfl
          rw [Array.getD_eq_getD_getElem?, Array.getElem?_setIfInBounds] at h
          simp [hjlt] at h
        rw [getD_set_ne false hjz] at h
        exact ⟨hjz, h⟩
      refine ⟨hSw, anyP_read ld hi hns hw hiz hQ k _ a' w' (fun m om hm hmi hun' hno => hfree m om hm hmi ?_ hno) (ready_mono hr (Ne.symm hne)) h3.1 ?_ ?_ ?_⟩
      · rcases Decidable.em (j = m) with rfl | hjm
        · exact hun
        · rw [getD_set_ne true hjm] at hun'; exact hun'
      · intro hl
        rw [getD_set_ne false (not_z (hw hl) hr hj)]
        exact hz hl
      · intro h
        obtain ⟨h1, h2⟩ := hun2 h
        exact hSw h2 h1
      · rw [Array.setIfInBounds_comm _ _ hne]; exact h3.2.2
end

/-- a plan: 0: an effect, which must be alone; 1: a read of memory; 2: a read that asks nothing of memory. z: an operation that may break S -/
def planB (md : Region.Mode) (ops : Array Oper) (z : Nat) : List (Nat × Nat) → Array Bool → Bool
  | [], listed => (Region.ready md ops listed).isEmpty
  | (i, 0) :: rest, listed => (Region.ready md ops listed == [i]) && planB md ops z rest (listed.setIfInBounds i true)
  | (i, 1) :: rest, listed => Region.noSelect ops && (Region.ready md ops listed).contains i && Region.free md ops listed i && waitsOn md ops z i && !listed.getD z false && i != z && planB md ops z rest (listed.setIfInBounds i true)
  | (i, _) :: rest, listed => Region.noSelect ops && (Region.ready md ops listed).contains i && Region.free md ops listed i && i != z && planB md ops z rest (listed.setIfInBounds i true)

/-- along a plan -/
def xp (P : Program) (ops : Array Oper) (S : World → Prop) (z : Nat) (R : Exit → (Nat → Value) → World → Prop) (n : Nat) (ds : List Deferred) (plan : List (Nat × Nat)) (f : Nat → Value) (w : World) : Prop :=
  ∀ listed, planB .any ops z plan listed = true → ∀ a, Is a n f ds → (listed.getD z false = false → S w) → anyP P .any ops (qf n ds R) S z plan.length listed a w

section
variable {P : Program} {ops : Array Oper} {S : World → Prop} {z : Nat} {R : Exit → (Nat → Value) → World → Prop} {n : Nat} {ds : List Deferred} {f : Nat → Value} {w : World} {plan : List (Nat × Nat)}

theorem xp_nil (h : R .normal f w) : xp P ops S z R n ds [] f w := fun listed hp a ha _ =>
  ⟨by simpa [planB] using hp, f, ha, h⟩

theorem mem_of_contains {l : List Nat} {i : Nat} (h : l.contains i = true) : i ∈ l := by simpa using h

theorem xp_load {i : Nat} {d : Nat} {op : Op} {ty : TypeId} {pos : String} {af : Array Edge} {v : Value} (hi : ops[i]? = some ⟨some d, op, ty, pos, af, none⟩)
    (hr : ∀ W, S W → (execOp (ev f) ⟨some d, op, ty, pos, af, none⟩).run P W = .ok (.value v) W) (hn : Nat.blt d n = true)
    (hQ : ∀ c f w, ¬ R (.panic c) f w) (h : xp P ops S z R n ds plan (upd f d v) w) : xp P ops S z R n ds ((i, 1) :: plan) f w := by
  intro listed hp a ha hS
  simp only [planB, Bool.and_eq_true, Bool.not_eq_true', bne_iff_ne] at hp
  obtain ⟨⟨⟨⟨⟨⟨p1, p2⟩, p3⟩, p4⟩, p5⟩, p6⟩, p7⟩ := hp
  refine anyP_read true hi (Region.noSelect_spec p1) (fun _ => p4) p6 (fun c a w h1 => ?_) _ listed a w (Region.free_spec hi p3) (mem_of_contains p2) (.inl ⟨rfl, fun W hW => ?_⟩) (fun _ => p5) hS (h _ p7 _ (ha.put hn v) fun h0 => hS p5)
  · obtain ⟨f', _, h2⟩ := h1; exact (hQ _ _ _ h2).elim
  · rw [ha.eval]; exact hr W (hW rfl)

theorem keep_z {listed : Array Bool} {i : Nat} (hiz : i ≠ z) {w : World} (hS : listed.getD z false = false → S w) : (listed.setIfInBounds i true).getD z false = false → S w := fun h => hS (by rw [getD_set_ne false hiz] at h; exact h)

theorem xp_read {i : Nat} {d : Nat} {op : Op} {ty : TypeId} {pos : String} {af : Array Edge} {v : Value} (hi : ops[i]? = some ⟨some d, op, ty, pos, af, none⟩)
    (hr : ∀ W, (execOp (ev f) ⟨some d, op, ty, pos, af, none⟩).run P W = .ok (.value v) W) (hn : Nat.blt d n = true)
    (hQ : ∀ c f w, ¬ R (.panic c) f w) (h : xp P ops S z R n ds plan (upd f d v) w) : xp P ops S z R n ds ((i, 2) :: plan) f w := by
  intro listed hp a ha hS
  simp only [planB, Bool.and_eq_true, bne_iff_ne] at hp
  obtain ⟨⟨⟨⟨p1, p2⟩, p3⟩, p6⟩, p7⟩ := hp
  refine anyP_read false hi (Region.noSelect_spec p1) (fun h => by cases h) p6 (fun c a w h1 => ?_) _ listed a w (Region.free_spec hi p3) (mem_of_contains p2) (.inl ⟨rfl, fun W _ => ?_⟩) (fun h => by cases h) hS (h _ p7 _ (ha.put hn v) (keep_z p6 hS))
  · obtain ⟨f', _, h2⟩ := h1; exact (hQ _ _ _ h2).elim
  · rw [ha.eval]; exact hr W

theorem xp_loadG {i : Nat} {op : Op} {ty : TypeId} {pos : String} {af : Array Edge} {v : Value} {j d e : Nat} {b : Bool} (hi : ops[i]? = some ⟨some e, op, ty, pos, af, some (j, b)⟩)
    (hj : (ops[j]?).bind (·.dst) = some d) (hd : Nat.blt d n = true) (hv : ev f (.tmp d) = .bool b)
    (hr : ∀ W, S W → (execOp (ev f) ⟨some e, op, ty, pos, af, some (j, b)⟩).run P W = .ok (.value v) W) (hn : Nat.blt e n = true)
    (hQ : ∀ c f w, ¬ R (.panic c) f w) (h : xp P ops S z R n ds plan (upd f e v) w) : xp P ops S z R n ds ((i, 1) :: plan) f w := by
  intro listed hp a ha hS
  simp only [planB, Bool.and_eq_true, Bool.not_eq_true', bne_iff_ne] at hp
  obtain ⟨⟨⟨⟨⟨⟨p1, p2⟩, p3⟩, p4⟩, p5⟩, p6⟩, p7⟩ := hp
  refine anyP_read true hi (Region.noSelect_spec p1) (fun _ => p4) p6 (fun c a w h1 => ?_) _ listed a w (Region.free_spec hi p3) (mem_of_contains p2) (.inl ⟨by simp [Region.wanted, ha.yielded hj hd hv], fun W hW => ?_⟩) (fun _ => p5) hS (h _ p7 _ (ha.put hn v) fun h0 => hS p5)
  · obtain ⟨f', _, h2⟩ := h1; exact (hQ _ _ _ h2).elim
  · rw [ha.eval]; exact hr W (hW rfl)

theorem xp_readG {i : Nat} {op : Op} {ty : TypeId} {pos : String} {af : Array Edge} {v : Value} {j d e : Nat} {b : Bool} (hi : ops[i]? = some ⟨some e, op, ty, pos, af, some (j, b)⟩)
    (hj : (ops[j]?).bind (·.dst) = some d) (hd : Nat.blt d n = true) (hv : ev f (.tmp d) = .bool b)
    (hr : ∀ W, (execOp (ev f) ⟨some e, op, ty, pos, af, some (j, b)⟩).run P W = .ok (.value v) W) (hn : Nat.blt e n = true)
    (hQ : ∀ c f w, ¬ R (.panic c) f w) (h : xp P ops S z R n ds plan (upd f e v) w) : xp P ops S z R n ds ((i, 2) :: plan) f w := by
  intro listed hp a ha hS
  simp only [planB, Bool.and_eq_true, bne_iff_ne] at hp
  obtain ⟨⟨⟨⟨p1, p2⟩, p3⟩, p6⟩, p7⟩ := hp
  refine anyP_read false hi (Region.noSelect_spec p1) (fun h => by cases h) p6 (fun c a w h1 => ?_) _ listed a w (Region.free_spec hi p3) (mem_of_contains p2) (.inl ⟨by simp [Region.wanted, ha.yielded hj hd hv], fun W _ => ?_⟩) (fun h => by cases h) hS (h _ p7 _ (ha.put hn v) (keep_z p6 hS))
  · obtain ⟨f', _, h2⟩ := h1; exact (hQ _ _ _ h2).elim
  · rw [ha.eval]; exact hr W

theorem xp_passG {i : Nat} {op : Op} {ty : TypeId} {pos : String} {af : Array Edge} {j d e m : Nat} {b : Bool} (hi : ops[i]? = some ⟨some e, op, ty, pos, af, some (j, b)⟩)
    (hj : (ops[j]?).bind (·.dst) = some d) (hd : Nat.blt d n = true) (hv : ev f (.tmp d) = .bool (!b) ∨ ev f (.tmp d) = undef) (hn : Nat.blt e n = true)
    (hQ : ∀ c f w, ¬ R (.panic c) f w) (h : xp P ops S z R n ds plan (upd f e undef) w) : xp P ops S z R n ds ((i, m + 2) :: plan) f w := by
  intro listed hp a ha hS
  simp only [planB, Bool.and_eq_true, bne_iff_ne] at hp
  obtain ⟨⟨⟨⟨p1, p2⟩, p3⟩, p6⟩, p7⟩ := hp
  refine anyP_read false hi (Region.noSelect_spec p1) (fun h => by cases h) p6 (fun c a w h1 => ?_) _ listed a w (Region.free_spec hi p3) (mem_of_contains p2) (.inr ⟨?_, rfl⟩) (fun h => by cases h) hS (h _ p7 _ (ha.put hn undef) (keep_z p6 hS))
  · obtain ⟨f', _, h2⟩ := h1; exact (hQ _ _ _ h2).elim
  · rcases hv with hv | hv
    · cases b <;> simp [Region.wanted, ha.yielded hj hd hv]
    · simp [Region.wanted, ha.yielded_none hj hd hv]

theorem ready_one {rs : List Nat} {i : Nat} (h : (rs == [i]) = true) : rs = [i] := by simpa using h

theorem set_z {listed : Array Bool} {i : Nat} {w' : World} (hr : i ∈ Region.ready .any ops listed) (hS : i ≠ z → S w') : (listed.setIfInBounds i true).getD z false = false → S w' := fun h => by
  refine hS ?_
  rintro rfl
  have hun := (mem_ready.1 hr).1
  have hlt : i < listed.size := by
    rcases Nat.lt_or_ge i listed.size with h | h
    · exact h
    · rw [Array.getD_eq_getD_getElem?, Array.getElem?_eq_none (by omega)] at hun; cases hun
  rw [Array.getD_eq_getD_getElem?, Array.getElem?_setIfInBounds] at h
  simp [hlt] at h

theorem xp_one {i : Nat} (hstep : ∀ listed a, planB .any ops z plan (listed.setIfInBounds i true) = true → Is a n f ds → i ∈ Region.ready .any ops listed →
      wpOp P ops (qf n ds R) i (fun a' w' => (listed.getD z false = false → i ≠ z → S w') ∧ anyP P .any ops (qf n ds R) S z plan.length (listed.setIfInBounds i true) a' w') a w) : xp P ops S z R n ds ((i, 0) :: plan) f w := by
  intro listed hp a ha _
  simp only [planB, Bool.and_eq_true] at hp
  have hr := ready_one hp.1
  refine ⟨fun h0 => absurd (hr.symm.trans h0) (by simp), fun j hj => ?_⟩
  rw [hr] at hj
  obtain rfl : j = i := by simpa using hj
  exact hstep listed a hp.2 ha (by rw [hr]; simp)

/-- a value that changes the world -/
theorem xp_val {i d : Nat} {op : Op} {ty : TypeId} {pos : String} {af : Array Edge} {v : Value} {w' : World} (hi : ops[i]? = some ⟨some d, op, ty, pos, af, none⟩)
    (hr : (execOp (ev f) ⟨some d, op, ty, pos, af, none⟩).run P w = .ok (.value v) w') (hn : Nat.blt d n = true) (hS : i ≠ z → S w') (h : xp P ops S z R n ds plan (upd f d v) w') : xp P ops S z R n ds ((i, 0) :: plan) f w := by
  refine xp_one fun listed a hp ha hrd => ?_
  unfold wpOp
  simp only [hi, Region.wanted, if_true]
  refine .inl ?_
  unfold Oper.wp
  rw [ha.eval, hr, Oper.upon_value]
  exact ⟨fun _ => hS, h _ hp _ (ha.put hn v) (set_z hrd hS)⟩

theorem xp_skip {i : Nat} {op : Op} {ty : TypeId} {pos : String} {af : Array Edge} {w' : World} (hi : ops[i]? = some ⟨none, op, ty, pos, af, none⟩)
    (hr : (execOp (ev f) ⟨none, op, ty, pos, af, none⟩).run P w = .ok .skip w') (hS : i ≠ z → S w') (h : xp P ops S z R n ds plan f w') : xp P ops S z R n ds ((i, 0) :: plan) f w := by
  refine xp_one fun listed a hp ha hrd => ?_
  unfold wpOp
  simp only [hi, Region.wanted, if_true]
  refine .inl ?_
  unfold Oper.wp
  rw [ha.eval, hr, Oper.upon_skip]
  exact ⟨fun _ => hS, h _ hp _ (ha.putNone undef) (set_z hrd hS)⟩

theorem xp_st {E : Env} {L : List SProp} {i : Nat} {op : Op} {ty : TypeId} {pos : String} {af : Array Edge} {w' : World} (hi : ops[i]? = some ⟨none, op, ty, pos, af, none⟩)
    (hr : (execOp (ev f) ⟨none, op, ty, pos, af, none⟩).run P w = .ok .skip w') (hL : SatL E w' L) (hS : i ≠ z → ∀ w, SatL E w L → S w) (h : ∀ w, SatL E w L → xp P ops S z R n ds plan f w) : xp P ops S z R n ds ((i, 0) :: plan) f w :=
  xp_skip hi hr (fun hz => hS hz _ hL) (h _ hL)

theorem xp_enter {i d : Nat} {op : Op} {ty : TypeId} {pos : String} {af : Array Edge} {g : FuncId} {args : Array Value} {T : Value → World → Prop} (hi : ops[i]? = some ⟨some d, op, ty, pos, af, none⟩)
    (hr : (execOp (ev f) ⟨some d, op, ty, pos, af, none⟩).run P w = .ok (.enter g args) w) (hn : Nat.blt d n = true)
    (hc : Calls P g args w (Ret T)) (h : ∀ v w', T v w' → (i ≠ z → S w') ∧ xp P ops S z R n ds plan (upd f d v) w') : xp P ops S z R n ds ((i, 0) :: plan) f w := by
  refine xp_one fun listed a hp ha hrd => ?_
  unfold wpOp
  simp only [hi, Region.wanted, if_true]
  refine .inl ?_
  unfold Oper.wp
  rw [ha.eval, hr, Oper.upon_enter]
  refine hc.mono fun e w' he => ?_
  cases e with
  | returned v => have h1 := h v w' he; exact ⟨fun _ => h1.1, h1.2 _ hp _ (ha.put hn v) (set_z hrd h1.1)⟩
  | panicked c => exact he.elim
  | outgrown => exact he.elim

theorem xp_enterG {i d e j : Nat} {op : Op} {ty : TypeId} {pos : String} {af : Array Edge} {b : Bool} {g : FuncId} {args : Array Value} {T : Value → World → Prop} (hi : ops[i]? = some ⟨some d, op, ty, pos, af, some (j, b)⟩)
    (hj : (ops[j]?).bind (·.dst) = some e) (hd : Nat.blt e n = true) (hv : ev f (.tmp e) = .bool b)
    (hr : (execOp (ev f) ⟨some d, op, ty, pos, af, some (j, b)⟩).run P w = .ok (.enter g args) w) (hn : Nat.blt d n = true)
    (hc : Calls P g args w (Ret T)) (h : ∀ v w', T v w' → (i ≠ z → S w') ∧ xp P ops S z R n ds plan (upd f d v) w') : xp P ops S z R n ds ((i, 0) :: plan) f w := by
  refine xp_one fun listed a hp ha hrd => ?_
  unfold wpOp
  have e' : Region.wanted ⟨some d, op, ty, pos, af, some (j, b)⟩ (yielded ops a.tmps) = true := by simp [Region.wanted, ha.yielded hj hd hv]
  simp only [hi, e', if_true]
  refine .inl ?_
  unfold Oper.wp
  rw [ha.eval, hr, Oper.upon_enter]
  refine hc.mono fun e w' he => ?_
  cases e with
  | returned v => have h1 := h v w' he; exact ⟨fun _ => h1.1, h1.2 _ hp _ (ha.put hn v) (set_z hrd h1.1)⟩
  | panicked c => exact he.elim
  | outgrown => exact he.elim

theorem xc_plan {E : Env} {L : List SProp} {i : Nat} {l : List Oper} (z : Nat) (plan : List (Nat × Nat)) (hm : P.follows .mixedOrders = true) (hl : plan.length = l.toArray.size) (hp : planB .any l.toArray z plan (Array.replicate l.toArray.size false) = true)
    (hS : SatL E w L) (h : xp P l.toArray (fun W => SatL E W L) z R n ds plan f w.drew) : xc none P R n ds (.region i l.toArray true) f w := by
  intro a ha
  refine (wpIn_wide (n := 0)).2 (wp_region_any hm ?_)
  have h1 := h _ hp a ha (fun _ => hS.drew)
  rw [hl] at h1
  exact anyP_wpAny _ _ _ _ h1
end
end Go.Proofs.Ytfmhcefjbghhlaa
