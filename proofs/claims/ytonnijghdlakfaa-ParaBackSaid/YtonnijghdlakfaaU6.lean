/-
Patches: what Apply makes of a set, and its laws.
-/
import Derived.Test.YtonnijghdlakfaaU5
import Derived.DeepKeys
namespace Go.Proofs.Ytonnijghdlakfaa
open Go Go.RowKit
/-- a value: kind, number, float's bits, text -/
abbrev Val := Int × Int × Int × ByteArray
/-- a change: key, gone, value -/
abbrev Chg := Int × Bool × Val
def valC (v : Val) : List Value := [.int .u8 v.1, .int .i64 v.2.1, .int .u64 v.2.2.1, .string v.2.2.2]
def cgC (c : Chg) : List Value := [.int .i64 c.1, .bool c.2.1, .int .u8 c.2.2.1, .int .i64 c.2.2.2.1, .int .u64 c.2.2.2.2.1, .string c.2.2.2.2.2]
def chA (c : Chg) : Atr := (c.1, c.2.2)
def putC (c : Chg) : List Atr := if c.2.1 then [] else [chA c]
def applyL : List Atr → List Chg → List Atr
  | s, [] => s
  | [], c :: X => putC c ++ applyL [] X
  | a :: s, c :: X => if a.1 < c.1 then a :: applyL s (c :: X) else if a.1 = c.1 then putC c ++ applyL s X else putC c ++ applyL (a :: s) X
termination_by s X => s.length + X.length
def Rise (l : List Atr) : Prop := l.Pairwise (fun a b => a.1 < b.1)
def RiseC (l : List Chg) : Prop := l.Pairwise (fun a b => a.1 < b.1)
theorem apply_end (s : List Atr) : applyL s [] = s := by cases s <;> simp [applyL]
theorem apply_nil (c : Chg) (X : List Chg) : applyL [] (c :: X) = putC c ++ applyL [] X := by rw [applyL]
theorem apply_lt {a : Atr} {c : Chg} (h : a.1 < c.1) (s : List Atr) (X : List Chg) : applyL (a :: s) (c :: X) = a :: applyL s (c :: X) := by rw [applyL, if_pos h]
theorem apply_eq {a : Atr} {c : Chg} (h : a.1 = c.1) (s : List Atr) (X : List Chg) : applyL (a :: s) (c :: X) = putC c ++ applyL s X := by rw [applyL, if_neg (by omega), if_pos h]
theorem apply_gt {a : Atr} {c : Chg} (h : c.1 < a.1) (s : List Atr) (X : List Chg) : applyL (a :: s) (c :: X) = putC c ++ applyL (a :: s) X := by rw [applyL, if_neg (by omega), if_neg (by omega)]
theorem apply_ind {M : List Atr → List Chg → Prop} (h0 : ∀ s, M s []) (h1 : ∀ c X, M [] X → M [] (c :: X)) (h2 : ∀ a s c X, a.1 < c.1 → M s (c :: X) → M (a :: s) (c :: X))
    (h3 : ∀ a s c X, a.1 = c.1 → M s X → M (a :: s) (c :: X)) (h4 : ∀ a s c X, c.1 < a.1 → M (a :: s) X → M (a :: s) (c :: X)) : ∀ s X, M s X := by
  have key : ∀ n s X, s.length + X.length ≤ n → M s X := by
    intro n
    induction n with
    | zero =>
      intro s X h
      obtain rfl : X = [] := List.length_eq_zero_iff.1 (by omega)
      exact h0 s
    | succ n ih =>
      intro s X h
      cases X with
      | nil => exact h0 s
      | cons c X =>
        simp only [List.length_cons] at h
        cases s with
        | nil => exact h1 c X (ih _ _ (by simp at h ⊢; omega))
        | cons a s =>
          simp only [List.length_cons] at h
          rcases Int.lt_trichotomy a.1 c.1 with hlt | heq | hgt
          · exact h2 a s c X hlt (ih _ _ (by simp only [List.length_cons]; omega))
          · exact h3 a s c X heq (ih _ _ (by omega))
          · exact h4 a s c X hgt (ih _ _ (by simp only [List.length_cons]; omega))
  exact fun s X => key _ s X (Nat.le_refl _)
theorem mem_put {a : Atr} {c : Chg} (h : a ∈ putC c) : c.2.1 = false ∧ a = chA c := by
  unfold putC at h
  split at h
  · cases h
  · rename_i hg
    exact ⟨by simpa using hg, by simpa using h⟩
theorem mem_apply : ∀ (s : List Atr) (X : List Chg), ∀ a ∈ applyL s X, a ∈ s ∨ ∃ c ∈ X, c.2.1 = false ∧ a = chA c := by
  refine apply_ind ?_ ?_ ?_ ?_ ?_
  · intro s a h
    rw [apply_end] at h
    exact .inl h
  · intro c X ih a h
    rw [apply_nil] at h
    rcases List.mem_append.1 h with h | h
    · exact .inr ⟨c, List.mem_cons_self, mem_put h⟩
    · rcases ih a h with h | ⟨d, hd, h⟩
      · cases h
      · exact .inr ⟨d, List.mem_cons_of_mem _ hd, h⟩
  · intro b s c X hlt ih a h
    rw [apply_lt hlt] at h
    rcases List.mem_cons.1 h with rfl | h
    · exact .inl List.mem_cons_self
    · rcases ih a h with h | h
      · exact .inl (List.mem_cons_of_mem _ h)
      · exact .inr h
  · intro b s c X he ih a h
    rw [apply_eq he] at h
    rcases List.mem_append.1 h with h | h
    · exact .inr ⟨c, List.mem_cons_self, mem_put h⟩
    · rcases ih a h with h | ⟨d, hd, h⟩
      · exact .inl (List.mem_cons_of_mem _ h)
      · exact .inr ⟨d, List.mem_cons_of_mem _ hd, h⟩
  · intro b s c X hgt ih a h
    rw [apply_gt hgt] at h
    rcases List.mem_append.1 h with h | h
    · exact .inr ⟨c, List.mem_cons_self, mem_put h⟩
    · rcases ih a h with h | ⟨d, hd, h⟩
      · exact .inl h
      · exact .inr ⟨d, List.mem_cons_of_mem _ hd, h⟩
theorem put_len (c : Chg) : (putC c).length ≤ 1 := by unfold putC; split <;> simp
theorem apply_len : ∀ (s : List Atr) (X : List Chg), (applyL s X).length ≤ s.length + X.length := by
  refine apply_ind ?_ ?_ ?_ ?_ ?_
  · intro s; rw [apply_end]; simp
  · intro c X ih
    have := put_len c
    rw [apply_nil]; simp only [List.length_append, List.length_cons, List.length_nil] at *; omega
  · intro a s c X h ih
    rw [apply_lt h]; simp only [List.length_cons] at *; omega
  · intro a s c X h ih
    have := put_len c
    rw [apply_eq h]; simp only [List.length_append, List.length_cons] at *; omega
  · intro a s c X h ih
    have := put_len c
    rw [apply_gt h]; simp only [List.length_append, List.length_cons] at *; omega
theorem apply_put {d : Chg} (hg : d.2.1 = false) : ∀ (s : List Atr) (X : List Chg), d ∈ X → chA d ∈ applyL s X := by
  have hp : chA d ∈ putC d := by unfold putC; rw [hg]; simp
  refine apply_ind ?_ ?_ ?_ ?_ ?_
  · intro s h; cases h
  · intro c X ih h
    rw [apply_nil]
    rcases List.mem_cons.1 h with rfl | h
    · exact List.mem_append_left _ hp
    · exact List.mem_append_right _ (ih h)
  · intro a s c X hlt ih h
    rw [apply_lt hlt]
    exact List.mem_cons_of_mem _ (ih h)
  · intro a s c X he ih h
    rw [apply_eq he]
    rcases List.mem_cons.1 h with rfl | h
    · exact List.mem_append_left _ hp
    · exact List.mem_append_right _ (ih h)
  · intro a s c X hgt ih h
    rw [apply_gt hgt]
    rcases List.mem_cons.1 h with rfl | h
    · exact List.mem_append_left _ hp
    · exact List.mem_append_right _ (ih h)
/-- a bound below all keys of what is left -/
theorem apply_above {k : Int} {s : List Atr} {X : List Chg} (hs : ∀ a ∈ s, k < a.1) (hX : ∀ c ∈ X, k < c.1) : ∀ a ∈ applyL s X, k < a.1 := by
  intro a h
  rcases mem_apply s X a h with h | ⟨c, hc, _, rfl⟩
  · exact hs a h
  · exact hX c hc
theorem rise_cons {a : Atr} {l : List Atr} : Rise (a :: l) ↔ (∀ b ∈ l, a.1 < b.1) ∧ Rise l := List.pairwise_cons
theorem riseC_cons {a : Chg} {l : List Chg} : RiseC (a :: l) ↔ (∀ b ∈ l, a.1 < b.1) ∧ RiseC l := List.pairwise_cons
theorem rise_put {c : Chg} {l : List Atr} (h : ∀ b ∈ l, c.1 < b.1) (hl : Rise l) : Rise (putC c ++ l) := by
  unfold putC
  split
  · exact hl
  · exact rise_cons.2 ⟨h, hl⟩
theorem apply_rise : ∀ (s : List Atr) (X : List Chg), Rise s → RiseC X → Rise (applyL s X) := by
  refine apply_ind ?_ ?_ ?_ ?_ ?_
  · intro s h _; rw [apply_end]; exact h
  · intro c X ih hs hX
    obtain ⟨h1, h2⟩ := riseC_cons.1 hX
    rw [apply_nil]
    exact rise_put (apply_above (by simp) h1) (ih hs h2)
  · intro a s c X hlt ih hs hX
    obtain ⟨h1, h2⟩ := riseC_cons.1 hX
    obtain ⟨h3, h4⟩ := rise_cons.1 hs
    rw [apply_lt hlt]
    exact rise_cons.2 ⟨apply_above h3 (fun d hd => by rcases List.mem_cons.1 hd with rfl | hd; exact hlt; exact Int.lt_trans hlt (h1 d hd)), ih h4 hX⟩
  · intro a s c X he ih hs hX
    obtain ⟨h1, h2⟩ := riseC_cons.1 hX
    obtain ⟨h3, h4⟩ := rise_cons.1 hs
    rw [apply_eq he]
    exact rise_put (apply_above (by rw [← he]; exact h3) h1) (ih h4 h2)
  · intro a s c X hgt ih hs hX
    obtain ⟨h1, h2⟩ := riseC_cons.1 hX
    obtain ⟨h3, h4⟩ := rise_cons.1 hs
    rw [apply_gt hgt]
    exact rise_put (apply_above (fun b hb => by rcases List.mem_cons.1 hb with rfl | hb; exact hgt; exact Int.lt_trans hgt (h3 b hb)) h1) (ih hs h2)
theorem apply_gone {d : Chg} (hg : d.2.1 = true) : ∀ (s : List Atr) (X : List Chg), Rise s → RiseC X → d ∈ X → ∀ a ∈ applyL s X, a.1 ≠ d.1 := by
  have hp : putC d = [] := by unfold putC; rw [if_pos hg]
  refine apply_ind ?_ ?_ ?_ ?_ ?_
  · intro s _ _ h; cases h
  · intro c X ih hs hX hd a ha
    obtain ⟨h1, h2⟩ := riseC_cons.1 hX
    rw [apply_nil] at ha
    rcases List.mem_cons.1 hd with rfl | hd
    · rw [hp, List.nil_append] at ha
      have := apply_above (k := d.1) (s := []) (by simp) h1 a ha
      omega
    · rcases List.mem_append.1 ha with ha | ha
      · have h3 := h1 d hd
        rw [(mem_put ha).2]
        show c.1 ≠ d.1
        omega
      · exact ih hs h2 hd a ha
  · intro b s c X hlt ih hs hX hd a ha
    obtain ⟨h1, h2⟩ := riseC_cons.1 hX
    obtain ⟨h3, h4⟩ := rise_cons.1 hs
    rw [apply_lt hlt] at ha
    rcases List.mem_cons.1 ha with rfl | ha
    · rcases List.mem_cons.1 hd with rfl | hd
      · omega
      · have := h1 d hd; omega
    · exact ih h4 hX hd a ha
  · intro b s c X he ih hs hX hd a ha
    obtain ⟨h1, h2⟩ := riseC_cons.1 hX
    obtain ⟨h3, h4⟩ := rise_cons.1 hs
    rw [apply_eq he] at ha
    rcases List.mem_cons.1 hd with rfl | hd
    · rw [hp, List.nil_append] at ha
      have := apply_above (k := d.1) (by rw [← he]; exact h3) h1 a ha
      omega
    · rcases List.mem_append.1 ha with ha | ha
      · have h3 := h1 d hd
        rw [(mem_put ha).2]
        show c.1 ≠ d.1
        omega
      · exact ih h4 h2 hd a ha
  · intro b s c X hgt ih hs hX hd a ha
    obtain ⟨h1, h2⟩ := riseC_cons.1 hX
    obtain ⟨h3, h4⟩ := rise_cons.1 hs
    rw [apply_gt hgt] at ha
    rcases List.mem_cons.1 hd with rfl | hd
    · rw [hp, List.nil_append] at ha
      have := apply_above (k := d.1) (fun b2 hb => by rcases List.mem_cons.1 hb with rfl | hb; exact hgt; exact Int.lt_trans hgt (h3 b2 hb)) h1 a ha
      omega
    · rcases List.mem_append.1 ha with ha | ha
      · have h3 := h1 d hd
        rw [(mem_put ha).2]
        show c.1 ≠ d.1
        omega
      · exact ih hs h2 hd a ha
/-- what the model asks of a value's parts -/
def wfV (v : Val) : Prop := (Lit.int .u8 v.1).wf = true ∧ (Lit.int .i64 v.2.1).wf = true ∧ (Lit.int .u64 v.2.2.1).wf = true ∧ v.2.2.2.size ≤ maxLen
def wfA (a : Atr) : Prop := (Lit.int .i64 a.1).wf = true ∧ wfV a.2
def wfC (c : Chg) : Prop := (Lit.int .i64 c.1).wf = true ∧ wfV c.2.2
theorem apply_wf {s : List Atr} {X : List Chg} (hs : ∀ a ∈ s, wfA a) (hX : ∀ c ∈ X, wfC c) : ∀ a ∈ applyL s X, wfA a := by
  intro a h
  rcases mem_apply s X a h with h | ⟨c, hc, _, rfl⟩
  · exact hs a h
  · exact hX c hc
section
variable {P : Program} {w : World}
theorem key_int {n : Nat} {t : TypeId} {k : IntKind} {i : Int} (h : P.underlying t = some (.int k)) (hw : (Lit.int k i).wf = true) : P.keyLits (n + 1) t [.int k i] = some [.int k i] := by
  rw [Program.keyLits, if_pos ⟨rfl, hw⟩]; exact h
theorem key_str {n : Nat} {t : TypeId} {s : ByteArray} (h : P.underlying t = some .string) (hw : s.size ≤ maxLen) : P.keyLits (n + 1) t [.string s] = some [.string s.data.toList] := by
  rw [Program.keyLits, if_pos hw]; exact h
theorem key_4 {n : Nat} {T : TypeId} {f0 f1 f2 f3 : Field} {x0 x1 x2 x3 : Value} {l0 l1 l2 l3 : List Lit} (hu : P.underlying T = some (.struct #[f0, f1, f2, f3])) (hc : P.cellsOf T = 4)
    (c0 : P.cellsOf f0.type = 1) (c1 : P.cellsOf f1.type = 1) (c2 : P.cellsOf f2.type = 1) (c3 : P.cellsOf f3.type = 1) (o0 : f0.offset = 0) (o1 : f1.offset = 1) (o2 : f2.offset = 2) (o3 : f3.offset = 3)
    (n0 : f0.name ≠ "_") (n1 : f1.name ≠ "_") (n2 : f2.name ≠ "_") (n3 : f3.name ≠ "_")
    (g0 : P.keyLits n f0.type [x0] = some l0) (g1 : P.keyLits n f1.type [x1] = some l1) (g2 : P.keyLits n f2.type [x2] = some l2) (g3 : P.keyLits n f3.type [x3] = some l3) :
    P.keyLits (n + 1) T [x0, x1, x2, x3] = some [l0, l1, l2, l3].flatten := by
  rw [Program.keyLits.eq_6 _ _ _ _ _ hu, if_pos ⟨by simp [hc], by simp [n0, n1, n2, n3]⟩]
  have t0 : (([x0, x1, x2, x3] : List Value).drop f0.offset).take (P.cellsOf f0.type) = [x0] := by rw [o0, c0]; rfl
  have t1 : (([x0, x1, x2, x3] : List Value).drop f1.offset).take (P.cellsOf f1.type) = [x1] := by rw [o1, c1]; rfl
  have t2 : (([x0, x1, x2, x3] : List Value).drop f2.offset).take (P.cellsOf f2.type) = [x2] := by rw [o2, c2]; rfl
  have t3 : (([x0, x1, x2, x3] : List Value).drop f3.offset).take (P.cellsOf f3.type) = [x3] := by rw [o3, c3]; rfl
  simp only [List.mapM_cons, List.mapM_nil, t0, t1, t2, t3, g0, g1, g2, g3]
  rfl
theorem key_14 {n : Nat} {T : TypeId} {f0 f1 : Field} {x0 x1 x2 x3 x4 : Value} {l0 l1 : List Lit} (hu : P.underlying T = some (.struct #[f0, f1])) (hc : P.cellsOf T = 5)
    (c0 : P.cellsOf f0.type = 1) (c1 : P.cellsOf f1.type = 4) (o0 : f0.offset = 0) (o1 : f1.offset = 1) (n0 : f0.name ≠ "_") (n1 : f1.name ≠ "_")
    (g0 : P.keyLits n f0.type [x0] = some l0) (g1 : P.keyLits n f1.type [x1, x2, x3, x4] = some l1) :
    P.keyLits (n + 1) T [x0, x1, x2, x3, x4] = some [l0, l1].flatten := by
  rw [Program.keyLits.eq_6 _ _ _ _ _ hu, if_pos ⟨by simp [hc], by simp [n0, n1]⟩]
  have t0 : (([x0, x1, x2, x3, x4] : List Value).drop f0.offset).take (P.cellsOf f0.type) = [x0] := by rw [o0, c0]; rfl
  have t1 : (([x0, x1, x2, x3, x4] : List Value).drop f1.offset).take (P.cellsOf f1.type) = [x1, x2, x3, x4] := by rw [o1, c1]; rfl
  simp only [List.mapM_cons, List.mapM_nil, t0, t1, g0, g1]
  rfl
/-- a value that has a key is equal to itself -/
theorem run_eqSelf {T : TypeId} {cs : Array Value} {L : List Lit} (hk : P.keyTypeAt 4 T = true) (hf : (Value.agg cs).formed P T = true) (hl : P.keyLits 4 T cs.toList = some L) : (Op.equal T (.agg cs) (.agg cs)).run P w = .ok true w := by
  obtain ⟨r, hr, hiff⟩ := run_equalIn_deep (P := P) 9996 4 T hk w 4 4 (.agg cs) (.agg cs) L L hf hf hl hl
  have : r = true := hiff.2 rfl
  subst this
  exact hr
variable {f : Nat → Value} {d : Option Tmp} {ty : TypeId} {pos : String} {af : Array Edge} {g : Option (Tmp × Bool)}
theorem r_neqSelf {T yt : TypeId} {x y : Operand} {cs : Array Value} {L : List Lit} (hx : ev f x = .agg cs) (hy : ev f y = .agg cs) (hk : P.keyTypeAt 4 T = true) (hf : (Value.agg cs).formed P T = true) (hl : P.keyLits 4 T cs.toList = some L)
    (hg : P.eqGuardType P.depth T = false) : (execOp (ev f) ⟨d, .binOp .neq T x y yt, ty, pos, af, g⟩).run P w = .ok (.value (.bool false)) w := by
  have e2 := run_eqSelf (w := w) hk hf hl
  simp [execOp, hx, hy, eqGuard, hg, binOp, e2]
end
theorem keyV {v : Val} {n : Nat} (h : wfV v) : Try.prog.keyLits (n + 2) 44 (valC v) = some [.int .u8 v.1, .int .i64 v.2.1, .int .u64 v.2.2.1, .string v.2.2.2.data.toList] := by
  obtain ⟨h0, h1, h2, h3⟩ := h
  have := key_4 (n := n + 1) Try.underlying44 (by kernel_rfl) (by kernel_rfl) (by kernel_rfl) (by kernel_rfl) (by kernel_rfl) rfl rfl rfl rfl (by decide) (by decide) (by decide) (by decide)
    (key_int Try.underlying5 h0) (key_int Try.underlying2 h1) (key_int Try.underlying42 h2) (key_str Try.underlying9 h3)
  exact this
theorem keyA {a : Atr} {n : Nat} (h : wfA a) : Try.prog.keyLits (n + 3) 72 (atC a) = some [.int .i64 a.1, .int .u8 a.2.1, .int .i64 a.2.2.1, .int .u64 a.2.2.2.1, .string a.2.2.2.2.data.toList] := by
  have := key_14 (n := n + 2) Try.underlying72 (by kernel_rfl) (by kernel_rfl) (by kernel_rfl) rfl rfl (by decide) (by decide) (key_int Try.underlying3 h.1) (keyV (n := n) h.2)
  exact this
end Go.Proofs.Ytonnijghdlakfaa
