/-
Records: the tree's lists are plain lists here; their rows in memory.
-/
import Derived.Test.YtonnijghdlakfaaU0
namespace Go.Proofs.Ytonnijghdlakfaa
open Go Go.RowKit
theorem sz_len : ∀ xs : List X, sz xs = xs.length
  | [] => rfl
  | x :: l => by
    show xS x + sz l = _
    rw [sz_len l, List.length_cons]; unfold xS; omega
theorem splitL_eq : ∀ (xs : List X) (i : Nat), splitL xs i = (xs.take i, xs.drop i)
  | [], i => by simp [splitL]
  | x :: l, i => by
    unfold splitL
    split
    · rename_i h; subst h; simp
    · split
      · rename_i h1 h2
        have ih := splitL_eq l (i - 1)
        show (x :: (splitL l (i - 1)).1, (splitL l (i - 1)).2) = _
        rw [ih]
        obtain ⟨j, rfl⟩ : ∃ j, i = j + 1 := ⟨i - 1, by omega⟩
        simp
      · rename_i h1 h2
        unfold xS at h2; omega
theorem mstep_eq (out : List X) (x : X) : mstep out x = out ++ [x] := by
  have h0 : xS x ≠ 0 := by unfold xS; decide
  rcases nil_or_snoc out with rfl | ⟨o, y, rfl⟩
  · rw [mstep_nil h0]; rfl
  · rw [mstep_no h0 rfl]
theorem meldL_eq (l : List X) : meldL l = l := by
  have key : ∀ (l out : List X), l.foldl mstep out = out ++ l := by
    intro l
    induction l with
    | nil => intro out; simp
    | cons x l ih => intro out; rw [List.foldl_cons, ih, mstep_eq]; simp
  have h := key l []
  unfold meldL
  simpa using h
theorem drop_last_app {α : Type} (l : List α) : l.dropLast ++ l.getLast?.toList = l := by
  rcases nil_or_snoc l with rfl | ⟨o, y, rfl⟩ <;> simp
theorem head_tail_app {α : Type} (l : List α) : l.head?.toList ++ l.tail = l := by cases l <;> simp
theorem replL_eq {xs l : List X} {i j : Nat} (hij : i ≤ j) : replL xs i j l = xs.take i ++ (l ++ xs.drop j) := by
  unfold replL
  rw [meldL_eq, splitL_eq, splitL_eq]
  simp only [List.drop_drop, show i + (j - i) = j by omega]
  have e1 := drop_last_app (xs.take i)
  have e2 := head_tail_app (xs.drop j)
  calc _ = (xs.take i).dropLast ++ (xs.take i).getLast?.toList ++ (l ++ ((xs.drop j).head?.toList ++ (xs.drop j).tail)) := by simp
    _ = _ := by rw [e1, e2]
theorem overL_eq : ∀ (xs : List X) (i j : Nat), overL xs i j = (xs.take j).drop i
  | [], i, j => by simp [overL]
  | x :: l, i, j => by
    have ih := overL_eq l (i - 1) (j - 1)
    show oneL x i j ++ overL l (i - 1) (j - 1) = _
    rw [ih]
    unfold oneL
    cases j with
    | zero => rw [if_neg (by omega)]; simp
    | succ j =>
      cases i with
      | zero =>
        rw [if_pos (by unfold xS; omega), partX]
        rw [if_neg (Nat.lt_irrefl 0)]
        have : ¬ min (j + 1) (xS x) < xS x := by unfold xS; omega
        rw [if_neg this]
        simp
      | succ i =>
        rw [if_neg (by unfold xS; omega)]
        simp
theorem findL_eq : ∀ (xs : List X) (i : Nat), findL xs i = (xs[i]?).map fun x => (x, 0)
  | [], i => by simp [findL]
  | x :: l, i => by
    unfold findL
    cases i with
    | zero => rw [if_pos (by unfold xS; omega)]; rfl
    | succ i =>
      rw [if_neg (by unfold xS; omega)]
      show findL l (i + 1 - 1) = _
      rw [Nat.add_sub_cancel, findL_eq l i]
      simp
/-- the rows of sets -/
def RowsL : List Value → List (List Atr) → SProp
  | [], [] => spure True
  | x :: xs, l :: L => star (ARow x l) (RowsL xs L)
  | _, _ => spure False
section
variable {E : Env} {R : List SProp} {w : World} {x : Value} {xs ys : List Value} {l : List Atr} {L M : List (List Atr)}
theorem SatL.rowsNil (h : SatL E w R) : SatL E w (RowsL [] [] :: R) := h.addPure trivial
theorem SatL.rowsLen : ∀ {xs : List Value} {L : List (List Atr)} {R : List SProp}, SatL E w (RowsL xs L :: R) → xs.length = L.length
  | [], [], _, _ => rfl
  | [], _ :: _, _, h => h.pure.1.elim
  | _ :: _, [], _, h => h.pure.1.elim
  | _ :: xs, _ :: L, _, h => by
    have h2 := SatL.rowsLen (h.open.drop)
    simp [h2]
theorem SatL.rowsCons (h : SatL E w (ARow x l :: RowsL xs L :: R)) : SatL E w (RowsL (x :: xs) (l :: L) :: R) := h.close
theorem SatL.rowsApp : ∀ {xs : List Value} {L : List (List Atr)} {R : List SProp}, SatL E w (RowsL xs L :: RowsL ys M :: R) → SatL E w (RowsL (xs ++ ys) (L ++ M) :: R)
  | [], [], _, h => h.drop
  | [], _ :: _, _, h => h.pure.1.elim
  | _ :: _, [], _, h => h.pure.1.elim
  | _ :: xs, _ :: L, _, h => by
    have h1 := h.open
    have h2 := SatL.rowsApp (R := _ :: _) (h1.f2.f2)
    exact (h2.f1).close
end
end Go.Proofs.Ytonnijghdlakfaa
