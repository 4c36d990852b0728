/-
Rows of numbers as lists of spans: the plain laws.
-/
import Derived.Test.YtbmdbjnkkbefmaaS2
namespace Go.Proofs.Ytbmdbjnkkbefmaa
open Go Go.RowKit
/-- the numbers, one by one -/
def ids (l : List X) : List Int := l.flatMap fun x => List.replicate x.1 x.2
theorem ids_app {a b : List X} : ids (a ++ b) = ids a ++ ids b := by simp [ids]
theorem ids_cons {x : X} {l : List X} : ids (x :: l) = List.replicate x.1 x.2 ++ ids l := by simp [ids]
theorem ids_nil : ids [] = [] := rfl
theorem ids_one {x : X} : ids [x] = List.replicate x.1 x.2 := by simp [ids]
theorem ids_len : ∀ l : List X, (ids l).length = sz l
  | [] => rfl
  | x :: l => by rw [ids_cons, List.length_append, List.length_replicate, ids_len l]; rfl
theorem ids_split : ∀ (l : List X) (i : Nat), ids (splitL l i).1 = (ids l).take i ∧ ids (splitL l i).2 = (ids l).drop i
  | [], i => by simp [splitL, ids]
  | x :: l, i => by
    unfold splitL
    split
    · rename_i h; subst h; simp [ids]
    · split
      · rename_i h1 h2
        have hle : x.1 ≤ i := h2
        have ih1 : ids (splitL l (i - xS x)).1 = (ids l).take (i - x.1) := (ids_split l (i - xS x)).1
        have ih2 : ids (splitL l (i - xS x)).2 = (ids l).drop (i - x.1) := (ids_split l (i - xS x)).2
        constructor
        · rw [ids_cons, ids_cons, List.take_append, List.length_replicate, List.take_of_length_le (l := List.replicate x.1 x.2) (by rw [List.length_replicate]; exact hle), ih1]
        · rw [ids_cons, List.drop_append, List.length_replicate, List.drop_eq_nil_of_le (show (List.replicate x.1 x.2).length ≤ i by rw [List.length_replicate]; exact hle), List.nil_append, ih2]
      · rename_i h1 h2
        have hlt : i < x.1 := by unfold xS at h2; omega
        constructor
        · rw [ids_one, ids_cons, List.take_append_of_le_length (by rw [List.length_replicate]; omega), List.take_replicate, Nat.min_eq_left (by omega)]; rfl
        · rw [ids_cons, ids_cons, List.drop_append_of_le_length (by rw [List.length_replicate]; omega), List.drop_replicate]; rfl
theorem partX_eq {x : X} {i j : Nat} (hij : i < j) (hj : j ≤ x.1) : partX x i j = (j - i, x.2) := by
  unfold partX
  by_cases h1 : 0 < i
  · rw [if_pos h1]
    by_cases h2 : j < xS x
    · rw [if_pos h2]; rfl
    · rw [if_neg h2]
      have e : j = x.1 := by unfold xS at h2; omega
      subst e; rfl
  · rw [if_neg h1]
    have e0 : i = 0 := by omega
    subst e0
    by_cases h2 : j < xS x
    · rw [if_pos h2]; rfl
    · rw [if_neg h2]
      have e : j = x.1 := by unfold xS at h2; omega
      subst e; rfl
theorem ids_mstep (out : List X) (x : X) : ids (mstep out x) = ids out ++ List.replicate x.1 x.2 := by
  by_cases h0 : xS x = 0
  · rw [mstep_zero h0]
    have : x.1 = 0 := h0
    simp [this]
  rcases nil_or_snoc out with rfl | ⟨o, y, rfl⟩
  · rw [mstep_nil h0]; simp [ids]
  · by_cases hm : xMelds y x = true
    · rw [mstep_yes h0 hm]
      have e : y.2 = x.2 := of_decide_eq_true hm
      simp only [ids_app, ids_one, xMeld, List.append_assoc]
      rw [e, List.replicate_append_replicate]
    · rw [mstep_no h0 (by simpa using hm)]
      simp only [ids_app, ids_one]
theorem ids_fold : ∀ (l out : List X), ids (l.foldl mstep out) = ids out ++ ids l
  | [], out => by simp [ids]
  | x :: l, out => by rw [List.foldl_cons, ids_fold l, ids_mstep, ids_cons, List.append_assoc]
theorem ids_meld (l : List X) : ids (meldL l) = ids l := by
  unfold meldL; rw [ids_fold]; simp [ids_nil]
theorem drop_last_app {α : Type} (l : List α) : l.dropLast ++ l.getLast?.toList = l := by
  rcases nil_or_snoc l with rfl | ⟨o, y, rfl⟩ <;> simp
theorem head_tail_app {α : Type} (l : List α) : l.head?.toList ++ l.tail = l := by cases l <;> simp
theorem ids_repl {xs l : List X} {i j : Nat} (hij : i ≤ j) (_hj : j ≤ sz xs) : ids (replL xs i j l) = (ids xs).take i ++ (ids l ++ (ids xs).drop j) := by
  have h1 := ids_split xs i
  have h2 := ids_split (splitL xs i).2 (j - i)
  unfold replL
  rw [ids_app, ids_app, ids_meld, ids_app, ids_app]
  have e1 : ids (splitL xs i).1.dropLast ++ ids (splitL xs i).1.getLast?.toList = (ids xs).take i := by rw [← ids_app, drop_last_app, h1.1]
  have e2 : ids (splitL (splitL xs i).2 (j - i)).2.head?.toList ++ ids (splitL (splitL xs i).2 (j - i)).2.tail = (ids xs).drop j := by
    rw [← ids_app, head_tail_app, h2.2, h1.2, List.drop_drop, show i + (j - i) = j by omega]
  rw [← e1, ← e2]
  simp only [List.append_assoc]
theorem ids_over : ∀ (l : List X) (i j : Nat), ids (overL l i j) = ((ids l).take j).drop i
  | [], i, j => by simp [overL, ids]
  | x :: l, i, j => by
    have ih := ids_over l (i - xS x) (j - xS x)
    simp only [overL, ids_app, ids_cons, ih]
    rw [List.take_append, List.drop_append]
    simp only [List.length_replicate, List.length_take, xS]
    congr 1
    · by_cases h : i < min j (xS x)
      · have h' : i < min j x.1 := h
        rw [oneL, if_pos h, ids_one, partX_eq h (Nat.min_le_right _ _), List.take_replicate, List.drop_replicate]
        rfl
      · have h' : ¬ i < min j x.1 := h
        rw [oneL, if_neg h, ids_nil, List.take_replicate, List.drop_replicate, show min j x.1 - i = 0 by omega]; rfl
    · by_cases h : x.1 ≤ j
      · rw [show min j x.1 = x.1 by omega]
      · rw [show j - x.1 = 0 by omega]; simp
theorem find_none_iff : ∀ (l : List X) (k : Nat), findL l k = none ↔ sz l ≤ k
  | [], k => by simp [findL, sz]
  | x :: l, k => by
    unfold findL
    split
    · rename_i h; simp [sz]; omega
    · rename_i h; rw [find_none_iff l]; simp only [sz]; omega
theorem find_ids : ∀ (l : List X) (k : Nat) {x : X} {o : Nat}, findL l k = some (x, o) → (ids l)[k]? = some x.2
  | [], k, x, o, h => by simp [findL] at h
  | y :: l, k, x, o, h => by
    unfold findL at h
    rw [ids_cons]
    split at h
    · rename_i hk
      cases h
      have hk2 : k < y.1 := hk
      rw [List.getElem?_append_left (by simpa using hk2), List.getElem?_replicate, if_pos hk2]
    · rename_i hk
      have hk2 : ¬ k < y.1 := hk
      rw [List.getElem?_append_right (by simp; omega), List.length_replicate]
      exact find_ids l (k - y.1) h
/-- no two neighbours alike, none empty -/
def Canon : List X → Prop
  | [] => True
  | [x] => 0 < x.1
  | x :: y :: l => 0 < x.1 ∧ x.2 ≠ y.2 ∧ Canon (y :: l)
theorem Canon.tail {x : X} {l : List X} (h : Canon (x :: l)) : Canon l := by
  cases l with
  | nil => trivial
  | cons y l => exact h.2.2
theorem Canon.head {x : X} {l : List X} (h : Canon (x :: l)) : 0 < x.1 := by
  cases l with
  | nil => exact h
  | cons y l => exact h.1
theorem Canon.ps : ∀ {l : List X}, Canon l → Ps l
  | [], _ => by simp [Ps]
  | x :: l, h => fun y hy => by
    rcases List.mem_cons.1 hy with rfl | h1
    · exact h.head
    · exact Canon.ps h.tail y h1
theorem canon_uniq : ∀ {a b : List X}, Canon a → Canon b → ids a = ids b → a = b
  | [], [], _, _, _ => rfl
  | [], y :: b, _, hb, h => by
    have h1 := congrArg List.length h
    have := hb.head
    rw [ids_nil, ids_cons] at h1; simp at h1; omega
  | x :: a, [], ha, _, h => by
    have h1 := congrArg List.length h
    have := ha.head
    rw [ids_nil, ids_cons] at h1; simp at h1; omega
  | x :: a, y :: b, ha, hb, h => by
    have hx := ha.head
    have hy := hb.head
    have key : ∀ {x y : X} {a b : List X}, Canon (x :: a) → 0 < y.1 → x.2 = y.2 → ids (x :: a) = ids (y :: b) → ¬ x.1 < y.1 := by
      intro x y a b ha hy e h hlt
      have h1 := congrArg (fun l => l[x.1]?) h
      simp only [ids_cons] at h1
      rw [List.getElem?_append_right (by simp), List.length_replicate, Nat.sub_self, List.getElem?_append_left (by simpa using hlt), List.getElem?_replicate, if_pos hlt] at h1
      cases a with
      | nil => simp [ids] at h1
      | cons z a =>
        have hz := ha.tail.head
        rw [ids_cons, List.getElem?_append_left (by simpa using hz), List.getElem?_replicate, if_pos hz] at h1
        simp at h1
        exact ha.2.1 (e.trans h1.symm)
    have e2 : x.2 = y.2 := by
      have h1 := congrArg (fun l => l[0]?) h
      simp only [ids_cons] at h1
      rw [List.getElem?_append_left (by simpa using hx), List.getElem?_append_left (by simpa using hy), List.getElem?_replicate, List.getElem?_replicate, if_pos hx, if_pos hy] at h1
      simpa using h1
    have e1 : x.1 = y.1 := by
      have k1 := key ha hy e2 h
      have k2 := key hb hx e2.symm h.symm
      omega
    have e : x = y := Prod.ext e1 e2
    subst e
    rw [ids_cons, ids_cons] at h
    rw [canon_uniq ha.tail hb.tail (List.append_cancel_left h)]
theorem mstep_pre {p o : List X} {x : X} (ho : o ≠ []) : mstep (p ++ o) x = p ++ mstep o x := by
  rcases nil_or_snoc o with rfl | ⟨q, y, rfl⟩
  · exact absurd rfl ho
  · by_cases h0 : xS x = 0
    · rw [mstep_zero h0, mstep_zero h0]
    · cases hm : xMelds y x with
      | true => rw [← List.append_assoc, mstep_yes h0 hm, mstep_yes h0 hm, List.append_assoc]
      | false => rw [← List.append_assoc, mstep_no h0 hm, mstep_no h0 hm]; simp
theorem mstep_ne {o : List X} {x : X} (ho : o ≠ []) : mstep o x ≠ [] := by
  rcases nil_or_snoc o with rfl | ⟨q, y, rfl⟩
  · exact absurd rfl ho
  · by_cases h0 : xS x = 0
    · rw [mstep_zero h0]; simp
    · cases hm : xMelds y x with
      | true => rw [mstep_yes h0 hm]; simp
      | false => rw [mstep_no h0 hm]; simp
theorem fold_pre : ∀ (l : List X) {p o : List X}, o ≠ [] → l.foldl mstep (p ++ o) = p ++ l.foldl mstep o
  | [], _, _, _ => rfl
  | x :: l, p, o, ho => by rw [List.foldl_cons, List.foldl_cons, mstep_pre ho, fold_pre l (mstep_ne ho)]
/-- what is behind a span that is alike to the head of a canonical list stays -/
theorem fold_canon : ∀ (l : List X) {z u : X} {o : List X}, Canon (z :: l) → u.2 = z.2 → l.foldl mstep (o ++ [u]) = o ++ [u] ++ l
  | [], _, _, _, _, _ => by simp
  | x :: l, z, u, o, hc, e => by
    have hx : xS x ≠ 0 := by have := hc.tail.head; unfold xS; omega
    have hm : xMelds u x = false := decide_eq_false (by rw [e]; exact hc.2.1)
    rw [List.foldl_cons, mstep_no hx hm, fold_canon l hc.tail rfl]
    simp
theorem meld_canon_id {l : List X} (h : Canon l) : meldL l = l := by
  cases l with
  | nil => rfl
  | cons x l =>
    have hx : xS x ≠ 0 := by have := h.head; unfold xS; omega
    unfold meldL
    rw [List.foldl_cons, mstep_nil hx]
    exact fold_canon l (o := []) h rfl
theorem canon_snoc : ∀ {o : List X} {y x : X}, Canon (o ++ [y]) → 0 < x.1 → y.2 ≠ x.2 → Canon (o ++ [y] ++ [x])
  | [], y, x, h, hx, hne => ⟨h, hne, hx⟩
  | [z], y, x, h, hx, hne => ⟨h.1, h.2.1, canon_snoc (o := []) h.2.2 hx hne⟩
  | z :: z2 :: o, y, x, h, hx, hne => ⟨h.1, h.2.1, canon_snoc (o := z2 :: o) h.2.2 hx hne⟩
theorem canon_last : ∀ {o : List X} {y x : X}, Canon (o ++ [y]) → 0 < x.1 → x.2 = y.2 → Canon (o ++ [x])
  | [], y, x, _, hx, _ => hx
  | [z], y, x, h, hx, e => ⟨h.1, by rw [e]; exact h.2.1, hx⟩
  | z :: z2 :: o, y, x, h, hx, e => ⟨h.1, h.2.1, canon_last (o := z2 :: o) h.2.2 hx e⟩
theorem canon_mstep {out : List X} {x : X} (h : Canon out) : Canon (mstep out x) := by
  by_cases h0 : xS x = 0
  · rw [mstep_zero h0]; exact h
  have hx : 0 < x.1 := by unfold xS at h0; omega
  rcases nil_or_snoc out with rfl | ⟨o, y, rfl⟩
  · rw [mstep_nil h0]; exact hx
  · cases hm : xMelds y x with
    | true => rw [mstep_yes h0 hm]; exact canon_last h (by unfold xMeld; simp only; omega) rfl
    | false => rw [mstep_no h0 hm]; exact canon_snoc h hx (of_decide_eq_false hm)
theorem canon_meld (l : List X) : Canon (meldL l) := by
  have key : ∀ (l out : List X), Canon out → Canon (l.foldl mstep out) := by
    intro l
    induction l with
    | nil => exact fun _ h => h
    | cons x l ih => exact fun out h => ih _ (canon_mstep h)
  exact key l [] trivial
theorem mstep_last {out : List X} {z : X} (hz : 0 < z.1) : ∃ o u, mstep out z = o ++ [u] ∧ u.2 = z.2 := by
  have h0 : xS z ≠ 0 := by unfold xS; omega
  rcases nil_or_snoc out with rfl | ⟨o, y, rfl⟩
  · exact ⟨[], z, by rw [mstep_nil h0]; rfl, rfl⟩
  · cases hm : xMelds y z with
    | true => exact ⟨o, xMeld y z, by rw [mstep_yes h0 hm], of_decide_eq_true hm⟩
    | false => exact ⟨o ++ [y], z, by rw [mstep_no h0 hm], rfl⟩
theorem canon_take : ∀ {a c : List X}, Canon (a ++ c) → Canon a
  | [], _, _ => trivial
  | [x], c, h => h.head
  | x :: y :: a, c, h => ⟨h.1, h.2.1, canon_take (a := y :: a) h.2.2⟩
theorem canon_drop : ∀ {a c : List X}, Canon (a ++ c) → Canon c
  | [], _, h => h
  | _ :: a, _, h => canon_drop (a := a) h.tail
theorem meld_mid {A l B : List X} (hA : Canon A) (hB : Canon B) : A.dropLast ++ (meldL (A.getLast?.toList ++ l ++ B.head?.toList) ++ B.tail) = meldL (A ++ l ++ B) := by
  have tailB : ∀ out : List X, (l ++ B.head?.toList).foldl mstep out ++ B.tail = (l ++ B).foldl mstep out := by
    intro out
    cases B with
    | nil => simp
    | cons z B' =>
      simp only [List.head?_cons, Option.toList_some, List.tail_cons, List.foldl_append, List.foldl_cons, List.foldl_nil]
      obtain ⟨o, u, e1, e2⟩ := mstep_last (out := l.foldl mstep out) hB.head
      rw [e1, fold_canon B' hB e2]
  rcases nil_or_snoc A with rfl | ⟨A', y, rfl⟩
  · unfold meldL; simpa using tailB []
  · have hA2 := meld_canon_id hA
    have hy : xS y ≠ 0 := by have := hA.ps y (by simp); omega
    unfold meldL at hA2 ⊢
    simp only [List.dropLast_concat, List.getLast?_append, List.getLast?_singleton, Option.some_or, Option.toList_some]
    rw [List.append_assoc [y], List.singleton_append, List.foldl_cons, mstep_nil hy, tailB [y], ← fold_pre (l ++ B) (by simp)]
    conv => rhs; rw [List.append_assoc (A' ++ [y]), List.foldl_append, hA2]
theorem splitL_canon : ∀ (l : List X) (i : Nat), Canon l → Canon (splitL l i).1 ∧ Canon (splitL l i).2
  | [], i, _ => by simp [splitL, Canon]
  | x :: l, i, h => by
    have ih := splitL_canon l (i - xS x) h.tail
    unfold splitL
    split
    · exact ⟨trivial, h⟩
    · split
      · refine ⟨?_, ih.2⟩
        rename_i h1 h2
        cases l with
        | nil => simpa [splitL, Canon] using h
        | cons y l' =>
          have ih1 := ih.1
          have hh : ∀ q : List X, (splitL (y :: l') (i - xS x)).1 = q → Canon q → Canon (x :: q) := by
            intro q hq hc
            cases q with
            | nil => exact h.head
            | cons z q =>
              refine ⟨h.head, ?_, hc⟩
              have : z.2 = y.2 := by
                unfold splitL at hq
                split at hq
                · cases hq
                · split at hq
                  · cases hq; rfl
                  · cases hq; rfl
              rw [this]; exact h.2.1
          exact hh _ rfl ih1
      · rename_i h1 h2
        have hi : i < x.1 := by unfold xS at h2; omega
        refine ⟨(show 0 < i by omega), ?_⟩
        cases l with
        | nil => exact (show 0 < x.1 - i by omega)
        | cons y l' => exact ⟨(show 0 < x.1 - i by omega), h.2.1, h.2.2⟩
theorem canon_repl {xs l : List X} {i j : Nat} (h : Canon xs) : Canon (replL xs i j l) := by
  unfold replL
  have h1 := splitL_canon xs i h
  have h2 := splitL_canon (splitL xs i).2 (j - i) h1.2
  rw [meld_mid h1.1 h2.2]
  exact canon_meld _
theorem meld_len (l : List X) : (meldL l).length ≤ l.length := by
  have key : ∀ (l out : List X), (l.foldl mstep out).length ≤ out.length + l.length := by
    intro l
    induction l with
    | nil => intro out; simp
    | cons x l ih =>
      intro out
      rw [List.foldl_cons]
      have h1 := ih (mstep out x)
      have h2 : (mstep out x).length ≤ out.length + 1 := by
        by_cases h0 : xS x = 0
        · rw [mstep_zero h0]; omega
        rcases nil_or_snoc out with rfl | ⟨o, y, rfl⟩
        · rw [mstep_nil h0]; simp
        · cases hm : xMelds y x with
          | true => rw [mstep_yes h0 hm]; simp
          | false => rw [mstep_no h0 hm]; simp
      simp only [List.length_cons]; omega
  simpa [meldL] using key l []
theorem canon_len {xs ys : List X} (h : Canon xs) (e : ids xs = ids ys) : xs.length ≤ ys.length := by
  rw [canon_uniq h (canon_meld ys) (by rw [ids_meld, e])]
  exact meld_len ys
end Go.Proofs.Ytbmdbjnkkbefmaa
