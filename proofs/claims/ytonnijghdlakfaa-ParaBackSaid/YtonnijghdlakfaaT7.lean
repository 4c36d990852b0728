/-
Things melded: what may be one is one, what has no size is left out.
-/
import Derived.Test.YtonnijghdlakfaaT6
namespace Go.Proofs.Ytonnijghdlakfaa
open Go Go.RowKit
def mstep (out : List X) (x : X) : List X :=
  if xS x = 0 then out else match out.getLast? with
  | none => [x]
  | some y => if xMelds y x = true then out.dropLast ++ [xMeld y x] else out ++ [x]
def meldL (l : List X) : List X := l.foldl mstep []
theorem mstep_zero {out : List X} {x : X} (h : xS x = 0) : mstep out x = out := if_pos h
theorem mstep_nil {x : X} (h : xS x ≠ 0) : mstep [] x = [x] := by unfold mstep; rw [if_neg h]; rfl
theorem mstep_yes {o : List X} {x y : X} (h : xS x ≠ 0) (hm : xMelds y x = true) : mstep (o ++ [y]) x = o ++ [xMeld y x] := by unfold mstep; rw [if_neg h]; simp [hm]
theorem mstep_no {o : List X} {x y : X} (h : xS x ≠ 0) (hm : xMelds y x = false) : mstep (o ++ [y]) x = o ++ [y] ++ [x] := by unfold mstep; rw [if_neg h]; simp [hm]
/-- what holds of what is melded so far -/
structure Md (out : List X) (s m n : Nat) : Prop where
  ok : ∀ x ∈ out, xOk x
  ps : Ps out
  szE : sz out = s
  mksE : mks out ≤ m
  lenE : out.length ≤ n
theorem Md.step {out : List X} {s m n : Nat} {x : X} (h : Md out s m n) (hx : xOk x) (hb : s + xS x ≤ 1000000000000) : Md (mstep out x) (s + xS x) (m + xM x) (n + 1) := by
  by_cases h0 : xS x = 0
  · rw [mstep_zero h0]
    exact ⟨h.ok, h.ps, by have := h.szE; omega, by have := h.mksE; omega, by have := h.lenE; omega⟩
  rcases List.eq_nil_or_concat out with rfl | ⟨o, y, rfl⟩
  · rw [mstep_nil h0]
    have h1 := h.szE
    simp only [sz] at h1
    refine ⟨by simpa using hx, fun z hz => by simp at hz; rw [hz]; omega, by simp [sz]; omega, by simp [mks], by simp⟩
  · rw [List.concat_eq_append] at h ⊢
    have h1 := h.szE
    have h2 := h.mksE
    have h3 := h.lenE
    have hy := h.ok y (by simp)
    simp only [sz_app, mks_app, sz, mks, List.length_append, List.length_cons, List.length_nil] at h1 h2 h3
    cases hm : xMelds y x with
    | true =>
      rw [mstep_yes h0 hm]
      have e1 := xS_meld hm
      have e2 := xM_meld (a := y) (b := x)
      refine ⟨fun z hz => ?_, fun z hz => ?_, by simp only [sz_app, sz]; omega, by simp only [mks_app, mks]; omega, by simp; omega⟩
      · rcases List.mem_append.1 hz with h4 | h4
        · exact h.ok z (by simp [h4])
        · simp at h4; rw [h4]; exact hy.meld hx (by omega)
      · rcases List.mem_append.1 hz with h4 | h4
        · exact h.ps z (by simp [h4])
        · simp at h4; rw [h4, e1]; omega
    | false =>
      rw [mstep_no h0 hm]
      refine ⟨fun z hz => ?_, fun z hz => ?_, by simp only [sz_app, sz]; omega, by simp only [mks_app, mks]; omega, by simp; omega⟩
      · rcases List.mem_append.1 hz with h4 | h4
        · exact h.ok z h4
        · simp at h4; rw [h4]; exact hx
      · rcases List.mem_append.1 hz with h4 | h4
        · exact h.ps z h4
        · simp at h4; rw [h4]; omega
theorem Md.nil : Md [] 0 0 0 := ⟨by simp, by simp [Ps], rfl, Nat.le_refl _, Nat.le_refl _⟩
theorem Md.fold : ∀ (l : List X) {out : List X} {s m n : Nat}, Md out s m n → (∀ x ∈ l, xOk x) → s + sz l ≤ 1000000000000 → Md (l.foldl mstep out) (s + sz l) (m + mks l) (n + l.length)
  | [], out, s, m, n, h, _, _ => by simpa [sz, mks] using h
  | x :: l, out, s, m, n, h, ho, hb => by
    simp only [sz] at hb
    have h1 := h.step (ho x (by simp)) (by omega)
    have h2 := Md.fold l h1 (fun y hy => ho y (by simp [hy])) (by omega)
    simp only [List.foldl_cons, sz, mks, List.length_cons]
    rw [show s + (xS x + sz l) = s + xS x + sz l by omega, show m + (xM x + mks l) = m + xM x + mks l by omega, show n + (l.length + 1) = n + 1 + l.length by omega]
    exact h2
theorem Md.meld {l : List X} (ho : ∀ x ∈ l, xOk x) (hb : sz l ≤ 1000000000000) : Md (meldL l) (sz l) (mks l) l.length := by
  have h := Md.fold l Md.nil ho (by omega)
  simpa [meldL] using h
/-- things as cells in a row -/
def flat (l : List X) : List Value := l.flatMap fun x => (xC x).toList
abbrev XRow (v : Value) (l : List X) : SProp := Row 38 KX v l.length (flat l)
theorem flat_app {a b : List X} : flat (a ++ b) = flat a ++ flat b := by simp [flat]
theorem xflat_one {x : X} : flat [x] = (xC x).toList := by simp [flat]
theorem flat_ones {l : List X} (ho : ∀ x ∈ l, xOk x) : ∀ u ∈ flat l, u.oneCell' = true := by
  intro u hu
  simp only [flat, List.mem_flatMap] at hu
  obtain ⟨x, hx, h1⟩ := hu
  exact (ho x hx).cells.one u h1
theorem flat_length {l : List X} (ho : ∀ x ∈ l, xOk x) : (flat l).length = l.length * KX := flat_len _ KX l fun x hx => by simp [(ho x hx).cells.size]
theorem row_bound {i n cap k : Nat} (h : i < n) (hc : n ≤ cap) : i * k + k ≤ cap * k := by
  have h1 : (i + 1) * k ≤ cap * k := Nat.mul_le_mul_right _ (by omega)
  rwa [Nat.succ_mul] at h1
theorem row_thing {k : Nat} {v : Value} {l : List X} {g cap : Nat} {cur : Array Value} (hr : RowAt k v l.length (flat l) g cap cur) (hs : ∀ x ∈ l, (xC x).size = k) {i : Nat} {x : X} (hi : l[i]? = some x) :
    i * k + k ≤ cur.size ∧ cur.extract (i * k) (i * k + k) = xC x := by
  have hlt := (List.getElem?_eq_some_iff.1 hi).1
  have hxs := hs x (List.mem_of_getElem? hi)
  have hle : i * k + k ≤ cur.size := by rw [hr.size]; exact row_bound hlt hr.le
  refine ⟨hle, ?_⟩
  apply Array.ext_getElem?
  intro j
  rw [Array.getElem?_extract]
  by_cases hj : j < k
  · rw [if_pos (by omega)]
    have h1 := (flat_get (fun x => (xC x).toList) k l (fun y hy => by simp [hs y hy]) i j x hi hj).trans (Array.getElem?_toList (xs := xC x))
    have h2 : j < (xC x).size := by omega
    rw [Array.getElem?_eq_getElem h2] at h1 ⊢
    exact hr.get h1
  · rw [if_neg (by omega), Array.getElem?_eq_none (by omega)]
theorem RowAt.thing {v : Value} {l : List X} {g cap : Nat} {cur : Array Value} (hr : RowAt KX v l.length (flat l) g cap cur) (ho : ∀ x ∈ l, xOk x) {i : Nat} {x : X} (hi : l[i]? = some x) :
    i * KX + KX ≤ cur.size ∧ cur.extract (i * KX) (i * KX + KX) = xC x := row_thing hr (fun x hx => (ho x hx).cells.size) hi
theorem row_last {k : Nat} {v : Value} {o : List X} {y z : X} {g cap : Nat} {cur : Array Value} (hr : RowAt k v (o ++ [y]).length (flat (o ++ [y])) g cap cur) (hs : ∀ x ∈ o ++ [y], (xC x).size = k) (hz : (xC z).size = k) :
    RowAt k v (o ++ [z]).length (flat (o ++ [z])) g cap (cur.toList.take (o.length * k) ++ (xC z).toList ++ cur.toList.drop (o.length * k + k)).toArray := by
  have hlo : (flat o).length = o.length * k := flat_len _ k o fun x hx => by simp [hs x (by simp [hx])]
  have hly := hs y (by simp)
  have h1 := hr.splice (o.length * k) (xC z).toList (m := k) (by simp [hz]) (by simp [Nat.add_mul])
  have e : (flat (o ++ [y])).take (o.length * k) ++ (xC z).toList ++ (flat (o ++ [y])).drop (o.length * k + k) = flat (o ++ [z]) := by
    rw [flat_app, xflat_one, flat_app, xflat_one, List.take_append_of_le_length (by omega), List.take_of_length_le (by omega), List.drop_eq_nil_of_le (by simp [hlo]; omega), List.append_nil]
  rw [e] at h1
  simpa using h1
theorem RowAt.lastSet {v : Value} {o : List X} {y z : X} {g cap : Nat} {cur : Array Value} (hr : RowAt KX v (o ++ [y]).length (flat (o ++ [y])) g cap cur) (ho : ∀ x ∈ o ++ [y], xOk x) (hz : xOk z) :
    o.length * KX + KX ≤ cur.size ∧ RowAt KX v (o ++ [z]).length (flat (o ++ [z])) g cap (cur.toList.take (o.length * KX) ++ (xC z).toList ++ cur.toList.drop (o.length * KX + KX)).toArray :=
  ⟨(hr.thing ho (i := o.length) (x := y) (by simp)).1, row_last hr (fun x hx => (ho x hx).cells.size) hz.cells.size⟩
theorem one_thing {cur : Array Value} {i : Nat} {x : X} (h : i * KX + KX ≤ cur.size ∧ cur.extract (i * KX) (i * KX + KX) = xC x) : cur[i * 1]? = some x := by
  have h1 : i * 1 + 1 ≤ cur.size := h.1
  have h2 : cur.extract (i * 1) (i * 1 + 1) = #[x] := h.2
  have e := congrArg (fun a : Array Value => a[0]?) h2
  simp only [Array.getElem?_extract] at e
  rw [if_pos (by omega)] at e
  exact e
theorem one_put {cur : Array Value} {i : Nat} {z : X} (h : i * KX + KX ≤ cur.size) : cur.setIfInBounds (i * 1) z = (cur.toList.take (i * KX) ++ (xC z).toList ++ cur.toList.drop (i * KX + KX)).toArray := by
  have h1 : i * 1 + 1 ≤ cur.size := h
  show cur.setIfInBounds (i * 1) z = (cur.toList.take (i * 1) ++ [z] ++ cur.toList.drop (i * 1 + 1)).toArray
  apply Array.ext'
  rw [Array.toList_setIfInBounds]
  have hl : i * 1 < cur.toList.length := by simp; omega
  rw [List.append_assoc]
  exact List.set_eq_take_append_cons_drop.trans (if_pos hl)
theorem foldl_take {α β : Type} (f : β → α → β) (b : β) (l : List α) {k : Nat} {x : α} (h : l[k]? = some x) : (l.take (k + 1)).foldl f b = f ((l.take k).foldl f b) x := by
  rw [List.take_add_one, h, List.foldl_append]; rfl
end Go.Proofs.Ytonnijghdlakfaa
