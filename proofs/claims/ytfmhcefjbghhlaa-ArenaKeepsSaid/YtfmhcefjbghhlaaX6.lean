/-
An arena's memory, whatever its things; nodes of trees.
-/
import Derived.Test.YtfmhcefjbghhlaaX5
namespace Go.Proofs.Ytfmhcefjbghhlaa
open Go Go.RowKit

/-- the cells of a place: of a thing of several cells, or that it is free -/
def placeC (z : Array Value) : Option (Array Value) → List Value
  | some c => c.toList ++ [.bool true]
  | none => z.toList ++ [.bool false]

def placesC (z : Array Value) (pl : List (Option (Array Value))) : List Value := pl.flatMap (placeC z)

theorem nodup_le : ∀ (n : Nat) (l : List Nat), l.Nodup → (∀ i ∈ l, i < n) → l.length ≤ n
  | 0, l, _, h => by
    cases l with
    | nil => simp
    | cons a l => have := h a (by simp); omega
  | n + 1, l, hn, h => by
    have ih := nodup_le n (l.erase n) (hn.erase n) fun i hi => by
      have h1 := (hn.mem_erase_iff).1 hi
      have := h i h1.2; have := h1.1; omega
    by_cases hm : n ∈ l
    · rw [List.length_erase_of_mem hm] at ih; omega
    · rw [List.erase_of_not_mem hm] at ih; omega

structure PlOk (k : Nat) (z : Array Value) (pl : List (Option (Array Value))) (fr : List Nat) : Prop where
  zero : Ok k z
  thing : ∀ (i : Nat) (c : Array Value), pl[i]? = some (some c) → Ok k c
  free : ∀ i ∈ fr, pl[i]? = some none
  nodup : fr.Nodup

def frC (fr : List Nat) : List Value := fr.map fun (i : Nat) => Value.int .i64 (i : Int)

theorem placeC_len {k : Nat} {z : Array Value} {p : Option (Array Value)} (hz : Ok k z) (h : ∀ c, p = some c → Ok k c) : (placeC z p).length = k + 1 := by
  cases p with
  | none => simp [placeC, hz.size]
  | some c => simp [placeC, (h c rfl).size]

/-- a list of pieces of one length -/
theorem flat_get {α β : Type} (f : α → List β) (s : Nat) : ∀ (l : List α), (∀ a ∈ l, (f a).length = s) → ∀ (i j : Nat) (a : α), l[i]? = some a → j < s → (l.flatMap f)[i * s + j]? = (f a)[j]?
  | [], _, i, j, a, hi, _ => by simp at hi
  | b :: l, hl, 0, j, a, hi, hj => by
    simp at hi; subst hi
    simp only [List.flatMap_cons, Nat.zero_mul, Nat.zero_add]
    rw [List.getElem?_append_left (by rw [hl b (by simp)]; exact hj)]
  | b :: l, hl, i + 1, j, a, hi, hj => by
    have h0 := hl b (by simp)
    simp only [List.flatMap_cons]
    rw [List.getElem?_append_right (by rw [h0, Nat.add_mul]; omega)]
    rw [show (i + 1) * s + j - (f b).length = i * s + j by rw [h0, Nat.add_mul]; omega]
    exact flat_get f s l (fun a ha => hl a (by simp [ha])) i j a (by simpa using hi) hj
theorem flat_len {α β : Type} (f : α → List β) (s : Nat) : ∀ (l : List α), (∀ a ∈ l, (f a).length = s) → (l.flatMap f).length = l.length * s
  | [], _ => by simp
  | b :: l, hl => by
    rw [List.flatMap_cons, List.length_append, hl b (by simp), flat_len f s l (fun a ha => hl a (by simp [ha])), List.length_cons, Nat.add_mul]; omega
theorem flat_set {α β : Type} (f : α → List β) (s : Nat) : ∀ (l : List α), (∀ a ∈ l, (f a).length = s) → ∀ (i : Nat) (a : α), i < l.length → (l.flatMap f).take (i * s) ++ f a ++ (l.flatMap f).drop (i * s + s) = (l.set i a).flatMap f
  | [], _, i, a, hi => by simp at hi
  | b :: l, hl, 0, a, _ => by
    have h0 := hl b (by simp)
    simp only [List.flatMap_cons, Nat.zero_mul, List.take_zero, List.nil_append, Nat.zero_add, List.set_cons_zero]
    rw [← h0, List.drop_left]
  | b :: l, hl, i + 1, a, hi => by
    have h0 := hl b (by simp)
    have ih := flat_set f s l (fun a ha => hl a (by simp [ha])) i a (by simpa using hi)
    simp only [List.flatMap_cons, List.set_cons_succ]
    rw [← ih, List.take_append, List.drop_append, List.take_of_length_le (by rw [h0, Nat.add_mul]; omega), List.drop_eq_nil_of_le (by rw [h0, Nat.add_mul]; omega)]
    rw [show (i + 1) * s - (f b).length = i * s by rw [h0, Nat.add_mul]; omega, show (i + 1) * s + s - (f b).length = i * s + s by rw [h0, Nat.add_mul]; omega]
    simp

section
variable {k : Nat} {z : Array Value} {pl : List (Option (Array Value))} {fr : List Nat}
theorem PlOk.lens (h : PlOk k z pl fr) : ∀ p ∈ pl, (placeC z p).length = k + 1 := fun p hp => by
  obtain ⟨i, hi, he⟩ := List.mem_iff_getElem.1 hp
  exact placeC_len h.zero fun c hc => h.thing i c (by rw [List.getElem?_eq_getElem hi, he, hc])
theorem PlOk.len (h : PlOk k z pl fr) : (placesC z pl).length = pl.length * (k + 1) := flat_len _ _ _ h.lens
theorem PlOk.get (h : PlOk k z pl fr) {i j : Nat} {p : Option (Array Value)} (hi : pl[i]? = some p) (hj : j < k + 1) : (placesC z pl)[i * (k + 1) + j]? = (placeC z p)[j]? := flat_get _ _ _ h.lens i j p hi hj
theorem PlOk.taken (h : PlOk k z pl fr) {i : Nat} {c : Array Value} (hi : pl[i]? = some (some c)) : (placesC z pl)[i * (k + 1) + k]? = some (.bool true) := by
  rw [h.get hi (by omega)]
  have := (h.thing i c hi).size
  simp [placeC, this]
theorem PlOk.untaken (h : PlOk k z pl fr) {i : Nat} (hi : pl[i]? = some none) : (placesC z pl)[i * (k + 1) + k]? = some (.bool false) := by
  rw [h.get hi (by omega)]
  simp [placeC, h.zero.size]
theorem PlOk.cells (h : PlOk k z pl fr) {i j : Nat} {c : Array Value} (hi : pl[i]? = some (some c)) (hj : j < k) : (placesC z pl)[i * (k + 1) + j]? = c[j]? := by
  rw [h.get hi (by omega)]
  have := (h.thing i c hi).size
  rw [placeC, List.getElem?_append_left (by simp; omega)]
  simp
theorem PlOk.set (h : PlOk k z pl fr) {i : Nat} {c : Array Value} (hc : Ok k c) (hi : i ∉ fr) : PlOk k z (pl.set i (some c)) fr := by
  refine ⟨h.zero, fun j c' hj => ?_, fun j hj => ?_, h.nodup⟩
  · by_cases e : i = j
    · subst e
      rw [List.getElem?_set] at hj
      simp at hj
      rw [← hj.2]; exact hc
    · rw [List.getElem?_set_ne e] at hj; exact h.thing j c' hj
  · have : i ≠ j := fun e => hi (e ▸ hj)
    rw [List.getElem?_set_ne this]; exact h.free j hj
theorem PlOk.notFree (h : PlOk k z pl fr) {i : Nat} {c : Array Value} (hi : pl[i]? = some (some c)) : i ∉ fr := fun hf => by
  rw [h.free i hf] at hi; cases hi
/-- the thing of a place that is taken is overwritten -/
theorem PlOk.put (h : PlOk k z pl fr) {i : Nat} {c c' : Array Value} (hi : pl[i]? = some (some c)) : (placesC z pl).take (i * (k + 1)) ++ c'.toList ++ (placesC z pl).drop (i * (k + 1) + k) = placesC z (pl.set i (some c')) := by
  have hlt := (List.getElem?_eq_some_iff.1 hi).1
  have h1 := flat_set (placeC z) (k + 1) pl h.lens i (some c') hlt
  unfold placesC at *
  rw [← h1]
  have ht : (pl.flatMap (placeC z))[i * (k + 1) + k]? = some (.bool true) := h.taken hi
  have hl := (List.getElem?_eq_some_iff.1 ht).1
  rw [List.drop_eq_getElem_cons hl, (List.getElem?_eq_some_iff.1 ht).2]
  simp only [placeC, List.append_assoc, List.cons_append, List.nil_append]
  rfl
theorem PlOk.extract (h : PlOk k z pl fr) {v : Value} {g cap : Nat} {cur : Array Value} (hr : RowAt (k + 1) v pl.length (placesC z pl) g cap cur) {i : Nat} {c : Array Value} (hi : pl[i]? = some (some c)) :
    i * (k + 1) + k ≤ cur.size ∧ cur.extract (i * (k + 1)) (i * (k + 1) + k) = c := by
  have hlt := (List.getElem?_eq_some_iff.1 hi).1
  have hsz := hr.size
  have hcap : (i + 1) * (k + 1) ≤ cap * (k + 1) := Nat.mul_le_mul_right _ (by have := hr.le; omega)
  rw [Nat.add_mul] at hcap
  have hle : i * (k + 1) + k ≤ cur.size := by omega
  refine ⟨hle, ?_⟩
  apply Array.ext_getElem?
  intro j
  rw [Array.getElem?_extract]
  have hc := (h.thing i c hi).size
  by_cases hj : j < k
  · rw [if_pos (by omega)]
    have h1 := h.cells hi hj
    have h2 : j < c.size := by omega
    rw [Array.getElem?_eq_getElem h2] at h1 ⊢
    exact hr.get h1
  · rw [if_neg (by omega), Array.getElem?_eq_none (by omega)]

theorem PlOk.grow (h : PlOk k z pl []) {c : Array Value} (hc : Ok k c) : PlOk k z (pl ++ [some c]) [] := by
  refine ⟨h.zero, fun i c' hi => ?_, fun i hi => by simp at hi, List.nodup_nil⟩
  rcases Nat.lt_trichotomy i pl.length with h1 | h1 | h1
  · rw [List.getElem?_append_left h1] at hi; exact h.thing i c' hi
  · subst h1; simp at hi; rw [← hi]; exact hc
  · rw [List.getElem?_eq_none (by simp; omega)] at hi; cases hi
theorem placesC_snoc {c : Array Value} : placesC z (pl ++ [some c]) = placesC z pl ++ (c ++ #[Value.bool true]).toList := by
  simp [placesC, placeC]
theorem PlOk.reuse {j : Nat} (h : PlOk k z pl (fr ++ [j])) {c : Array Value} (hc : Ok k c) : PlOk k z (pl.set j (some c)) fr := by
  have hn := List.nodup_append.1 h.nodup
  have h0 : PlOk k z pl fr := ⟨h.zero, h.thing, fun i hi => h.free i (by simp [hi]), hn.1⟩
  exact h0.set hc fun hj => hn.2.2 j hj j (by simp) rfl
theorem PlOk.unset (h : PlOk k z pl fr) {i : Nat} {c : Array Value} (hi : pl[i]? = some (some c)) : PlOk k z (pl.set i none) (fr ++ [i]) := by
  have hlt := (List.getElem?_eq_some_iff.1 hi).1
  refine ⟨h.zero, fun j c' hj => ?_, fun j hj => ?_, ?_⟩
  · by_cases e : i = j
    · subst e; rw [List.getElem?_set] at hj; simp at hj
    · rw [List.getElem?_set_ne e] at hj; exact h.thing j c' hj
  · by_cases e : i = j
    · subst e; rw [List.getElem?_set]; simp [hlt]
    · rw [List.getElem?_set_ne e]
      rcases List.mem_append.1 hj with h1 | h1
      · exact h.free j h1
      · simp at h1; exact absurd h1.symm e
  · rw [List.nodup_append]
    refine ⟨h.nodup, by simp, fun a ha b hb => ?_⟩
    simp at hb; subst hb
    exact fun e => h.notFree hi (e ▸ ha)
theorem PlOk.freeAt (h : PlOk k z pl fr) {i : Nat} (hi : i < pl.length) : (placesC z pl).take (i * (k + 1)) ++ (z.toList ++ [Value.bool false]) ++ (placesC z pl).drop (i * (k + 1) + (k + 1)) = placesC z (pl.set i none) :=
  flat_set (placeC z) (k + 1) pl h.lens i none hi
theorem PlOk.takeAt (h : PlOk k z pl fr) {i : Nat} {c : Array Value} (hi : i < pl.length) : (placesC z pl).take (i * (k + 1)) ++ (c ++ #[Value.bool true]).toList ++ (placesC z pl).drop (i * (k + 1) + (k + 1)) = placesC z (pl.set i (some c)) := by
  have := flat_set (placeC z) (k + 1) pl h.lens i (some c) hi
  unfold placesC
  rw [← this]
  simp [placeC]
theorem frC_snoc {j : Nat} : frC (fr ++ [j]) = frC fr ++ [Value.int .i64 (j : Int)] := by simp [frC]
theorem frC_len : (frC fr).length = fr.length := by simp [frC]
theorem PlOk.frLen (h : PlOk k z pl fr) : fr.length ≤ pl.length := by
  exact nodup_le _ _ h.nodup fun i hi => (List.getElem?_eq_some_iff.1 (h.free i hi)).1
theorem PlOk.le {v : Value} {g cap : Nat} {cur : Array Value} (_h : PlOk k z pl fr) (hr : RowAt (k + 1) v pl.length (placesC z pl) g cap cur) {i : Nat} (hi : i < pl.length) : i * (k + 1) + (k + 1) ≤ cur.size := by
  have hcap : (i + 1) * (k + 1) ≤ cap * (k + 1) := Nat.mul_le_mul_right _ (by have := hr.le; omega)
  rw [Nat.add_mul] at hcap
  have := hr.size
  omega
theorem Ok.place_one {c : Array Value} {b : Bool} (h : Ok k c) : ∀ v ∈ (c ++ #[Value.bool b]).toList, v.oneCell' = true := by
  intro v hv
  simp only [Array.toList_append, List.mem_append] at hv
  rcases hv with h1 | h1
  · exact h.one v h1
  · simp at h1; subst h1; rfl
theorem Ok.place {c : Array Value} {b : Bool} (h : Ok k c) : Ok (1 * (k + 1)) (c ++ #[Value.bool b]) := ⟨by simp [h.size], h.place_one⟩
theorem Ok.int1 {a : Int} : Ok 1 #[Value.int .i64 a] := ⟨rfl, by simp [Value.oneCell']⟩
end

/-- an arena: its two slices, what they hold. TA, TP: the types of the struct and of a place; k: how many cells a thing has -/
def Arena (TA TP : TypeId) (k : Nat) (z : Array Value) (b : Nat) (pl : List (Option (Array Value))) (fr : List Nat) : SProp :=
  sex fun ps : Value => sex fun fs : Value => star (Cells b #[ps, fs] TA) (star (Row TP (k + 1) ps pl.length (placesC z pl)) (star (Row 3 1 fs fr.length (frC fr)) (spure (PlOk k z pl fr))))

section
variable {E : Env} {w : World} {L : List SProp} {TA TP : TypeId} {k : Nat} {z : Array Value} {b : Nat} {pl : List (Option (Array Value))} {fr : List Nat}
theorem SatL.openArena (h : SatL E w (Arena TA TP k z b pl fr :: L)) : ∃ ps fs, PlOk k z pl fr ∧ SatL E w (Cells b #[ps, fs] TA :: Row TP (k + 1) ps pl.length (placesC z pl) :: Row 3 1 fs fr.length (frC fr) :: L) := by
  obtain ⟨ps, h⟩ := h.openEx
  obtain ⟨fs, h⟩ := h.openEx
  have h1 := h.open.f1.open.f1.open.f1
  exact ⟨ps, fs, h1.pure.1, h1.pure.2.f1.f2⟩
theorem SatL.closeArena {ps fs : Value} (hp : PlOk k z pl fr) (h : SatL E w (Cells b #[ps, fs] TA :: Row TP (k + 1) ps pl.length (placesC z pl) :: Row 3 1 fs fr.length (frC fr) :: L)) : SatL E w (Arena TA TP k z b pl fr :: L) := by
  exact ((((h.addPure hp).f3.close.f2.close.f1.close).closeEx fs).closeEx ps)

theorem SatL.closePut {ps fs : Value} {g cap : Nat} {cur : Array Value} {i : Nat} {c c' : Array Value} (hp : PlOk k z pl fr) (hr : RowAt (k + 1) ps pl.length (placesC z pl) g cap cur) (hi : pl[i]? = some (some c)) (hc : Ok k c')
    (h : SatL E w (Cells g (cur.toList.take (i * (k + 1)) ++ c'.toList ++ cur.toList.drop (i * (k + 1) + k)).toArray TP :: Cells b #[ps, fs] TA :: Row 3 1 fs fr.length (frC fr) :: L)) : SatL E w (Arena TA TP k z b (pl.set i (some c')) fr :: L) := by
  have hlt := (List.getElem?_eq_some_iff.1 hi).1
  have hle : (i + 1) * (k + 1) ≤ pl.length * (k + 1) := Nat.mul_le_mul_right _ hlt
  rw [Nat.add_mul] at hle
  have hr2 := hr.splice (i * (k + 1)) c'.toList (m := k) (by simp [hc.size]) (by omega)
  rw [hp.put hi] at hr2
  have hl : (pl.set i (some c')).length = pl.length := List.length_set
  refine SatL.closeArena (ps := ps) (fs := fs) (hp.set hc (hp.notFree hi)) ?_
  rw [hl]
  exact (h.closeRow hr2).f1

/-- a whole place is written -/
theorem SatL.closePlace {ps fs : Value} {g cap : Nat} {cur : Array Value} {i : Nat} {p : Option (Array Value)} {us : List Value} {fr' : List Nat} (hr : RowAt (k + 1) ps pl.length (placesC z pl) g cap cur)
    (hus : us.length = k + 1) (hi : i < pl.length) (he : (placesC z pl).take (i * (k + 1)) ++ us ++ (placesC z pl).drop (i * (k + 1) + (k + 1)) = placesC z (pl.set i p)) (hp' : PlOk k z (pl.set i p) fr')
    (h : SatL E w (Cells g (cur.toList.take (i * (k + 1)) ++ us ++ cur.toList.drop (i * (k + 1) + (k + 1))).toArray TP :: Cells b #[ps, fs] TA :: Row 3 1 fs fr'.length (frC fr') :: L)) : SatL E w (Arena TA TP k z b (pl.set i p) fr' :: L) := by
  have hle : (i + 1) * (k + 1) ≤ pl.length * (k + 1) := Nat.mul_le_mul_right _ hi
  rw [Nat.add_mul] at hle
  have hr2 := hr.splice (i * (k + 1)) us hus (by omega)
  rw [he] at hr2
  have hl : (pl.set i p).length = pl.length := List.length_set
  refine SatL.closeArena (ps := ps) (fs := fs) hp' ?_
  rw [hl]
  exact (h.closeRow hr2).f1
end
end Go.Proofs.Ytfmhcefjbghhlaa
