/-
Memory as a list of assertions over disjoint pieces of the heap.
-/
import Derived.Test.YtfmhcefjbghhlaaX1
import Derived.Laws.AppendOwn
namespace Go.Proofs.Ytfmhcefjbghhlaa
open Go Go.RowKit

abbrev Frag := Nat → Option Obj
abbrev SProp := Frag → Prop

structure Env where
  os : Os
  tape : Nat → Question → Nat
  output : Array (Nat × ByteArray)

def Sub (m : Frag) (h : Array Obj) : Prop := ∀ k o, m k = some o → h[k]? = some o

def Sats (h : Array Obj) : List SProp → (Nat → Prop) → Prop
  | [], _ => True
  | A :: L, U => ∃ m : Frag, A m ∧ Sub m h ∧ (∀ k, m k ≠ none → ¬ U k) ∧ Sats h L (fun k => U k ∨ m k ≠ none)

structure SatL (E : Env) (w : World) (L : List SProp) : Prop where
  os : w.os = E.os
  tape : w.tape = E.tape
  output : w.output = E.output
  heap : Sats w.heap L (fun _ => False)

theorem Sub.lt {m : Frag} {h : Array Obj} (hs : Sub m h) {k : Nat} (hk : m k ≠ none) : k < h.size := by
  cases e : m k with
  | none => exact absurd e hk
  | some o => exact (Array.getElem?_eq_some_iff.1 (hs k o e)).1

/-- the tail goes over to another heap and another used set -/
theorem Sats.upd {h h' : Array Obj} : ∀ {L : List SProp} {V V' : Nat → Prop}, Sats h L V → (∀ k o, ¬ V k → h[k]? = some o → h'[k]? = some o) → (∀ k, V' k → V k ∨ h.size ≤ k) → Sats h' L V'
  | [], _, _, _, _, _ => trivial
  | _ :: _, V, V', ⟨m, hA, hs, hd, ht⟩, hh, hv => by
    refine ⟨m, hA, fun k o hk => hh k o (hd k (by rw [hk]; simp)) (hs k o hk), fun k hk hV => ?_, ?_⟩
    · rcases hv k hV with h1 | h1
      · exact hd k hk h1
      · have := hs.lt hk; omega
    · refine Sats.upd ht (fun k o hk => hh k o (fun hV => hk (.inl hV))) ?_
      intro k hk
      rcases hk with h1 | h1
      · rcases hv k h1 with h2 | h2
        · exact .inl (.inl h2)
        · exact .inr h2
      · exact .inl (.inr h1)

theorem Sats.mono {h : Array Obj} {L : List SProp} {V V' : Nat → Prop} (hs : Sats h L V) (hv : ∀ k, V' k → V k) : Sats h L V' :=
  hs.upd (fun _ _ _ h => h) (fun k hk => .inl (hv k hk))

theorem Sats.swap {h : Array Obj} {A B : SProp} {L : List SProp} {V : Nat → Prop} (hs : Sats h (A :: B :: L) V) : Sats h (B :: A :: L) V := by
  obtain ⟨m, hA, sA, dA, m', hB, sB, dB, ht⟩ := hs
  refine ⟨m', hB, sB, fun k hk hV => dB k hk (.inl hV), m, hA, sA, fun k hk hV => ?_, ht.mono fun k hk => ?_⟩
  · rcases hV with h1 | h1
    · exact dA k hk h1
    · exact dB k h1 (.inr hk)
  · rcases hk with (h1 | h1) | h1
    · exact .inl (.inl h1)
    · exact .inr h1
    · exact .inl (.inr h1)

theorem Sats.cons_mono {h : Array Obj} {A : SProp} {L L' : List SProp} {V : Nat → Prop} (hl : ∀ V, Sats h L V → Sats h L' V) (hs : Sats h (A :: L) V) : Sats h (A :: L') V :=
  let ⟨m, hA, s, d, ht⟩ := hs
  ⟨m, hA, s, d, hl _ ht⟩

theorem Sats.perm {h : Array Obj} {L L' : List SProp} (hp : L.Perm L') : ∀ V, Sats h L V → Sats h L' V := by
  induction hp with
  | nil => exact fun _ h => h
  | cons a _ ih => exact fun V hs => Sats.cons_mono ih hs
  | swap a b l => exact fun V hs => hs.swap
  | trans _ _ ih1 ih2 => exact fun V hs => ih2 V (ih1 V hs)

theorem Sats.drop {h : Array Obj} {A : SProp} {L : List SProp} {V : Nat → Prop} (hs : Sats h (A :: L) V) : Sats h L V :=
  let ⟨_, _, _, _, ht⟩ := hs
  ht.mono fun _ hk => .inl hk

/-- the item at k to the front -/
def toFront (k : Nat) (L : List SProp) : List SProp := match L[k]? with | some A => A :: L.eraseIdx k | none => L

theorem toFront_perm : ∀ (L : List SProp) (k : Nat), L.Perm (toFront k L)
  | [], k => by simp [toFront]
  | A :: L, 0 => by simp [toFront]
  | A :: L, k + 1 => by
    have ih := toFront_perm L k
    unfold toFront at *
    simp only [List.getElem?_cons_succ, List.eraseIdx_cons_succ]
    cases e : L[k]? with
    | none => exact List.Perm.refl _
    | some B =>
      rw [e] at ih
      exact (List.Perm.cons A ih).trans (List.Perm.swap B A _)

section
variable {E : Env} {w : World} {L : List SProp}

theorem SatL.perm {L' : List SProp} (h : SatL E w L) (hp : L.Perm L') : SatL E w L' := ⟨h.os, h.tape, h.output, Sats.perm hp _ h.heap⟩
theorem SatL.front (h : SatL E w L) (k : Nat) : SatL E w (toFront k L) := h.perm (toFront_perm L k)
theorem SatL.drop {A : SProp} (h : SatL E w (A :: L)) : SatL E w L := ⟨h.os, h.tape, h.output, h.heap.drop⟩
theorem SatL.swap {A B : SProp} (h : SatL E w (A :: B :: L)) : SatL E w (B :: A :: L) := ⟨h.os, h.tape, h.output, h.heap.swap⟩
theorem SatL.drew (h : SatL E w L) : SatL E w.drew L := ⟨h.os, h.tape, h.output, h.heap⟩

theorem SatL.imp {A B : SProp} (h : SatL E w (A :: L)) (hi : ∀ m, A m → B m) : SatL E w (B :: L) :=
  ⟨h.os, h.tape, h.output, let ⟨m, hA, s, d, ht⟩ := h.heap; ⟨m, hi m hA, s, d, ht⟩⟩

/-- what one item says of the heap -/
theorem SatL.at {A : SProp} (h : SatL E w L) (k : Nat) (hk : L[k]? = some A) : ∃ m, A m ∧ Sub m w.heap := by
  have h1 := h.front k
  unfold toFront at h1
  rw [hk] at h1
  obtain ⟨m, hA, s, _, _⟩ := h1.heap
  exact ⟨m, hA, s⟩

/-- separating conjunction as one item -/
def star (A B : SProp) : SProp := fun m => ∃ m1 m2 : Frag, A m1 ∧ B m2 ∧ (∀ k, m1 k = none ∨ m2 k = none) ∧ (∀ k, m k = (m1 k).or (m2 k))

theorem or_ne {a b : Option Obj} : a.or b ≠ none ↔ a ≠ none ∨ b ≠ none := by cases a <;> cases b <;> simp

theorem SatL.open {A B : SProp} (h : SatL E w (star A B :: L)) : SatL E w (A :: B :: L) := by
  obtain ⟨o1, o2, o3, m, ⟨m1, m2, hA, hB, hd, hm⟩, hs, _, ht⟩ := h
  refine ⟨o1, o2, o3, m1, hA, fun k o hk => hs k o (by rw [hm, hk]; rfl), fun _ _ h => h, m2, hB, fun k o hk => hs k o ?_, fun k hk h1 => ?_, ht.mono fun k hk => ?_⟩
  · rw [hm]
    rcases hd k with h1 | h1
    · rw [h1]; exact hk
    · rw [h1] at hk; cases hk
  · rcases h1 with h1 | h1
    · exact h1
    · rcases hd k with h2 | h2
      · exact h1 h2
      · exact hk h2
  · rcases hk with (h1 | h1) | h1
    · exact .inl h1
    · exact .inr (by rw [hm]; exact or_ne.2 (.inl h1))
    · exact .inr (by rw [hm]; exact or_ne.2 (.inr h1))

theorem SatL.close {A B : SProp} (h : SatL E w (A :: B :: L)) : SatL E w (star A B :: L) := by
  obtain ⟨o1, o2, o3, m1, hA, s1, _, m2, hB, s2, d2, ht⟩ := h
  have hd : ∀ k, m1 k = none ∨ m2 k = none := fun k => by
    by_cases h1 : m1 k = none
    · exact .inl h1
    · refine .inr (Classical.byContradiction fun h2 => d2 k h2 (.inr h1))
  refine ⟨o1, o2, o3, fun k => (m1 k).or (m2 k), ⟨m1, m2, hA, hB, hd, fun _ => rfl⟩, fun k o hk => ?_, fun _ _ h => h, ht.mono fun k hk => ?_⟩
  · have hk' : (m1 k).or (m2 k) = some o := hk
    cases e : m1 k with
    | some o' => rw [e] at hk'; cases hk'; exact s1 k _ e
    | none => rw [e] at hk'; exact s2 k o hk'
  · rcases hk with h1 | h1
    · exact h1.elim
    · rcases or_ne.1 h1 with h2 | h2
      · exact .inl (.inr h2)
      · exact .inr h2

def sex {α : Type} (A : α → SProp) : SProp := fun m => ∃ x, A x m
theorem SatL.openEx {α : Type} {A : α → SProp} (h : SatL E w (sex A :: L)) : ∃ x, SatL E w (A x :: L) := by
  obtain ⟨o1, o2, o3, m, ⟨x, hA⟩, hs, hd, ht⟩ := h
  exact ⟨x, o1, o2, o3, m, hA, hs, hd, ht⟩
theorem SatL.closeEx {α : Type} {A : α → SProp} (x : α) (h : SatL E w (A x :: L)) : SatL E w (sex A :: L) := h.imp fun _ hm => ⟨x, hm⟩

def spure (p : Prop) : SProp := fun _ => p
theorem SatL.pure {p : Prop} (h : SatL E w (spure p :: L)) : p ∧ SatL E w L := ⟨let ⟨_, hA, _⟩ := h.heap; hA, h.drop⟩
theorem SatL.addPure {p : Prop} (h : SatL E w L) (hp : p) : SatL E w (spure p :: L) :=
  ⟨h.os, h.tape, h.output, fun _ => none, hp, fun _ _ e => (by cases e), fun _ _ h => h, h.heap.mono fun _ hk => hk.elim id (fun h1 => absurd rfl h1)⟩

/-! one block -/
def pt (b : Nat) (o : Obj) : SProp := fun m => m b = some o
abbrev Cells (b : Nat) (cs : Array Value) (t : TypeId) : SProp := pt b (.cells cs t (0, 0))

theorem SatL.block {b : Nat} {o : Obj} (h : SatL E w L) (k : Nat) (hk : L[k]? = some (pt b o)) : w.heap[b]? = some o := by
  obtain ⟨m, hA, hs⟩ := h.at k hk
  exact hs b o hA

theorem SatL.cell {b i : Nat} {cs : Array Value} {t : TypeId} {v : Value} (h : SatL E w L) (k : Nat) (hk : L[k]? = some (Cells b cs t)) (hv : cs[i]? = some v) : w.cell? ⟨b, i, none⟩ = some v := by
  rw [cell_of_row w b i cs t (0, 0) (h.block k hk)]; exact hv

/-- a new block -/
theorem SatL.alloc (h : SatL E w L) (o : Obj) : SatL E (w.alloc o) (pt w.heap.size o :: L) := by
  refine ⟨h.os, h.tape, h.output, fun k => if k = w.heap.size then some o else none, by simp [pt], fun k o' hk => ?_, fun _ _ h => h, ?_⟩
  · by_cases e : k = w.heap.size
    · subst e; simp at hk; subst hk; exact heap_alloc_new w o
    · simp [e] at hk
  · refine Sats.upd h.heap (fun k o' _ hk => ?_) (fun k hk => ?_)
    · rw [Below.heap_alloc w o k (Array.getElem?_eq_some_iff.1 hk).1]; exact hk
    · rcases hk with h1 | h1
      · exact h1.elim
      · by_cases e : k = w.heap.size
        · exact .inr (by omega)
        · simp [e] at h1

/-- the first item's blocks turned, some may be new -/
theorem SatL.turn {A B : SProp} {w' : World} (h : SatL E w (A :: L)) (ho : w'.os = w.os) (ht : w'.tape = w.tape) (hu : w'.output = w.output)
    (hA : ∀ m, A m → Sub m w.heap → ∃ m', B m' ∧ Sub m' w'.heap ∧ (∀ k, m' k ≠ none → m k ≠ none ∨ w.heap.size ≤ k) ∧ (∀ k o, m k = none → w.heap[k]? = some o → w'.heap[k]? = some o)) : SatL E w' (B :: L) := by
  obtain ⟨o1, o2, o3, m, hm, hs, _, htl⟩ := h
  obtain ⟨m', hB, hs', hk, hh⟩ := hA m hm hs
  refine ⟨ho.trans o1, ht.trans o2, hu.trans o3, m', hB, hs', fun _ _ h => h, Sats.upd htl (fun k o hV hk' => hh k o (Classical.byContradiction fun h1 => hV (.inr h1)) hk') (fun k hV => ?_)⟩
  rcases hV with h1 | h1
  · exact h1.elim
  · rcases hk k h1 with h2 | h2
    · exact .inl (.inr h2)
    · exact .inr h2

theorem SatL.setRow {b : Nat} {cs cs' : Array Value} {t : TypeId} (h : SatL E w (Cells b cs t :: L)) : SatL E (w.setRow b cs') (Cells b cs' t :: L) := by
  refine h.turn rfl rfl rfl fun m hm hs => ⟨fun k => if k = b then some (.cells cs' t (0, 0)) else none, by simp [pt], fun k o hk => ?_, fun k hk => ?_, fun k o hk hk' => ?_⟩
  · by_cases e : k = b
    · subst e; simp at hk; subst hk; exact setRow_heap w k cs _ t _ (hs k _ hm)
    · simp [e] at hk
  · by_cases e : k = b
    · subst e; exact .inl (by rw [show m k = _ from hm]; simp)
    · simp [e] at hk
  · have : k ≠ b := fun e => by rw [e, show m b = _ from hm] at hk; cases hk
    rw [setRow_other w b k cs' this]; exact hk'

theorem SatL.setCell {b i : Nat} {cs : Array Value} {t : TypeId} {v : Value} (h : SatL E w (Cells b cs t :: L)) : SatL E (w.setCell ⟨b, i, none⟩ v) (Cells b (cs.setIfInBounds i v) t :: L) := by
  rw [setCell_eq_setRow w b i cs t (0, 0) v (h.block 0 rfl)]
  exact h.setRow

theorem SatL.lt {b : Nat} {o : Obj} (h : SatL E w L) (k : Nat) (hk : L[k]? = some (pt b o)) : b < w.heap.size := (Array.getElem?_eq_some_iff.1 (h.block k hk)).1

/-- all that was there when a world w0 was met -/
def Old (w0 : World) : SProp := fun m => ∀ k o, w0.heap[k]? = some o → m k = some o
theorem SatL.old (w : World) : SatL ⟨w.os, w.tape, w.output⟩ w [Old w] :=
  ⟨rfl, rfl, rfl, fun k => w.heap[k]?, fun _ _ h => h, fun _ _ h => h, fun _ _ h => h, trivial⟩
theorem SatL.below {w0 : World} (h : SatL ⟨w0.os, w0.tape, w0.output⟩ w L) (k : Nat) (hk : L[k]? = some (Old w0)) : Below w0.heap.size w0 w := by
  obtain ⟨m, hA, hs⟩ := h.at k hk
  refine ⟨h.os, h.tape, h.output, ?_, fun i hi => ?_⟩
  · rcases Nat.lt_or_ge w.heap.size w0.heap.size with hl | hl
    · have h1 := hs w.heap.size _ (hA w.heap.size _ (Array.getElem?_eq_getElem hl))
      have := (Array.getElem?_eq_some_iff.1 h1).1
      omega
    · exact hl
  · rw [Array.getElem?_eq_getElem hi]
    exact hs i _ (hA i _ (Array.getElem?_eq_getElem hi))
end
end Go.Proofs.Ytfmhcefjbghhlaa
