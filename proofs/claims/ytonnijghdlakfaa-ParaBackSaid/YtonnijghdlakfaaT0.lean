/-
Trees of things: their lists, sizes, cells; which places of the arena they have.
-/
import Derived.Test.YtonnijghdlakfaaM13
namespace Go.Proofs.Ytonnijghdlakfaa
open Go Go.RowKit
abbrev KX : Nat := 1
/-- a node's cells -/
def ndC (c : Array Value) (l r h s m : Int) : Array Value := c ++ #[.int .i64 l, .int .i64 r, .int .i64 h, .int .i64 s, .int .i64 m]
section
variable {c c' : Array Value} {l r h s m l' r' h' s' m' : Int} {v : Int}
theorem app_get {c d : Array Value} {j : Nat} {u : Value} (hc : Ok KX c) (hd : d[j]? = some u) : (c ++ d)[KX + j]? = some u := by
  have := hc.size
  rw [Array.getElem?_append_right (by omega), show KX + j - c.size = j by omega]; exact hd
theorem app_set {c d : Array Value} {j : Nat} {u : Value} (hc : Ok KX c) : (c ++ d).setIfInBounds (KX + j) u = c ++ d.setIfInBounds j u := by
  have := hc.size
  apply Array.ext'
  rw [Array.toList_setIfInBounds, Array.toList_append, Array.toList_append, Array.toList_setIfInBounds, List.set_append_right _ _ (by simp; omega)]
  simp [show KX + j - c.size = j by omega]
theorem nd0 (hc : Ok KX c) : (ndC c l r h s m)[KX + 0]? = some (.int .i64 l) := app_get hc gc0
theorem nd1 (hc : Ok KX c) : (ndC c l r h s m)[KX + 1]? = some (.int .i64 r) := app_get hc gc1
theorem nd2 (hc : Ok KX c) : (ndC c l r h s m)[KX + 2]? = some (.int .i64 h) := app_get hc gc2
theorem nd3 (hc : Ok KX c) : (ndC c l r h s m)[KX + 3]? = some (.int .i64 s) := app_get hc gc3
theorem nd4 (hc : Ok KX c) : (ndC c l r h s m)[KX + 4]? = some (.int .i64 m) := app_get hc gc4
theorem ns0 (hc : Ok KX c) : (ndC c l r h s m).setIfInBounds (KX + 0) (.int .i64 v) = ndC c v r h s m := (app_set hc).trans (by rw [sc0]; rfl)
theorem ns1 (hc : Ok KX c) : (ndC c l r h s m).setIfInBounds (KX + 1) (.int .i64 v) = ndC c l v h s m := (app_set hc).trans (by rw [sc1]; rfl)
theorem ns2 (hc : Ok KX c) : (ndC c l r h s m).setIfInBounds (KX + 2) (.int .i64 v) = ndC c l r v s m := (app_set hc).trans (by rw [sc2]; rfl)
theorem ns3 (hc : Ok KX c) : (ndC c l r h s m).setIfInBounds (KX + 3) (.int .i64 v) = ndC c l r h v m := (app_set hc).trans (by rw [sc3]; rfl)
theorem ns4 (hc : Ok KX c) : (ndC c l r h s m).setIfInBounds (KX + 4) (.int .i64 v) = ndC c l r h s v := (app_set hc).trans (by rw [sc4]; rfl)
theorem Ok.node (hc : Ok KX c) : Ok KN (ndC c l r h s m) := ⟨by simp [ndC, hc.size], by
  intro v hv
  simp only [ndC, Array.toList_append, List.mem_append] at hv
  rcases hv with h1 | h1
  · exact hc.one v h1
  · simp at h1; rcases h1 with rfl | rfl | rfl | rfl | rfl <;> rfl⟩
theorem ndle (hc : Ok KX c) : 0 + KX ≤ (ndC c l r h s m).size := by simp [ndC, hc.size]
theorem ndx (hc : Ok KX c) : (ndC c l r h s m).extract 0 (0 + KX) = c := by
  have := hc.size
  apply Array.ext'
  simp only [ndC, Array.toList_extract, Array.toList_append, List.extract_eq_take_drop]
  simp only [List.drop_zero, Nat.zero_add, Nat.sub_zero]
  rw [List.take_append_of_le_length (by simp; omega), List.take_of_length_le (by simp; omega)]
theorem ndx0 {x : X} : (ndC (xC x) l r h s m)[0]? = some x := by simp [ndC, xC]
/-- a whole thing is written into a node -/
theorem ndput (hc : Ok KX c) (hc' : Ok KX c') : ((ndC c l r h s m).toList.take 0 ++ c'.toList ++ (ndC c l r h s m).toList.drop (0 + KX)).toArray = ndC c' l r h s m := by
  have := hc.size
  apply Array.ext'
  simp only [ndC, Array.toList_append, List.take_zero, List.nil_append, Nat.zero_add]
  rw [List.drop_append_of_le_length (by simp; omega), List.drop_eq_nil_of_le (by simp; omega), List.nil_append]
end
/-- sums over things -/
def sz : List X → Nat
  | [] => 0
  | x :: l => xS x + sz l
def mks : List X → Nat
  | [] => 0
  | x :: l => xM x + mks l
theorem sz_app : ∀ (a b : List X), sz (a ++ b) = sz a + sz b
  | [], b => by simp [sz]
  | x :: a, b => by simp [sz, sz_app a b]; omega
theorem mks_app : ∀ (a b : List X), mks (a ++ b) = mks a + mks b
  | [], b => by simp [mks]
  | x :: a, b => by simp [mks, mks_app a b]; omega
/-- trees: each node with its place -/
inductive Tr where
  | nil : Tr
  | node : Nat → Tr → X → Tr → Tr
namespace Tr
def root : Tr → Int | nil => -1 | node i _ _ _ => i
def ht : Tr → Nat | nil => 0 | node _ l _ r => 1 + max l.ht r.ht
def xs : Tr → List X | nil => [] | node _ l x r => l.xs ++ x :: r.xs
def idx : Tr → List Nat | nil => [] | node i l _ r => i :: (l.idx ++ r.idx)
def n : Tr → Nat | nil => 0 | node _ l _ r => 1 + l.n + r.n
end Tr
theorem Tr.idx_len : ∀ t : Tr, t.idx.length = t.xs.length
  | .nil => rfl
  | .node i l x r => by simp [Tr.idx, Tr.xs, idx_len l, idx_len r]; omega
theorem Tr.ht_le : ∀ t : Tr, t.ht ≤ t.xs.length
  | .nil => Nat.le_refl _
  | .node i l x r => by have := ht_le l; have := ht_le r; simp [Tr.ht, Tr.xs]; omega
theorem Tr.n_eq : ∀ t : Tr, t.n = t.xs.length
  | .nil => rfl
  | .node i l x r => by simp [Tr.n, Tr.xs, n_eq l, n_eq r]; omega
/-- what a node holds: its thing, where its children are, its totals -/
abbrev cellOf (l : Tr) (x : X) (r : Tr) : Array Value := ndC (xC x) l.root r.root ((1 + max l.ht r.ht : Nat) : Int) ((sz (l.xs ++ x :: r.xs) : Nat) : Int) ((mks (l.xs ++ x :: r.xs) : Nat) : Int)
abbrev Pl := List (Option (Array Value))
/-- the tree lies in the places -/
def Has (pl : Pl) : Tr → Prop
  | .nil => True
  | .node i l x r => pl[i]? = some (some (cellOf l x r)) ∧ xOk x ∧ Has pl l ∧ Has pl r
/-- what is taken and not among some stays -/
def Keep (pl pl' : Pl) (S : List Nat) : Prop := ∀ (j : Nat) (c : Array Value), j ∉ S → pl[j]? = some (some c) → pl'[j]? = some (some c)
theorem Keep.refl {pl : Pl} {S : List Nat} : Keep pl pl S := fun _ _ _ h => h
theorem Keep.trans {pl pl' pl'' : Pl} {S T U : List Nat} (h : Keep pl pl' S) (h' : Keep pl' pl'' T) (hS : ∀ j ∈ S, j ∈ U) (hT : ∀ j ∈ T, j ∈ U) : Keep pl pl'' U :=
  fun j c hj hp => h' j c (fun h1 => hj (hT j h1)) (h j c (fun h1 => hj (hS j h1)) hp)
theorem Keep.mono {pl pl' : Pl} {S U : List Nat} (h : Keep pl pl' S) (hS : ∀ j ∈ S, j ∈ U) : Keep pl pl' U := fun j c hj hp => h j c (fun h1 => hj (hS j h1)) hp
theorem Keep.set {pl : Pl} {i : Nat} {o : Option (Array Value)} : Keep pl (pl.set i o) [i] := fun j c hj hp => by
  rw [List.getElem?_set_ne (fun e => hj (by simp [e]))]; exact hp
theorem Has.keep {pl pl' : Pl} {S : List Nat} (hk : Keep pl pl' S) : ∀ {t : Tr}, Has pl t → (∀ j ∈ t.idx, j ∉ S) → Has pl' t
  | .nil, _, _ => trivial
  | .node i l x r, ⟨h1, h2, h3, h4⟩, hd => ⟨hk i _ (hd i (by simp [Tr.idx])) h1, h2, h3.keep hk (fun j hj => hd j (by simp [Tr.idx, hj])), h4.keep hk (fun j hj => hd j (by simp [Tr.idx, hj]))⟩
theorem Has.taken {pl : Pl} : ∀ {t : Tr}, Has pl t → ∀ j ∈ t.idx, ∃ c, pl[j]? = some (some c)
  | .nil, _, j, hj => by simp [Tr.idx] at hj
  | .node i l x r, ⟨h1, _, h3, h4⟩, j, hj => by
    simp only [Tr.idx, List.mem_cons, List.mem_append] at hj
    rcases hj with rfl | h | h
    · exact ⟨_, h1⟩
    · exact h3.taken j h
    · exact h4.taken j h
theorem Has.ok {pl : Pl} : ∀ {t : Tr}, Has pl t → ∀ x ∈ t.xs, xOk x
  | .nil, _, x, hx => by simp [Tr.xs] at hx
  | .node i l y r, ⟨_, h2, h3, h4⟩, x, hx => by
    simp only [Tr.xs, List.mem_append, List.mem_cons] at hx
    rcases hx with h | rfl | h
    · exact h3.ok x h
    · exact h2
    · exact h4.ok x h
theorem Has.root_in {pl : Pl} {t : Tr} : t.root = -1 ∨ ∃ i : Nat, t.root = i ∧ i ∈ t.idx := by
  cases t with
  | nil => exact .inl rfl
  | node i l x r => exact .inr ⟨i, rfl, by simp [Tr.idx]⟩
theorem Tr.root_none {t : Tr} (h : t.root = -1) : t = .nil := by
  cases t with
  | nil => rfl
  | node i l x r => simp only [Tr.root] at h; omega
theorem Tr.root_ge {t : Tr} : -1 ≤ t.root := by
  cases t with
  | nil => exact Int.le_refl _
  | node i l x r => simp only [Tr.root]; omega
/-- what is not too much to be counted -/
def Bd (l : List X) : Prop := l.length ≤ 1000000000 ∧ sz l ≤ 1000000000000 ∧ mks l ≤ 1000000000000
theorem Bd.left {a b : List X} (h : Bd (a ++ b)) : Bd a := by simp only [Bd, List.length_append, sz_app, mks_app] at *; omega
theorem Bd.right {a b : List X} (h : Bd (a ++ b)) : Bd b := by simp only [Bd, List.length_append, sz_app, mks_app] at *; omega
theorem Bd.tail {x : X} {b : List X} (h : Bd (x :: b)) : Bd b := by simp only [Bd, List.length_cons, sz, mks] at *; omega
theorem Bd.nil : Bd [] := by simp [Bd, sz, mks]
/-- the tree's own cells -/
abbrev TC (bt ba : Nat) (root : Int) : SProp := Cells bt #[fnM, fnC, fnJ, .pointer (some ⟨ba, 0, none⟩), .int .i64 root] 83
attribute [irreducible] ndC
abbrev pT (bt : Nat) : Value := .pointer (some ⟨bt, 0, none⟩)
end Go.Proofs.Ytonnijghdlakfaa
