/-
Rows of numbers under calls: what is kept behind every one.
-/
import Derived.Test.YtbmdbjnkkbefmaaR11
namespace Go.Proofs.Ytbmdbjnkkbefmaa
open Go Go.RowKit
section
variable {P : Program} {f : Nat → Value} {w : World} {d : Option Tmp} {ty : TypeId} {pos : String} {af : Array Edge} {g : Option (Tmp × Bool)}
theorem r_loadCell {T : TypeId} {x : Operand} {a : Addr} {v : Value} (ha : ∀ w, (isAgg T).run P w = .ok false w) (hx : ev f x = .pointer (some a)) (hv : w.cell? a = some v) : (execOp (ev f) ⟨d, .load T x, ty, pos, af, g⟩).run P w = .ok (.value v) w := by
  simp [execOp, hx, Instr.loadAt, Instr.sureAddr, loadVar, ha, hv]
theorem r_fieldAddrA {T : TypeId} {fs : Array Field} {fd : Field} {x : Operand} {k s : Nat} {a : Addr} (hu : P.underlying T = some (.struct fs)) (hf : fs[k]? = some fd) (hs : ∀ w, (sizeOf fd.type).run P w = .ok s w) (hs0 : (s == 0) = false)
    (hx : ev f x = .pointer (some a)) : (execOp (ev f) ⟨d, .fieldAddr T x k, ty, pos, af, g⟩).run P w = .ok (.value (.pointer (some (a.add fd.offset)))) w := by
  have h0 : s ≠ 0 := by simpa using hs0
  simp [execOp, hx, Instr.fieldAt, run_underlying hu, hf, Instr.sureAddr, fieldPlace, hs, h0]
end
theorem ids_mem {xs : List X} (hp : Ps xs) {x : X} (hx : x ∈ xs) : x.2 ∈ ids xs := by
  simp only [ids, List.mem_flatMap]
  have : 0 < x.1 := hp x hx
  exact ⟨x, hx, List.mem_replicate.2 ⟨by omega, rfl⟩⟩
theorem replL_len (xs : List X) (i j : Nat) (l : List X) : (replL xs i j l).length ≤ xs.length + l.length + 1 := by
  have q1 := splitL_len xs i
  have q2 := splitL_le (splitL xs i).2 (j - i)
  unfold replL
  have m := meld_len ((splitL xs i).1.getLast?.toList ++ l ++ (splitL (splitL xs i).2 (j - i)).2.head?.toList)
  have e1 := congrArg List.length (drop_last_app (splitL xs i).1)
  have e2 := congrArg List.length (head_tail_app (splitL (splitL xs i).2 (j - i)).2)
  simp only [List.length_append] at *
  omega
/-- what holds of a row of spans behind n calls -/
structure Inv (xs : List X) (n : Nat) : Prop where
  canon : Canon xs
  size : sz xs ≤ 536870912
  len : xs.length ≤ 104 * n
  num : ∀ v ∈ ids xs, 0 ≤ v ∧ I64 v
theorem Inv.nil : Inv [] 0 := ⟨trivial, by simp [sz], by simp, by simp [ids]⟩
theorem Inv.mono {xs : List X} {n m : Nat} (h : Inv xs n) (hm : n ≤ m) : Inv xs m := ⟨h.canon, h.size, Nat.le_trans h.len (Nat.mul_le_mul_left _ hm), h.num⟩
theorem Inv.wf {xs : List X} {n : Nat} (h : Inv xs n) : ∀ x ∈ xs, wfR (toR x) ∧ 0 ≤ x.2 := fun x hx => by
  have h1 := h.num _ (ids_mem h.canon.ps hx)
  obtain ⟨k, hk, hxk⟩ := List.mem_iff_getElem.1 hx
  have e3 := sz_get (l := xs) (k := k) (x := x) (by rw [List.getElem?_eq_getElem hk, hxk])
  have e4 : xS x = x.1 := rfl
  have h2 := h.size
  refine ⟨⟨?_, h1.2⟩, h1.1⟩
  simp only [toR]
  unfold I64; omega
theorem spliceE_zero {xs : List X} {i j : Int} {ps : List RS} (h : spliceE xs i j ps = 0) : ps.any badR = false ∧ isPart (sz xs) i j ∧ sumR ps ≤ 536870912 - (sz xs : Int) + j - i := by
  unfold spliceE at h
  split at h
  · cases h
  · rename_i h1
    split at h
    · cases h
    · rename_i h2
      split at h
      · cases h
      · rename_i h3
        exact ⟨by simpa using h1, Classical.not_not.1 h2, by omega⟩
theorem ids_toX {ps : List RS} {v : Int} (h : v ∈ ids (ps.map toX)) : ∃ p ∈ ps, p.2 = v := by
  simp only [ids, List.mem_flatMap, List.mem_map] at h
  obtain ⟨x, ⟨p, hp, rfl⟩, hv⟩ := h
  exact ⟨p, hp, (List.mem_replicate.1 hv).2.symm⟩
/-- what Splice leaves, number by number -/
theorem ids_splice {xs : List X} {i j : Int} {ps : List RS} (h : spliceE xs i j ps = 0) : ids (spliceS xs i j ps) = (ids xs).take i.toNat ++ (ids (ps.map toX) ++ (ids xs).drop j.toNat) := by
  obtain ⟨_, ⟨h1, h2, h3⟩, _⟩ := spliceE_zero h
  unfold spliceS
  rw [if_pos h]
  exact ids_repl (by omega) (by omega)
theorem sz_splice {xs : List X} {i j : Int} {ps : List RS} (h : spliceE xs i j ps = 0) : (sz (spliceS xs i j ps) : Int) = sz xs - (j - i) + sumR ps := by
  obtain ⟨hb, ⟨h1, h2, h3⟩, _⟩ := spliceE_zero h
  have e := congrArg List.length (ids_splice h)
  have e2 := sz_toX (fun p hp => (any_bad hb p hp).1)
  simp only [List.length_append, List.length_take, List.length_drop, ids_len] at e
  omega
theorem Inv.splice {xs : List X} {n : Nat} {i j : Int} {ps : List RS} (h : Inv xs n) (hw : ∀ p ∈ ps, wfR p) (hl : ps.length ≤ 100) : Inv (spliceS xs i j ps) (n + 1) := by
  by_cases he : spliceE xs i j ps = 0
  · obtain ⟨hb, hp, hs⟩ := spliceE_zero he
    have e1 := sz_splice he
    refine ⟨?_, by omega, ?_, ?_⟩
    · unfold spliceS; rw [if_pos he]; exact canon_repl h.canon
    · unfold spliceS; rw [if_pos he]
      have h1 := replL_len xs i.toNat j.toNat (ps.map toX)
      rw [List.length_map] at h1
      have h2 := h.len
      omega
    · rw [ids_splice he]
      intro v hv
      rcases List.mem_append.1 hv with h1 | h1
      · exact h.num v (List.mem_of_mem_take h1)
      · rcases List.mem_append.1 h1 with h2 | h2
        · obtain ⟨p, hpp, rfl⟩ := ids_toX h2
          exact ⟨(any_bad hb p hpp).2, (hw p hpp).2⟩
        · exact h.num v (List.mem_of_mem_drop h2)
  · unfold spliceS; rw [if_neg he]
    exact h.mono (Nat.le_succ n)
theorem ids_get : ∀ {l : List X} {k : Nat} {x : X} {c : Nat}, l[k]? = some x → c < x.1 → (ids l)[sz (l.take k) + c]? = some x.2
  | [], k, x, c, h, _ => by simp at h
  | y :: l, 0, x, c, h, hc => by
    simp at h; subst h
    rw [ids_cons, List.getElem?_append_left (by simp [sz]; exact hc), List.getElem?_replicate]
    simp [sz, hc]
  | y :: l, k + 1, x, c, h, hc => by
    have ih := ids_get (l := l) (k := k) (x := x) (c := c) (by simpa using h) hc
    rw [ids_cons, List.getElem?_append_right (by simp [sz, xS]; omega), List.length_replicate]
    simp only [List.take_succ_cons, sz, xS]
    rw [show y.1 + sz (l.take k) + c - y.1 = sz (l.take k) + c by omega]
    exact ih
theorem at_ids {xs : List X} {k : Nat} {v : Int} (h : (ids xs)[k]? = some v) : atV xs (k : Int) = .tuple #[.int .i64 v, .int .i64 0] := by
  have hlt := (List.getElem?_eq_some_iff.1 h).1
  rw [ids_len] at hlt
  unfold atV
  rw [if_neg (by omega), show ((k : Nat) : Int).toNat = k from rfl]
  match hf : findL xs k with
  | none => have := (find_none_iff xs k).1 hf; omega
  | some (x, o) =>
    have h1 := find_ids xs k hf
    rw [h] at h1
    simp at h1
    simp [h1]
theorem at_over {xs : List X} {i j k c : Nat} {x : X} (hx : (overL xs i j)[k]? = some x) (hc : c < x.1) (_hij : i ≤ j) : atV xs ((i + sz ((overL xs i j).take k) + c : Nat) : Int) = .tuple #[.int .i64 x.2, .int .i64 0] := by
  have h1 := ids_get hx hc
  rw [ids_over, List.getElem?_drop] at h1
  refine at_ids ?_
  rw [List.getElem?_take] at h1
  split at h1
  · rw [show i + sz ((overL xs i j).take k) + c = i + (sz ((overL xs i j).take k) + c) by omega]; exact h1
  · cases h1
theorem sz_over {xs : List X} {i j : Nat} (hj : j ≤ sz xs) : sz (overL xs i j) = j - i := by
  have e := congrArg List.length (ids_over xs i j)
  rw [ids_len, List.length_drop, List.length_take, ids_len] at e
  omega
theorem sz_take_succ {l : List X} {k : Nat} {x : X} (h : l[k]? = some x) : sz (l.take (k + 1)) = sz (l.take k) + x.1 := by
  rw [List.take_add_one, h, sz_app]; simp [sz, xS]
end Go.Proofs.Ytbmdbjnkkbefmaa
