/-
What is put away again: the plain law.
-/
import Derived.Test.YtbmdbjnkkbefmaaS8
namespace Go.Proofs.Ytbmdbjnkkbefmaa
open Go Go.RowKit
theorem over_mem {xs : List X} {i j : Nat} : ∀ x ∈ overL xs i j, 0 < x.1 := by
  induction xs generalizing i j with
  | nil => simp [overL]
  | cons y l ih =>
    intro x hx
    simp only [overL] at hx
    rcases List.mem_append.1 hx with h1 | h1
    · by_cases hc : i < min j (xS y)
      · have hc2 : i < min j y.1 := hc
        rw [oneL, if_pos hc, partX_eq hc (Nat.min_le_right _ _)] at h1
        simp at h1
        rw [h1]; show 0 < min j y.1 - i; omega
      · rw [oneL, if_neg hc] at h1; simp at h1
    · exact ih x h1
theorem over_num {xs : List X} {i j : Nat} {x : X} (hx : x ∈ overL xs i j) : x.2 ∈ ids xs := by
  have h1 : x.2 ∈ ids (overL xs i j) := ids_mem (fun y hy => over_mem y hy) hx
  rw [ids_over] at h1
  exact List.mem_of_mem_take (List.mem_of_mem_drop h1)
theorem map_toX (l : List X) : (l.map toR).map toX = l := by
  rw [List.map_map]
  conv => rhs; rw [← List.map_id l]
  congr 1
theorem sumR_toR : ∀ l : List X, sumR (l.map toR) = (sz l : Int)
  | [] => rfl
  | x :: l => by
    have := sumR_toR l
    simp only [List.map_cons, sumR, sz, toR, xS]; omega
theorem over_wf {xs : List X} {n i j : Nat} (h : Inv xs n) (hj : j ≤ sz xs) : (∀ p ∈ (overL xs i j).map toR, wfR p) ∧ ((overL xs i j).map toR).any badR = false := by
  have hs := sz_over (xs := xs) (i := i) (j := j) hj
  have hz := h.size
  have each : ∀ p ∈ (overL xs i j).map toR, 0 ≤ p.1 ∧ p.1 ≤ 536870912 ∧ 0 ≤ p.2 ∧ I64 p.2 := by
    intro p hp
    obtain ⟨x, hx, rfl⟩ := List.mem_map.1 hp
    have h1 := h.num _ (over_num hx)
    obtain ⟨k, hk, hxk⟩ := List.mem_iff_getElem.1 hx
    have e3 := sz_get (l := overL xs i j) (k := k) (x := x) (by rw [List.getElem?_eq_getElem hk, hxk])
    have e4 : xS x = x.1 := rfl
    refine ⟨?_, ?_, h1.1, h1.2⟩
    · simp only [toR]; omega
    · simp only [toR]; omega
  refine ⟨fun p hp => ?_, List.any_eq_false.2 fun p hp => ?_⟩
  · have h1 := each p hp
    refine ⟨?_, h1.2.2.2⟩
    unfold I64; omega
  · have h1 := each p hp
    simp only [badR, Bool.or_eq_true, decide_eq_true_eq, not_or]
    omega
theorem back_law {xs : List X} {n ni nj : Nat} {ls : List RS} {mo : Int} (h : Inv xs n) (hij : ni ≤ nj) (hj : nj ≤ sz xs) (he : spliceE xs ni nj ls = 0) (hm : mo = (sz (spliceS xs ni nj ls) : Int) - sz xs) :
    spliceE (spliceS xs ni nj ls) ni ((nj : Int) + mo) ((overL xs ni nj).map toR) = 0 ∧ spliceS (spliceS xs ni nj ls) ni ((nj : Int) + mo) ((overL xs ni nj).map toR) = xs := by
  have hz := sz_splice he
  have hids := ids_splice he
  obtain ⟨hb, _, hs⟩ := spliceE_zero he
  have hsx := sz_toX (fun p hp => (any_bad hb p hp).1)
  have hov := over_wf (i := ni) h hj
  have hso := sz_over (xs := xs) (i := ni) (j := nj) hj
  have hsz := h.size
  obtain ⟨nk, hnk⟩ : ∃ nk : Nat, (nj : Int) + mo = nk := ⟨((nj : Int) + mo).toNat, by omega⟩
  have e2 : spliceE (spliceS xs ni nj ls) ni ((nj : Int) + mo) ((overL xs ni nj).map toR) = 0 := by
    unfold spliceE
    rw [if_neg (by rw [hov.2]; decide), if_neg (fun hh => hh ⟨by omega, by omega, by omega⟩), sumR_toR, if_neg (by omega)]
  refine ⟨e2, ?_⟩
  have hids2 := ids_splice e2
  have hc1 : Canon (spliceS xs ni nj ls) := by unfold spliceS; rw [if_pos he]; exact canon_repl h.canon
  have hc2 : Canon (spliceS (spliceS xs ni nj ls) ni ((nj : Int) + mo) ((overL xs ni nj).map toR)) := by
    have : ∀ ys : List X, Canon ys → ∀ i j ps, spliceE ys i j ps = 0 → Canon (spliceS ys i j ps) := fun ys hy i j ps he => by unfold spliceS; rw [if_pos he]; exact canon_repl hy
    exact this _ hc1 _ _ _ e2
  refine canon_uniq hc2 h.canon ?_
  rw [hids2, map_toX, ids_over]
  have hnk2 : nk = ni + sz (ls.map toX) := by omega
  rw [hnk, Int.toNat_natCast, Int.toNat_natCast]
  rw [Int.toNat_natCast, Int.toNat_natCast] at hids
  have hl := ids_len xs
  have hl2 := ids_len (ls.map toX)
  have t1 : ((ids xs).take ni).length = ni := by rw [List.length_take, hl]; omega
  have e3 : (ids (spliceS xs ni nj ls)).take ni = (ids xs).take ni := by rw [hids, List.take_left' t1]
  have e4 : (ids (spliceS xs ni nj ls)).drop nk = (ids xs).drop nj := by
    rw [hids, ← List.append_assoc]
    exact List.drop_left' (by rw [List.length_append, t1, hl2]; omega)
  rw [e3, e4]
  have e5 : (ids xs).take ni ++ ((ids xs).take nj).drop ni = (ids xs).take nj := by
    have := List.take_append_drop ni ((ids xs).take nj)
    rw [List.take_take, Nat.min_eq_left hij] at this
    exact this
  rw [← List.append_assoc, e5, List.take_append_drop]
theorem back_lawZ {xs : List X} {n : Nat} {i j : Int} {ls : List RS} (h : Inv xs n) (hp : isPart (sz xs) i j) (he : spliceE xs i j ls = 0) :
    spliceE (spliceS xs i j ls) i (j + ((sz (spliceS xs i j ls) : Int) - sz xs)) ((overL xs i.toNat j.toNat).map toR) = 0 ∧ spliceS (spliceS xs i j ls) i (j + ((sz (spliceS xs i j ls) : Int) - sz xs)) ((overL xs i.toNat j.toNat).map toR) = xs := by
  obtain ⟨h0, h1, h2⟩ := hp
  obtain ⟨ni, rfl⟩ := Int.eq_ofNat_of_zero_le h0
  obtain ⟨nj, rfl⟩ := Int.eq_ofNat_of_zero_le (Int.le_trans h0 h1)
  exact back_law h (by omega) (by omega) he rfl
section
variable {E : Env} {R : List SProp} {w : World} {b B : Nat} {xs : List X}
theorem over_p {i j : Int} (hp : isPart (sz xs) i j) (h : SatL E w (ObjO b xs B :: R)) : Calls Try.prog 11 #[pT b, .int .i64 i, .int .i64 j] w (Ret fun u w' => ∃ v, u = .tuple #[v, .int .i64 0] ∧ SatL E w' (XRow v (overL xs i.toNat j.toNat) :: ObjO b xs B :: R)) := by
  obtain ⟨h0, h1, h2⟩ := hp
  obtain ⟨ni, rfl⟩ := Int.eq_ofNat_of_zero_le h0
  obtain ⟨nj, rfl⟩ := Int.eq_ofNat_of_zero_le (Int.le_trans h0 h1)
  exact over_o (by omega) (by omega) h
end
end Go.Proofs.Ytbmdbjnkkbefmaa
