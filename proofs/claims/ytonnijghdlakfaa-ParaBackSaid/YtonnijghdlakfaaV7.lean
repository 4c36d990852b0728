/-
ParaBack: its laws.
-/
import Derived.Test.YtonnijghdlakfaaV5
namespace Go.Proofs.Ytonnijghdlakfaa
open Go Go.RowKit
theorem back_del {L M : List (List Atr)} {i : Int} (hp : isPart L.length i i) : delL (insL L i M) i (i + (M.length : Int)) = L ∧ isPart (insL L i M).length i (i + (M.length : Int)) := by
  obtain ⟨h0, h1, h2⟩ := id hp
  obtain ⟨n, rfl⟩ := Int.eq_ofNat_of_zero_le h0
  have hn : n ≤ L.length := by omega
  have e : insL L (n : Int) M = L.take n ++ (M ++ L.drop n) := by unfold insL; rw [if_pos hp, Int.toNat_natCast]
  have hq : isPart (insL L (n : Int) M).length n (n + (M.length : Int)) := by
    rw [e]
    refine ⟨by omega, by omega, ?_⟩
    simp only [List.length_append, List.length_take, List.length_drop]; omega
  refine ⟨?_, hq⟩
  unfold delL
  rw [if_pos hq, e, Int.toNat_natCast, show ((n : Int) + (M.length : Int)).toNat = n + M.length by omega]
  have hl : (L.take n).length = n := by rw [List.length_take]; omega
  have e1 : (L.take n ++ (M ++ L.drop n)).take n = L.take n := by
    rw [List.take_append_of_le_length (by omega), List.take_of_length_le (by omega)]
  have e2 : (L.take n ++ (M ++ L.drop n)).drop (n + M.length) = L.drop n := by
    rw [← List.append_assoc, List.drop_append_of_le_length (by simp only [List.length_append]; omega), List.drop_of_length_le (by simp only [List.length_append]; omega)]; simp
  rw [e1, e2, List.take_append_drop]
theorem pat_get {L : List (List Atr)} {i j : Int} {X : List Chg} {k : Nat} (hp : isPart L.length i j) : (patL L i j X)[k]? = if i ≤ (k : Int) ∧ (k : Int) < j then (L[k]?).map (fun l => applyL l X) else L[k]? := by
  obtain ⟨h0, h1, h2⟩ := id hp
  obtain ⟨ni, rfl⟩ := Int.eq_ofNat_of_zero_le h0
  obtain ⟨nj, rfl⟩ := Int.eq_ofNat_of_zero_le (Int.le_trans h0 h1)
  unfold patL
  rw [if_pos hp, Int.toNat_natCast, Int.toNat_natCast]
  have hl : (L.take ni).length = ni := by rw [List.length_take]; omega
  have hl2 : (((L.take nj).drop ni).map (fun l => applyL l X)).length = nj - ni := by rw [List.length_map, List.length_drop, List.length_take]; omega
  rcases Nat.lt_or_ge k ni with hk | hk
  · rw [if_neg (by omega), List.getElem?_append_left (by omega), List.getElem?_take, if_pos hk]
  · rw [List.getElem?_append_right (by omega), hl]
    rcases Nat.lt_or_ge k nj with hk2 | hk2
    · rw [if_pos ⟨by omega, by omega⟩, List.getElem?_append_left (by omega), List.getElem?_map, List.getElem?_drop, List.getElem?_take, if_pos (by omega), show ni + (k - ni) = k by omega]
    · rw [if_neg (by omega), List.getElem?_append_right (by omega), hl2, List.getElem?_drop, show nj + (k - ni - (nj - ni)) = k by omega]
theorem pat_out {L : List (List Atr)} {i j : Int} {X : List Chg} {k : Nat} (hp : isPart L.length i j) (hk : (k : Int) < i ∨ j ≤ (k : Int)) : (patL L i j X)[k]? = L[k]? := by
  rw [pat_get hp, if_neg (by omega)]
theorem pat_in {L : List (List Atr)} {i j : Int} {X : List Chg} {k : Nat} {l : List Atr} (hp : isPart L.length i j) (h1 : i ≤ (k : Int)) (h2 : (k : Int) < j) (hl : L[k]? = some l) : (patL L i j X)[k]? = some (applyL l X) := by
  rw [pat_get hp, if_pos ⟨h1, h2⟩, hl]; rfl
section
variable {E : Env} {R : List SProp} {w : World} {v : Value} {l : List Atr}
theorem get_mem {a : Atr} {key : Int} (hr : Rise l) (ha : a ∈ l) (hk : a.1 = key) (hv : AReads E R v l) (hb : l.length ≤ 1000000000) (h : SatL E w R) :
    Calls Try.prog 17 #[v, .int .i64 key] w (Ret fun u w' => u = .tuple #[.agg (valC a.2).toArray, .bool true] ∧ SatL E w' R) := by
  obtain ⟨k0, hk0, he⟩ := List.mem_iff_getElem.1 ha
  refine get_yes (k0 := k0) (a0 := a) hv (by rw [List.getElem?_eq_getElem hk0, he]) hk (fun j x hj hx => ?_) hb h
  obtain ⟨hjl, hx2⟩ := List.getElem?_eq_some_iff.1 hx
  have := List.pairwise_iff_getElem.1 hr j k0 hjl hk0 hj
  rw [hx2, he] at this
  omega
theorem get_any {key : Int} (hr : Rise l) (hv : AReads E R v l) (hb : l.length ≤ 1000000000) (h : SatL E w R) :
    Calls Try.prog 17 #[v, .int .i64 key] w (Ret fun u w' => ∃ z b, u = .tuple #[.agg z, .bool b] ∧ Ok 4 z ∧ SatL E w' R) := by
  by_cases hx : ∃ a ∈ l, a.1 = key
  · obtain ⟨a, ha, hk⟩ := hx
    exact Calls.ret_mono (get_mem hr ha hk hv hb h) fun _ _ ⟨e, h⟩ => ⟨_, _, e, ⟨rfl, by simp [valC, Value.oneCell']⟩, h⟩
  · exact Calls.ret_mono (get_no (key := key) hv (fun a ha hk => hx ⟨a, ha, hk⟩) hb h) fun _ _ ⟨z, e, hz, h⟩ => ⟨z, _, e, hz, h⟩
end
end Go.Proofs.Ytonnijghdlakfaa
