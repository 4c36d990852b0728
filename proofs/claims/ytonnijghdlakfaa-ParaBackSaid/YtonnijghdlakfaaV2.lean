/-
Records under calls: Over in one; what is read of rows.
-/
import Derived.Test.YtonnijghdlakfaaV1
namespace Go.Proofs.Ytonnijghdlakfaa
open Go Go.RowKit
/-- the part of records -/
def part (L : List (List Atr)) (i j : Int) : List (List Atr) := open Classical in if isPart L.length i j then (L.take j.toNat).drop i.toNat else []
theorem err_zero {L : List (List Atr)} {i j : Int} (h : isPart L.length i j) : errP L i j = 0 := if_pos h
theorem err_five {L : List (List Atr)} {i j : Int} (h : ¬ isPart L.length i j) : errP L i j = 5 := if_neg h
theorem part_get {L : List (List Atr)} {i j k : Nat} (hp : isPart L.length i j) (hk : k < j - i) : (part L i j)[k]? = L[i + k]? := by
  unfold part
  rw [if_pos hp, Int.toNat_natCast, Int.toNat_natCast, List.getElem?_drop, List.getElem?_take, if_pos (by omega)]
theorem part_len {L : List (List Atr)} {i j : Nat} (hp : isPart L.length i j) : (part L i j).length = j - i := by
  obtain ⟨h0, h1, h2⟩ := id hp
  unfold part
  rw [if_pos hp, Int.toNat_natCast, Int.toNat_natCast, List.length_drop, List.length_take]
  omega
section
variable {E : Env} {R : List SProp} {w : World} {W : World} {b n B : Nat} {L M : List (List Atr)} {xs ys zs : List Value} {v : Value} {os : List OpV} {i j : Int}
theorem OpsAt.oreads (h : OpsAt W v os) (k : Nat) (hk : R[k]? = some (Old W)) : OReads E R v os := by
  obtain ⟨⟨a, cap, rfl, _, h1⟩, h2⟩ := h
  refine ⟨a, cap, rfl, fun w hw i o ho => ?_, fun o ho => ⟨(h2 o ho).sp.sreads k hk, (h2 o ho).cp.creads k hk⟩⟩
  obtain ⟨ad, rfl, h3⟩ := h1 i o ho
  exact ⟨ad, rfl, fun j u hj => hw.oldCell k hk (h3 j u hj)⟩
theorem overA (hI : InvP L n) (hn : n ≤ 1000) (h : SatL E w (Pa b L B :: R)) :
    Calls Try.prog 13 #[pT b, .int .i64 i, .int .i64 j] w (Ret fun u w' => ∃ a c ys, u = .tuple #[.slice a ys.length c, .int .i64 (errP L i j)] ∧ SatL E w' (XRow (.slice a ys.length c) ys :: RowsL ys (part L i j) :: Pa b L B :: R)) := by
  have h1 := hI.len
  by_cases hp : isPart L.length i j
  · refine Calls.ret_mono (overP hp (by omega) (fun l hl => by have := (hI.each l hl).1; omega) h) fun u w ⟨v, ys, e, h⟩ => ?_
    have hr := h
    rw [XRow] at hr
    obtain ⟨a, c, rfl, _, _⟩ := hr.rowVal
    exact ⟨a, c, ys, by rw [err_zero hp]; exact e, by unfold part; rw [if_pos hp]; exact h⟩
  · refine Calls.ret_mono (over_noP hp h) fun u w ⟨e, h⟩ => ⟨none, 0, [], by rw [err_five hp]; exact e, ?_⟩
    unfold part
    rw [if_neg hp]
    exact h.rowsNil.rowNil
theorem s_rows {w0 : World} (h0 : SatL E w0 (XRow v ys :: RowsL ys M :: R)) : SReads E (XRow v ys :: RowsL ys M :: R) v ys M :=
  s_row (fun x hx => h0.f1.rowsOk x hx) h0 h0.f1.rowsLen fun _ _ _ hx hl => (rowsReads hx hl h0.f1).weak fun _ h => h.f1
/-- the k-th set of a row that can be read -/
theorem SReads.at {L : List SProp} (hv : SReads E L v ys M) {k : Nat} {l : List Atr} (hl : M[k]? = some l) (h : SatL E w L) : ∃ a cap x, v = .slice (some a) ys.length cap ∧ k < ys.length ∧ (∀ w, SatL E w L → w.cell? (a.add k) = some x) ∧ AReads E L x l := by
  obtain ⟨a, cap, rfl, _, hlen, h1, h2⟩ := hv
  have hk := (List.getElem?_eq_some_iff.1 hl).1
  obtain ⟨x, hx⟩ : ∃ x, ys[k]? = some x := ⟨_, List.getElem?_eq_getElem (by omega)⟩
  obtain ⟨ad, rfl, _⟩ := h1 w h k x hx
  refine ⟨ad, cap, x, rfl, by omega, fun w h => ?_, h2 k x l hx hl⟩
  obtain ⟨ad', e, hc⟩ := h1 w h k x hx
  cases e
  exact hc
end
end Go.Proofs.Ytonnijghdlakfaa
