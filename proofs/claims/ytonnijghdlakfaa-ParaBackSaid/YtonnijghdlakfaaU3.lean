/-
Records: Insert, Delete, Over, At.
-/
import Derived.Test.YtonnijghdlakfaaU2
namespace Go.Proofs.Ytonnijghdlakfaa
open Go Go.RowKit
section
variable {E : Env} {R : List SProp} {w : World} {v : Value}
theorem SatL.rowsSplit : ∀ (k : Nat) {xs : List Value} {L : List (List Atr)} {R : List SProp}, SatL E w (RowsL xs L :: R) → SatL E w (RowsL (xs.take k) (L.take k) :: RowsL (xs.drop k) (L.drop k) :: R)
  | 0, _, _, _, h => by simpa using h.rowsNil
  | _ + 1, [], [], _, h => by simpa using h.rowsNil
  | _ + 1, [], _ :: _, _, h => h.pure.1.elim
  | _ + 1, _ :: _, [], _, h => h.pure.1.elim
  | k + 1, x :: xs, l :: L, _, h => by
    have h2 := SatL.rowsSplit k (R := _ :: _) (h.open.f1)
    simp only [List.take_succ_cons, List.drop_succ_cons]
    exact SatL.rowsCons (h2.f2)
theorem SatL.rowsPick {k : Nat} {xs : List Value} {L : List (List Atr)} {x : Value} {l : List Atr} (hx : xs[k]? = some x) (hl : L[k]? = some l) (h : SatL E w (RowsL xs L :: R)) : SatL E w (ARow x l :: R) := by
  have hk := (List.getElem?_eq_some_iff.1 hx).1
  have hk2 := (List.getElem?_eq_some_iff.1 hl).1
  have h2 := (h.rowsSplit k).drop
  rw [List.drop_eq_getElem_cons hk, List.drop_eq_getElem_cons hk2, (List.getElem?_eq_some_iff.1 hx).2, (List.getElem?_eq_some_iff.1 hl).2] at h2
  exact (h2.open.f1).drop
theorem rowsReads {k : Nat} {xs : List Value} {L : List (List Atr)} {x : Value} {l : List Atr} {w0 : World} (hx : xs[k]? = some x) (hl : L[k]? = some l) (h0 : SatL E w0 (RowsL xs L :: R)) : AReads E (RowsL xs L :: R) x l :=
  (a_row (h0.rowsPick hx hl)).weak fun _ h => h.rowsPick hx hl
theorem SatL.rowsOk {xs : List Value} {L : List (List Atr)} (h : SatL E w (RowsL xs L :: R)) : ∀ x ∈ xs, xOk x := by
  intro x hx
  obtain ⟨k, hk, rfl⟩ := List.mem_iff_getElem.1 hx
  have hl := h.rowsLen
  obtain ⟨a, c, e, _⟩ := (h.rowsPick (List.getElem?_eq_getElem hk) (List.getElem?_eq_getElem (by omega))).rowVal
  exact ⟨_, _, _, e⟩
end
/-- records: their sets, and how many places they may have -/
def Pa (b : Nat) (L : List (List Atr)) (B : Nat) : SProp := sex fun xs : List X => star (ObjO b xs B) (RowsL xs L)
section
variable {E : Env} {R : List SProp} {w : World} {b bt ba B B' : Nat} {L M : List (List Atr)} {xs : List Value} {v : Value}
theorem SatL.openPa (h : SatL E w (Pa b L B :: R)) : ∃ xs : List X, SatL E w (ObjO b xs B :: RowsL xs L :: R) := by
  obtain ⟨xs, h⟩ := h.openEx
  exact ⟨xs, h.open⟩
theorem SatL.closePa {xs : List X} (h : SatL E w (ObjO b xs B :: RowsL xs L :: R)) : SatL E w (Pa b L B :: R) := h.close.closeEx xs
theorem newP (h : SatL E w R) : Calls Try.prog 7 #[] w (Ret fun v w' => ∃ b, v = pT b ∧ SatL E w' (Pa b [] 0 :: R)) :=
  Calls.ret_mono (new_o h) fun _ _ ⟨b, e, h⟩ => ⟨b, e, SatL.closePa (xs := []) (h.rowsNil.f1)⟩
theorem lenP (h : SatL E w (Pa b L B :: R)) : Calls Try.prog 14 #[pT b] w (Ret fun v w' => v = .int .i64 (L.length : Int) ∧ SatL E w' (Pa b L B :: R)) := by
  obtain ⟨xs, h⟩ := h.openPa
  have hl := h.f1.rowsLen
  exact Calls.ret_mono (len_o h) fun _ _ ⟨e, h⟩ => ⟨by rw [e, sz_len, hl], SatL.closePa h⟩
theorem deleteP {i j : Int} (hp : isPart L.length i j) (hB : L.length + 4 ≤ B') (hBB : B ≤ B') (hB' : B' ≤ 100000000) (h : SatL E w (Pa b L B :: R)) : Calls Try.prog 11 #[pT b, .int .i64 i, .int .i64 j] w (Ret fun v w' => v = .int .i64 0 ∧ SatL E w' (Pa b (L.take i.toNat ++ L.drop j.toNat) B' :: R)) := by
  obtain ⟨xs, h⟩ := h.openPa
  have hl := h.f1.rowsLen
  have hsl := sz_len xs
  have hp2 : isPart (sz xs) i j := by rw [hsl, hl]; exact hp
  obtain ⟨h0, h1, h2⟩ := hp
  obtain ⟨ni, rfl⟩ := Int.eq_ofNat_of_zero_le h0
  obtain ⟨nj, rfl⟩ := Int.eq_ofNat_of_zero_le (Int.le_trans h0 h1)
  have hre := replL_eq (xs := xs) (l := []) (i := ni) (j := nj) (by omega)
  rw [List.nil_append] at hre
  rw [Int.toNat_natCast, Int.toNat_natCast]
  refine calls_x Try.func11 rfl Try.ntmps11 rfl ?_
  refine xc_gen (fun g hg => ?_)
  have s0 := (hg 0).trans arg0
  have s1 := (hg 1).trans arg1
  have s2 := (hg 2).trans arg2
  clear hg
  refine xc_seq (fun K hK1 => ?_)
  refine xc_region ?_
  refine x_val (r_assign ec) (nd_of rfl) rfl ?_
  refine xw_nil ?_
  refine hK1 _ _ ?_
  refine xc_gen (fun g hg => ?_)
  have s0 := (hg 0).trans (en rfl s0)
  have s1 := (hg 1).trans (en rfl s1)
  have s2 := (hg 2).trans (en rfl s2)
  have s6 := (hg 6).trans es
  clear hg
  refine xc_seq (fun K hK2 => ?_)
  refine xc_seq (fun K hK3 => ?_)
  refine xc_region ?_
  refine x_val (r_move s0) (nd_of rfl) rfl ?_
  refine x_val (r_move (en rfl s1)) (nd_of rfl) rfl ?_
  refine x_val (r_move (en rfl (en rfl s2))) (nd_of rfl) rfl ?_
  refine x_enter (r_call Try.call24 (.cons (en rfl (en rfl es)) (.cons (en rfl es) (.cons es .nil)))) (nd_of rfl) rfl (between_o h) ?_
  rintro _ w ⟨rfl, h⟩
  refine x_val (r_assign es) (nd_of rfl) rfl ?_
  refine xw_nil ?_
  refine hK3 _ _ ?_
  refine xc_gen (fun g hg => ?_)
  have s0 := (hg 0).trans (en rfl (en rfl (en rfl (en rfl (en rfl s0)))))
  have s1 := (hg 1).trans (en rfl (en rfl (en rfl (en rfl (en rfl s1)))))
  have s2 := (hg 2).trans (en rfl (en rfl (en rfl (en rfl (en rfl s2)))))
  have s6 := (hg 6).trans (en rfl (en rfl (en rfl (en rfl (en rfl s6)))))
  have s7 := (hg 7).trans es
  clear hg
  refine xc_seq (fun K hK4 => ?_)
  refine xc_region ?_
  refine x_val (r_move s7) (nd_of rfl) rfl ?_
  refine x_val (r_neq es ec (decide_eq_false (by rw [if_pos hp2]; decide))) (nd_of rfl) rfl ?_
  refine xw_nil ?_
  refine hK4 _ _ ?_
  refine xc_gen (fun g hg => ?_)
  have s0 := (hg 0).trans (en rfl (en rfl s0))
  have s1 := (hg 1).trans (en rfl (en rfl s1))
  have s2 := (hg 2).trans (en rfl (en rfl s2))
  have s6 := (hg 6).trans (en rfl (en rfl s6))
  have s7 := (hg 7).trans (en rfl (en rfl s7))
  have s13 := (hg 13).trans es
  clear hg
  refine xc_cond s13 (fun hc => by cases hc) (fun _ => ?_)
  refine xc_skip ?_
  refine hK2 _ _ ?_
  refine xc_seq (fun K hK5 => ?_)
  refine xc_region ?_
  refine x_val (r_move s0) (nd_of rfl) rfl ?_
  refine x_enter (r_call Try.call25 (.cons es .nil)) (nd_of rfl) rfl (tree_o h) ?_
  rintro _ w ⟨bt, ba, rfl, h⟩
  refine x_val (r_move (en rfl (en rfl s1))) (nd_of rfl) rfl ?_
  refine x_val (r_move (en rfl (en rfl (en rfl s2)))) (nd_of rfl) rfl ?_
  have h := h.f1
  refine x_enter (r_call Try.call26 (.cons (en rfl (en rfl es)) (.cons (en rfl es) (.cons es (.cons ec .nil))))) (nd_of rfl) rfl (replace_t (B' := B') (l := []) slc_nil (by omega) (by omega) (by simp only [List.length_nil]; omega) hBB hB' (by simp only [sz]; omega) h) ?_
  rintro _ w h
  refine xw_nil ?_
  refine hK5 _ _ ?_
  refine xc_gen (fun g hg => ?_)
  have s0 := (hg 0).trans (en rfl (en rfl (en rfl (en rfl (en rfl s0)))))
  have s1 := (hg 1).trans (en rfl (en rfl (en rfl (en rfl (en rfl s1)))))
  have s2 := (hg 2).trans (en rfl (en rfl (en rfl (en rfl (en rfl s2)))))
  have s6 := (hg 6).trans (en rfl (en rfl (en rfl (en rfl (en rfl s6)))))
  have s7 := (hg 7).trans (en rfl (en rfl (en rfl (en rfl (en rfl s7)))))
  have s13 := (hg 13).trans (en rfl (en rfl (en rfl (en rfl (en rfl s13)))))
  clear hg
  refine xc_seq (fun K hK6 => ?_)
  rw [hre] at h
  have h := h.f2
  have h := h.f1
  have h := h.f2
  refine xc_region ?_
  refine x_val (r_assign ec) (nd_of rfl) rfl ?_
  refine xw_nil ?_
  refine hK6 _ _ ?_
  refine xc_gen (fun g hg => ?_)
  have s0 := (hg 0).trans (en rfl s0)
  have s1 := (hg 1).trans (en rfl s1)
  have s2 := (hg 2).trans (en rfl s2)
  have s6 := (hg 6).trans es
  have s7 := (hg 7).trans (en rfl s7)
  have s13 := (hg 13).trans (en rfl s13)
  clear hg
  refine xc_ret ?_
  refine bodyR_1 rfl s6 ?_
  exact ⟨rfl, SatL.closePa ((SatL.rowsApp ((((SatL.closeObj h).f1.rowsSplit ni).f1.rowsSplit (nj - ni)).drop.f1 |> fun h => by rw [List.drop_drop, List.drop_drop, show ni + (nj - ni) = nj by omega] at h; exact h)).f1)⟩
end
end Go.Proofs.Ytonnijghdlakfaa
