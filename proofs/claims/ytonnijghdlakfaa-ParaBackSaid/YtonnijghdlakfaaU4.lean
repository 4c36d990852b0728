/-
Records: Insert, Over, At.
-/
import Derived.Test.YtonnijghdlakfaaU3
namespace Go.Proofs.Ytonnijghdlakfaa
open Go Go.RowKit
section
variable {E : Env} {R : List SProp} {w : World} {b bt ba B B' : Nat} {L M : List (List Atr)} {xs : List Value} {v : Value}
theorem SReads.weak {R' : List SProp} (h : SReads E R v xs M) (hp : ∀ w, SatL E w R' → SatL E w R) : SReads E R' v xs M := by
  obtain ⟨a, cap, e, h0, h1, h2, h3⟩ := h
  exact ⟨a, cap, e, h0, h1, fun w hw => h2 w (hp w hw), fun k x l hx hl => (h3 k x l hx hl).weak hp⟩
theorem delete_noP {i j : Int} (hp : ¬ isPart L.length i j) (h : SatL E w (Pa b L B :: R)) : Calls Try.prog 11 #[pT b, .int .i64 i, .int .i64 j] w (Ret fun v w' => v = .int .i64 5 ∧ SatL E w' (Pa b L B :: R)) := by
  obtain ⟨xs, h⟩ := h.openPa
  have hl := h.f1.rowsLen
  rw [← hl, ← sz_len] at hp
  refine calls_x Try.func11 rfl Try.ntmps11 rfl ?_
  refine xc_gen (fun g hg => ?_)
  have s0 := (hg 0).trans arg0
  have s1 := (hg 1).trans arg1
  have s2 := (hg 2).trans arg2
  clear hg
  refine xc_seq (fun K hK1 => ?_)
  refine xc_region ?_
  refine x_val (r_assign ec) (nd_of rfl) rfl ?_
  refine xw_nil ?_
  refine hK1 _ _ ?_
  refine xc_gen (fun g hg => ?_)
  have s0 := (hg 0).trans (en rfl s0)
  have s1 := (hg 1).trans (en rfl s1)
  have s2 := (hg 2).trans (en rfl s2)
  have s6 := (hg 6).trans es
  clear hg
  refine xc_seq (fun K hK2 => ?_)
  refine xc_seq (fun K hK3 => ?_)
  refine xc_region ?_
  refine x_val (r_move s0) (nd_of rfl) rfl ?_
  refine x_val (r_move (en rfl s1)) (nd_of rfl) rfl ?_
  refine x_val (r_move (en rfl (en rfl s2))) (nd_of rfl) rfl ?_
  refine x_enter (r_call Try.call24 (.cons (en rfl (en rfl es)) (.cons (en rfl es) (.cons es .nil)))) (nd_of rfl) rfl (between_o h) ?_
  rintro _ w ⟨rfl, h⟩
  refine x_val (r_assign es) (nd_of rfl) rfl ?_
  refine xw_nil ?_
  refine hK3 _ _ ?_
  refine xc_gen (fun g hg => ?_)
  have s0 := (hg 0).trans (en rfl (en rfl (en rfl (en rfl (en rfl s0)))))
  have s1 := (hg 1).trans (en rfl (en rfl (en rfl (en rfl (en rfl s1)))))
  have s2 := (hg 2).trans (en rfl (en rfl (en rfl (en rfl (en rfl s2)))))
  have s6 := (hg 6).trans (en rfl (en rfl (en rfl (en rfl (en rfl s6)))))
  have s7 := (hg 7).trans es
  clear hg
  refine xc_seq (fun K hK4 => ?_)
  refine xc_region ?_
  refine x_val (r_move s7) (nd_of rfl) rfl ?_
  refine x_val (r_neq es ec (decide_eq_true (by rw [if_neg hp]; decide))) (nd_of rfl) rfl ?_
  refine xw_nil ?_
  refine hK4 _ _ ?_
  refine xc_gen (fun g hg => ?_)
  have s0 := (hg 0).trans (en rfl (en rfl s0))
  have s1 := (hg 1).trans (en rfl (en rfl s1))
  have s2 := (hg 2).trans (en rfl (en rfl s2))
  have s6 := (hg 6).trans (en rfl (en rfl s6))
  have s7 := (hg 7).trans (en rfl (en rfl s7))
  have s13 := (hg 13).trans es
  clear hg
  refine xc_cond s13 (fun _ => ?_) (fun hc => by cases hc)
  refine xc_seq (fun K hK5 => ?_)
  refine xc_region ?_
  refine x_val (r_move s7) (nd_of rfl) rfl ?_
  refine x_val (r_assign es) (nd_of rfl) rfl ?_
  refine xw_nil ?_
  refine hK5 _ _ ?_
  refine xc_gen (fun g hg => ?_)
  have s0 := (hg 0).trans (en rfl (en rfl s0))
  have s1 := (hg 1).trans (en rfl (en rfl s1))
  have s2 := (hg 2).trans (en rfl (en rfl s2))
  have s6 := (hg 6).trans es
  have s7 := (hg 7).trans (en rfl (en rfl s7))
  have s13 := (hg 13).trans (en rfl (en rfl s13))
  clear hg
  refine xc_ret ?_
  refine bodyR_1 rfl s6 ?_
  exact ⟨by rw [if_neg hp], SatL.closePa h⟩
theorem SatL.paMono (hBB : B ≤ B') (h : SatL E w (Pa b L B :: R)) : SatL E w (Pa b L B' :: R) := by
  obtain ⟨xs, h⟩ := h.openPa
  refine SatL.closePa (xs := xs) ?_
  rcases h.openObj with ⟨e, h1⟩ | ⟨bt, ba, h1⟩
  · rw [e] at h1 ⊢; exact SatL.closeObj0 h1
  · exact SatL.closeObj ((h1.f1.treeMono hBB).f1)
theorem insert_noP {i : Int} (hp : ¬ isPart L.length i i) (h : SatL E w (Pa b L B :: R)) : Calls Try.prog 10 #[pT b, .int .i64 i, v] w (Ret fun v w' => v = .int .i64 5 ∧ SatL E w' (Pa b L B :: R)) := by
  obtain ⟨ys, h⟩ := h.openPa
  have hl := h.f1.rowsLen
  rw [← hl, ← sz_len] at hp
  refine calls_x Try.func10 rfl Try.ntmps10 rfl ?_
  refine xc_gen (fun g hg => ?_)
  have s0 := (hg 0).trans arg0
  have s1 := (hg 1).trans arg1
  have s2 := (hg 2).trans arg2
  clear hg
  refine xc_seq (fun K hK1 => ?_)
  refine xc_region ?_
  refine x_val (r_assign ec) (nd_of rfl) rfl ?_
  refine xw_nil ?_
  refine hK1 _ _ ?_
  refine xc_gen (fun g hg => ?_)
  have s0 := (hg 0).trans (en rfl s0)
  have s1 := (hg 1).trans (en rfl s1)
  have s2 := (hg 2).trans (en rfl s2)
  have s6 := (hg 6).trans es
  clear hg
  refine xc_seq (fun K hK2 => ?_)
  refine xc_seq (fun K hK3 => ?_)
  refine xc_region ?_
  refine x_val (r_move s0) (nd_of rfl) rfl ?_
  refine x_val (r_move (en rfl s1)) (nd_of rfl) rfl ?_
  refine x_val (r_move (en rfl (en rfl s1))) (nd_of rfl) rfl ?_
  refine x_enter (r_call Try.call24 (.cons (en rfl (en rfl es)) (.cons (en rfl es) (.cons es .nil)))) (nd_of rfl) rfl (between_o h) ?_
  rintro _ w ⟨rfl, h⟩
  refine x_val (r_assign es) (nd_of rfl) rfl ?_
  refine xw_nil ?_
  refine hK3 _ _ ?_
  refine xc_gen (fun g hg => ?_)
  have s0 := (hg 0).trans (en rfl (en rfl (en rfl (en rfl (en rfl s0)))))
  have s1 := (hg 1).trans (en rfl (en rfl (en rfl (en rfl (en rfl s1)))))
  have s2 := (hg 2).trans (en rfl (en rfl (en rfl (en rfl (en rfl s2)))))
  have s6 := (hg 6).trans (en rfl (en rfl (en rfl (en rfl (en rfl s6)))))
  have s7 := (hg 7).trans es
  clear hg
  refine xc_seq (fun K hK4 => ?_)
  refine xc_region ?_
  refine x_val (r_move s7) (nd_of rfl) rfl ?_
  refine x_val (r_neq es ec (decide_eq_true (by rw [if_neg hp]; decide))) (nd_of rfl) rfl ?_
  refine xw_nil ?_
  refine hK4 _ _ ?_
  refine xc_gen (fun g hg => ?_)
  have s0 := (hg 0).trans (en rfl (en rfl s0))
  have s1 := (hg 1).trans (en rfl (en rfl s1))
  have s2 := (hg 2).trans (en rfl (en rfl s2))
  have s6 := (hg 6).trans (en rfl (en rfl s6))
  have s7 := (hg 7).trans (en rfl (en rfl s7))
  have s13 := (hg 13).trans es
  clear hg
  refine xc_cond s13 (fun _ => ?_) (fun hc => by cases hc)
  refine xc_seq (fun K hK5 => ?_)
  refine xc_region ?_
  refine x_val (r_move s7) (nd_of rfl) rfl ?_
  refine x_val (r_assign es) (nd_of rfl) rfl ?_
  refine xw_nil ?_
  refine hK5 _ _ ?_
  refine xc_gen (fun g hg => ?_)
  have s0 := (hg 0).trans (en rfl (en rfl s0))
  have s1 := (hg 1).trans (en rfl (en rfl s1))
  have s2 := (hg 2).trans (en rfl (en rfl s2))
  have s6 := (hg 6).trans es
  have s7 := (hg 7).trans (en rfl (en rfl s7))
  have s13 := (hg 13).trans (en rfl (en rfl s13))
  clear hg
  refine xc_ret ?_
  refine bodyR_1 rfl s6 ?_
  exact ⟨by rw [if_neg hp], SatL.closePa h⟩
theorem insertP {i : Int} (hv : SReads E R v xs M) (hM : ∀ l ∈ M, l.length ≤ 1000000) (hp : isPart L.length i i) (hB : L.length + M.length + 4 ≤ B') (hBB : B ≤ B') (hB' : B' ≤ 1000000) (h : SatL E w (Pa b L B :: R)) :
    Calls Try.prog 10 #[pT b, .int .i64 i, v] w (Ret fun u w' => u = .int .i64 0 ∧ SatL E w' (Pa b (L.take i.toNat ++ (M ++ L.drop i.toNat)) B' :: R)) := by
  obtain ⟨ys, h⟩ := h.openPa
  have hl := h.f1.rowsLen
  have hsl := sz_len ys
  have hp2 : isPart (sz ys) i i := by rw [hsl, hl]; exact hp
  obtain ⟨h0, h1, h2⟩ := hp
  obtain ⟨ni, rfl⟩ := Int.eq_ofNat_of_zero_le h0
  rw [Int.toNat_natCast]
  have hv2 := hv
  obtain ⟨av, cv, rfl, _, hxl, _, _⟩ := hv
  refine calls_x Try.func10 rfl Try.ntmps10 rfl ?_
  refine xc_gen (fun g hg => ?_)
  have s0 := (hg 0).trans arg0
  have s1 := (hg 1).trans arg1
  have s2 := (hg 2).trans arg2
  clear hg
  refine xc_seq (fun K hK1 => ?_)
  refine xc_region ?_
  refine x_val (r_assign ec) (nd_of rfl) rfl ?_
  refine xw_nil ?_
  refine hK1 _ _ ?_
  refine xc_gen (fun g hg => ?_)
  have s0 := (hg 0).trans (en rfl s0)
  have s1 := (hg 1).trans (en rfl s1)
  have s2 := (hg 2).trans (en rfl s2)
  have s6 := (hg 6).trans es
  clear hg
  refine xc_seq (fun K hK2 => ?_)
  refine xc_seq (fun K hK3 => ?_)
  refine xc_region ?_
  refine x_val (r_move s0) (nd_of rfl) rfl ?_
  refine x_val (r_move (en rfl s1)) (nd_of rfl) rfl ?_
  refine x_val (r_move (en rfl (en rfl s1))) (nd_of rfl) rfl ?_
  refine x_enter (r_call Try.call24 (.cons (en rfl (en rfl es)) (.cons (en rfl es) (.cons es .nil)))) (nd_of rfl) rfl (between_o h) ?_
  rintro _ w ⟨rfl, h⟩
  refine x_val (r_assign es) (nd_of rfl) rfl ?_
  refine xw_nil ?_
  refine hK3 _ _ ?_
  refine xc_gen (fun g hg => ?_)
  have s0 := (hg 0).trans (en rfl (en rfl (en rfl (en rfl (en rfl s0)))))
  have s1 := (hg 1).trans (en rfl (en rfl (en rfl (en rfl (en rfl s1)))))
  have s2 := (hg 2).trans (en rfl (en rfl (en rfl (en rfl (en rfl s2)))))
  have s6 := (hg 6).trans (en rfl (en rfl (en rfl (en rfl (en rfl s6)))))
  have s7 := (hg 7).trans es
  clear hg
  refine xc_seq (fun K hK4 => ?_)
  refine xc_region ?_
  refine x_val (r_move s7) (nd_of rfl) rfl ?_
  refine x_val (r_neq es ec (decide_eq_false (by rw [if_pos hp2]; decide))) (nd_of rfl) rfl ?_
  refine xw_nil ?_
  refine hK4 _ _ ?_
  refine xc_gen (fun g hg => ?_)
  have s0 := (hg 0).trans (en rfl (en rfl s0))
  have s1 := (hg 1).trans (en rfl (en rfl s1))
  have s2 := (hg 2).trans (en rfl (en rfl s2))
  have s6 := (hg 6).trans (en rfl (en rfl s6))
  have s7 := (hg 7).trans (en rfl (en rfl s7))
  have s13 := (hg 13).trans es
  clear hg
  refine xc_cond s13 (fun hc => by cases hc) (fun _ => ?_)
  refine xc_skip ?_
  refine hK2 _ _ ?_
  refine xc_seq (fun K hK5 => ?_)
  refine xc_seq (fun K hK6 => ?_)
  refine xc_region ?_
  refine x_val (r_move s2) (nd_of rfl) rfl ?_
  refine x_val (r_len Try.underlying23 es) (nd_of rfl) rfl ?_
  refine x_val (r_move (en rfl (en rfl s0))) (nd_of rfl) rfl ?_
  refine x_enter (r_call Try.call14 (.cons es .nil)) (nd_of rfl) rfl (len_o h) ?_
  rintro _ w ⟨rfl, h⟩
  refine x_val (r_sub ec es (show _ = ((536870912 : Int) - sz ys : Int) from by rfl) (by unfold I64; omega)) (nd_of rfl) rfl ?_
  refine x_val (r_gtr (en rfl (en rfl (en rfl es))) es (decide_eq_false (by omega))) (nd_of rfl) rfl ?_
  refine xw_nil ?_
  refine hK6 _ _ ?_
  refine xc_gen (fun g hg => ?_)
  have s0 := (hg 0).trans (en rfl (en rfl (en rfl (en rfl (en rfl (en rfl s0))))))
  have s1 := (hg 1).trans (en rfl (en rfl (en rfl (en rfl (en rfl (en rfl s1))))))
  have s2 := (hg 2).trans (en rfl (en rfl (en rfl (en rfl (en rfl (en rfl s2))))))
  have s6 := (hg 6).trans (en rfl (en rfl (en rfl (en rfl (en rfl (en rfl s6))))))
  have s7 := (hg 7).trans (en rfl (en rfl (en rfl (en rfl (en rfl (en rfl s7))))))
  have s13 := (hg 13).trans (en rfl (en rfl (en rfl (en rfl (en rfl (en rfl s13))))))
  have s20 := (hg 20).trans es
  clear hg
  refine xc_cond s20 (fun hc => by cases hc) (fun _ => ?_)
  refine xc_skip ?_
  refine hK5 _ _ ?_
  refine xc_seq (fun K hK7 => ?_)
  refine xc_region ?_
  refine x_val (r_move s0) (nd_of rfl) rfl ?_
  refine x_enter (r_call Try.call25 (.cons es .nil)) (nd_of rfl) rfl (tree_o h) ?_
  rintro _ w ⟨bt, ba, rfl, h⟩
  refine x_val (r_move (en rfl (en rfl s1))) (nd_of rfl) rfl ?_
  refine x_val (r_move (en rfl (en rfl (en rfl s1)))) (nd_of rfl) rfl ?_
  refine x_val (r_move (en rfl (en rfl (en rfl (en rfl s2))))) (nd_of rfl) rfl ?_
  refine x_enter (r_call Try.call27 (.cons es .nil)) (nd_of rfl) rfl (copied_ok (hv2.weak (fun w h => h.drop.drop.drop)) (by omega) hM h) ?_
  rintro _ w ⟨zs, h⟩
  have hml := h.f1.rowsLen
  have hmo := h.f1.rowsOk
  have h := h.f3
  refine x_enter (r_call Try.call26 (.cons (en rfl (en rfl (en rfl (en rfl es)))) (.cons (en rfl (en rfl (en rfl es))) (.cons (en rfl (en rfl es)) (.cons es .nil))))) (nd_of rfl) rfl (replace_t (B' := B') (slc_row hmo h.drop) (i := ni) (j := ni) (Nat.le_refl _) (by omega) (by omega) hBB (by omega) (by rw [sz_len, sz_len]; omega) h) ?_
  rintro _ w h
  refine xw_nil ?_
  refine hK7 _ _ ?_
  refine xc_gen (fun g hg => ?_)
  have s0 := (hg 0).trans (en rfl (en rfl (en rfl (en rfl (en rfl (en rfl (en rfl s0)))))))
  have s1 := (hg 1).trans (en rfl (en rfl (en rfl (en rfl (en rfl (en rfl (en rfl s1)))))))
  have s2 := (hg 2).trans (en rfl (en rfl (en rfl (en rfl (en rfl (en rfl (en rfl s2)))))))
  have s6 := (hg 6).trans (en rfl (en rfl (en rfl (en rfl (en rfl (en rfl (en rfl s6)))))))
  have s7 := (hg 7).trans (en rfl (en rfl (en rfl (en rfl (en rfl (en rfl (en rfl s7)))))))
  have s13 := (hg 13).trans (en rfl (en rfl (en rfl (en rfl (en rfl (en rfl (en rfl s13)))))))
  have s20 := (hg 20).trans (en rfl (en rfl (en rfl (en rfl (en rfl (en rfl (en rfl s20)))))))
  clear hg
  refine xc_seq (fun K hK8 => ?_)
  rw [replL_eq (Nat.le_refl _)] at h
  have h := h.f1
  have h := h.f4
  have h := h.f3
  have h := h.f3
  have h := h.f4
  refine xc_region ?_
  refine x_val (r_assign ec) (nd_of rfl) rfl ?_
  refine xw_nil ?_
  refine hK8 _ _ ?_
  refine xc_gen (fun g hg => ?_)
  have s0 := (hg 0).trans (en rfl s0)
  have s1 := (hg 1).trans (en rfl s1)
  have s2 := (hg 2).trans (en rfl s2)
  have s6 := (hg 6).trans es
  have s7 := (hg 7).trans (en rfl s7)
  have s13 := (hg 13).trans (en rfl s13)
  have s20 := (hg 20).trans (en rfl s20)
  clear hg
  refine xc_ret ?_
  refine bodyR_1 rfl s6 ?_
  exact ⟨rfl, SatL.closePa ((SatL.rowsApp ((SatL.rowsApp (((SatL.closeObj h).f3.drop).f2.rowsSplit ni |> fun h => (h.f1.f3))).f1)).f1)⟩
end
end Go.Proofs.Ytonnijghdlakfaa
