/-
Records: Over, At.
-/
import Derived.Test.YtonnijghdlakfaaU4
namespace Go.Proofs.Ytonnijghdlakfaa
open Go Go.RowKit
section
variable {E : Env} {R : List SProp} {w : World} {b bt ba B B' : Nat} {L M : List (List Atr)} {xs zs : List Value} {v : Value}
theorem collect_t {i j c1 c2 c3 : Nat} (hi : i ≤ 1000000000000) (hj : j ≤ 1000000000000) (hl : (overL xs i j).length ≤ 1000000000)
    (h : SatL E w (Cells c3 #[.int .i64 (j : Int)] 3 :: Cells c2 #[.int .i64 (i : Int)] 3 :: Cells c1 #[pT bt] 52 :: TreeB bt ba xs B :: R)) :
    Calls Try.prog 29 #[.func (.func 51) #[] #[.pointer (some ⟨c1, 0, none⟩), .pointer (some ⟨c2, 0, none⟩), .pointer (some ⟨c3, 0, none⟩)]] w (Ret fun u w' => SatL E w' (XRow u (overL xs i j) :: TreeB bt ba xs B :: R)) := by
  refine calls_x Try.func29 rfl Try.ntmps29 rfl ?_
  refine xc_gen (fun g hg => ?_)
  have s0 := (hg 0).trans arg0
  clear hg
  refine xc_seq (fun K hK1 => ?_)
  refine xc_region ?_
  refine x_val (r_assign ec) (nd_of rfl) rfl ?_
  refine xw_nil ?_
  refine hK1 _ _ ?_
  refine xc_gen (fun g hg => ?_)
  have s0 := (hg 0).trans (en rfl s0)
  have s2 := (hg 2).trans es
  clear hg
  refine xc_seq (fun K hK2 => ?_)
  refine xc_region ?_
  refine x_val (r_move s0) (nd_of rfl) rfl ?_
  refine x_enter (r_call Try.call50 (.cons ec (.cons es .nil))) (nd_of rfl) rfl (appendSeq_t hi hj hl h) ?_
  rintro _ w h
  refine x_val (r_assign es) (nd_of rfl) rfl ?_
  refine xw_nil ?_
  refine hK2 _ _ ?_
  refine xc_gen (fun g hg => ?_)
  have s0 := (hg 0).trans (en rfl (en rfl (en rfl s0)))
  have s2 := (hg 2).trans es
  clear hg
  refine xc_ret ?_
  refine bodyR_1 rfl s2 ?_
  exact h
theorem s_row {w0 : World} (ho : ∀ x ∈ zs, xOk x) (h0 : SatL E w0 (XRow v zs :: R)) (hl : zs.length = M.length) (hR : ∀ (k : Nat) (x : Value) (l : List Atr), zs[k]? = some x → M[k]? = some l → AReads E (XRow v zs :: R) x l) : SReads E (XRow v zs :: R) v zs M := by
  obtain ⟨a, cap, rfl, hle, _⟩ := h0.rowVal
  refine ⟨a, cap, rfl, hle, hl, fun w h k x hx => ?_, hR⟩
  obtain ⟨a2, c2, e, _, hs⟩ := slc_row ho h0
  cases e
  rcases hs w h with ⟨h1, _⟩ | ⟨ad, e, h1⟩
  · have := (List.getElem?_eq_some_iff.1 hx).1; omega
  · exact ⟨ad, e, h1 k x (by rw [flat_vals]; exact hx)⟩
theorem over_noP {i j : Int} (hp : ¬ isPart L.length i j) (h : SatL E w (Pa b L B :: R)) : Calls Try.prog 13 #[pT b, .int .i64 i, .int .i64 j] w (Ret fun u w' => u = .tuple #[.slice none 0 0, .int .i64 5] ∧ SatL E w' (Pa b L B :: R)) := by
  obtain ⟨xs, h⟩ := h.openPa
  have hl := h.f1.rowsLen
  rw [← hl, ← sz_len] at hp
  refine calls_x Try.func13 rfl Try.ntmps13 rfl ?_
  refine xc_gen (fun g hg => ?_)
  have s0 := (hg 0).trans arg0
  have s1 := (hg 1).trans arg1
  have s2 := (hg 2).trans arg2
  clear hg
  refine xc_seq (fun K hK1 => ?_)
  refine xc_region ?_
  refine x_val (r_assign ec) (nd_of rfl) rfl ?_
  refine x_val (r_assign ec) (nd_of rfl) rfl ?_
  refine xw_nil ?_
  refine hK1 _ _ ?_
  refine xc_gen (fun g hg => ?_)
  have s0 := (hg 0).trans (en rfl (en rfl s0))
  have s1 := (hg 1).trans (en rfl (en rfl s1))
  have s2 := (hg 2).trans (en rfl (en rfl s2))
  have s6 := (hg 6).trans (en rfl es)
  have s7 := (hg 7).trans es
  clear hg
  refine xc_seq (fun K hK2 => ?_)
  refine xc_seq (fun K hK3 => ?_)
  refine xc_region ?_
  refine x_val (r_move s0) (nd_of rfl) rfl ?_
  refine x_val (r_move (en rfl s1)) (nd_of rfl) rfl ?_
  refine x_val (r_move (en rfl (en rfl s2))) (nd_of rfl) rfl ?_
  refine x_enter (r_call Try.call24 (.cons (en rfl (en rfl es)) (.cons (en rfl es) (.cons es .nil)))) (nd_of rfl) rfl (between_o h) ?_
  rintro _ w ⟨rfl, h⟩
  refine x_val (r_assign es) (nd_of rfl) rfl ?_
  refine xw_nil ?_
  refine hK3 _ _ ?_
  refine xc_gen (fun g hg => ?_)
  have s0 := (hg 0).trans (en rfl (en rfl (en rfl (en rfl (en rfl s0)))))
  have s1 := (hg 1).trans (en rfl (en rfl (en rfl (en rfl (en rfl s1)))))
  have s2 := (hg 2).trans (en rfl (en rfl (en rfl (en rfl (en rfl s2)))))
  have s6 := (hg 6).trans (en rfl (en rfl (en rfl (en rfl (en rfl s6)))))
  have s7 := (hg 7).trans (en rfl (en rfl (en rfl (en rfl (en rfl s7)))))
  have s8 := (hg 8).trans es
  clear hg
  refine xc_seq (fun K hK4 => ?_)
  refine xc_region ?_
  refine x_val (r_move s8) (nd_of rfl) rfl ?_
  refine x_val (r_neq es ec (decide_eq_true (by rw [if_neg hp]; decide))) (nd_of rfl) rfl ?_
  refine xw_nil ?_
  refine hK4 _ _ ?_
  refine xc_gen (fun g hg => ?_)
  have s0 := (hg 0).trans (en rfl (en rfl s0))
  have s1 := (hg 1).trans (en rfl (en rfl s1))
  have s2 := (hg 2).trans (en rfl (en rfl s2))
  have s6 := (hg 6).trans (en rfl (en rfl s6))
  have s7 := (hg 7).trans (en rfl (en rfl s7))
  have s8 := (hg 8).trans (en rfl (en rfl s8))
  have s14 := (hg 14).trans es
  clear hg
  refine xc_cond s14 (fun _ => ?_) (fun hc => by cases hc)
  refine xc_seq (fun K hK5 => ?_)
  refine xc_region ?_
  refine x_val (r_move s8) (nd_of rfl) rfl ?_
  refine x_val (r_assign ec) (nd_of rfl) rfl ?_
  refine x_val (r_assign (en rfl es)) (nd_of rfl) rfl ?_
  refine xw_nil ?_
  refine hK5 _ _ ?_
  refine xc_gen (fun g hg => ?_)
  have s0 := (hg 0).trans (en rfl (en rfl (en rfl s0)))
  have s1 := (hg 1).trans (en rfl (en rfl (en rfl s1)))
  have s2 := (hg 2).trans (en rfl (en rfl (en rfl s2)))
  have s6 := (hg 6).trans (en rfl es)
  have s7 := (hg 7).trans es
  have s8 := (hg 8).trans (en rfl (en rfl (en rfl s8)))
  have s14 := (hg 14).trans (en rfl (en rfl (en rfl s14)))
  clear hg
  refine xc_ret ?_
  refine bodyR_2 rfl s6 s7 ?_
  exact ⟨by rw [if_neg hp], SatL.closePa h⟩
theorem overP {i j : Int} (hp : isPart L.length i j) (hb : L.length ≤ 1000000) (hL : ∀ l ∈ L, l.length ≤ 1000000) (h : SatL E w (Pa b L B :: R)) :
    Calls Try.prog 13 #[pT b, .int .i64 i, .int .i64 j] w (Ret fun u w' => ∃ v ys, u = .tuple #[v, .int .i64 0] ∧ SatL E w' (XRow v ys :: RowsL ys ((L.take j.toNat).drop i.toNat) :: Pa b L B :: R)) := by
  obtain ⟨xs, h⟩ := h.openPa
  have hl := h.f1.rowsLen
  have hxo := h.f1.rowsOk
  have hsl := sz_len xs
  have hp2 : isPart (sz xs) i j := by rw [hsl, hl]; exact hp
  obtain ⟨h0, h1, h2⟩ := hp
  obtain ⟨ni, rfl⟩ := Int.eq_ofNat_of_zero_le h0
  obtain ⟨nj, rfl⟩ := Int.eq_ofNat_of_zero_le (Int.le_trans h0 h1)
  rw [Int.toNat_natCast, Int.toNat_natCast]
  have hov := overL_eq xs ni nj
  have hol : (overL xs ni nj).length ≤ xs.length := by rw [hov, List.length_drop, List.length_take]; omega
  refine calls_x Try.func13 rfl Try.ntmps13 rfl ?_
  refine xc_gen (fun g hg => ?_)
  have s0 := (hg 0).trans arg0
  have s1 := (hg 1).trans arg1
  have s2 := (hg 2).trans arg2
  clear hg
  refine xc_seq (fun K hK1 => ?_)
  refine xc_region ?_
  refine x_val (r_assign ec) (nd_of rfl) rfl ?_
  refine x_val (r_assign ec) (nd_of rfl) rfl ?_
  refine xw_nil ?_
  refine hK1 _ _ ?_
  refine xc_gen (fun g hg => ?_)
  have s0 := (hg 0).trans (en rfl (en rfl s0))
  have s1 := (hg 1).trans (en rfl (en rfl s1))
  have s2 := (hg 2).trans (en rfl (en rfl s2))
  have s6 := (hg 6).trans (en rfl es)
  have s7 := (hg 7).trans es
  clear hg
  refine xc_seq (fun K hK2 => ?_)
  refine xc_seq (fun K hK3 => ?_)
  refine xc_region ?_
  refine x_val (r_move s0) (nd_of rfl) rfl ?_
  refine x_val (r_move (en rfl s1)) (nd_of rfl) rfl ?_
  refine x_val (r_move (en rfl (en rfl s2))) (nd_of rfl) rfl ?_
  refine x_enter (r_call Try.call24 (.cons (en rfl (en rfl es)) (.cons (en rfl es) (.cons es .nil)))) (nd_of rfl) rfl (between_o h) ?_
  rintro _ w ⟨rfl, h⟩
  refine x_val (r_assign es) (nd_of rfl) rfl ?_
  refine xw_nil ?_
  refine hK3 _ _ ?_
  refine xc_gen (fun g hg => ?_)
  have s0 := (hg 0).trans (en rfl (en rfl (en rfl (en rfl (en rfl s0)))))
  have s1 := (hg 1).trans (en rfl (en rfl (en rfl (en rfl (en rfl s1)))))
  have s2 := (hg 2).trans (en rfl (en rfl (en rfl (en rfl (en rfl s2)))))
  have s6 := (hg 6).trans (en rfl (en rfl (en rfl (en rfl (en rfl s6)))))
  have s7 := (hg 7).trans (en rfl (en rfl (en rfl (en rfl (en rfl s7)))))
  have s8 := (hg 8).trans es
  clear hg
  refine xc_seq (fun K hK4 => ?_)
  refine xc_region ?_
  refine x_val (r_move s8) (nd_of rfl) rfl ?_
  refine x_val (r_neq es ec (decide_eq_false (by rw [if_pos hp2]; decide))) (nd_of rfl) rfl ?_
  refine xw_nil ?_
  refine hK4 _ _ ?_
  refine xc_gen (fun g hg => ?_)
  have s0 := (hg 0).trans (en rfl (en rfl s0))
  have s1 := (hg 1).trans (en rfl (en rfl s1))
  have s2 := (hg 2).trans (en rfl (en rfl s2))
  have s6 := (hg 6).trans (en rfl (en rfl s6))
  have s7 := (hg 7).trans (en rfl (en rfl s7))
  have s8 := (hg 8).trans (en rfl (en rfl s8))
  have s14 := (hg 14).trans es
  clear hg
  refine xc_cond s14 (fun hc => by cases hc) (fun _ => ?_)
  refine xc_skip ?_
  refine hK2 _ _ ?_
  refine xc_seq (fun K hK5 => ?_)
  refine xc_region ?_
  refine x_val (r_move s0) (nd_of rfl) rfl ?_
  refine x_enter (r_call Try.call25 (.cons es .nil)) (nd_of rfl) rfl (tree_o h) ?_
  rintro _ w ⟨bt, ba, rfl, h⟩
  refine x_val (r_move (en rfl (en rfl s1))) (nd_of rfl) rfl ?_
  refine x_val (r_move (en rfl (en rfl (en rfl s2)))) (nd_of rfl) rfl ?_
  refine x_enter (r_call Try.call30 (.cons (en rfl (en rfl es)) (.cons (en rfl es) (.cons es .nil)))) (nd_of rfl) rfl (over_mk (i := ni) (j := nj) h) ?_
  rintro _ w ⟨c1, c2, c3, rfl, h⟩
  have h := h.f4
  have h := h.f3
  have h := h.f3
  have h := h.f3
  refine x_enter (r_call Try.call29 (.cons es .nil)) (nd_of rfl) rfl (collect_t (i := ni) (j := nj) (by omega) (by omega) (by omega) h) ?_
  rintro _ w h
  rw [hov] at h hol
  refine x_enter (r_call Try.call27 (.cons es .nil)) (nd_of rfl) rfl (copied_ok (s_row (M := (L.take nj).drop ni) (fun x hx => hxo x (List.mem_of_mem_take (List.mem_of_mem_drop hx))) h (by rw [List.length_drop, List.length_drop, List.length_take, List.length_take, hl]) (fun k x l hx hl2 => by rw [List.getElem?_drop, List.getElem?_take] at hx hl2; rcases Nat.lt_or_ge (ni + k) nj with hlt | hlt; (rw [if_pos hlt] at hx hl2; exact (rowsReads hx hl2 h.f3).weak fun _ h => h.f3); rw [if_neg (Nat.not_lt.2 hlt)] at hx; cases hx)) (by omega) (fun l hl2 => hL l (List.mem_of_mem_take (List.mem_of_mem_drop hl2))) h) ?_
  rintro _ w ⟨ys, h⟩
  have h := h.f2
  have h := h.f2
  have h := h.f2
  have h := h.f5
  have h := h.f4
  have h := h.f5
  refine x_val (r_assign es) (nd_of rfl) rfl ?_
  refine x_val (r_assign ec) (nd_of rfl) rfl ?_
  refine xw_nil ?_
  refine hK5 _ _ ?_
  refine xc_gen (fun g hg => ?_)
  have s0 := (hg 0).trans (en rfl (en rfl (en rfl (en rfl (en rfl (en rfl (en rfl (en rfl (en rfl s0)))))))))
  have s1 := (hg 1).trans (en rfl (en rfl (en rfl (en rfl (en rfl (en rfl (en rfl (en rfl (en rfl s1)))))))))
  have s2 := (hg 2).trans (en rfl (en rfl (en rfl (en rfl (en rfl (en rfl (en rfl (en rfl (en rfl s2)))))))))
  have s6 := (hg 6).trans (en rfl es)
  have s7 := (hg 7).trans es
  have s8 := (hg 8).trans (en rfl (en rfl (en rfl (en rfl (en rfl (en rfl (en rfl (en rfl (en rfl s8)))))))))
  have s14 := (hg 14).trans (en rfl (en rfl (en rfl (en rfl (en rfl (en rfl (en rfl (en rfl (en rfl s14)))))))))
  clear hg
  refine xc_ret ?_
  refine bodyR_2 rfl s6 s7 ?_
  exact ⟨_, ys, rfl, ((SatL.closePa (SatL.closeObj h)).f3.drop).f2.f2⟩
end
end Go.Proofs.Ytonnijghdlakfaa
