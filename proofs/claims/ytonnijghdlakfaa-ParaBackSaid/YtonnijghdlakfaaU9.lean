/-
Records: At, Patch.
-/
import Derived.Test.YtonnijghdlakfaaU8
namespace Go.Proofs.Ytonnijghdlakfaa
open Go Go.RowKit
section
variable {E : Env} {R : List SProp} {w : World} {b bt ba B B' : Nat} {L M : List (List Atr)} {xs zs : List Value} {v : Value} {X : List Chg}
theorem find_someP {n : Nat} {x : Value} {o : Nat} (ho : findL xs n = some (x, o)) (hn : n ≤ 9223372036854775807) (h : SatL E w (TreeB bt ba xs B :: R)) : Calls Try.prog 32 #[pT bt, .int .i64 (n : Int)] w (Ret fun v w' => v = findV (some (x, o)) ∧ SatL E w' (TreeB bt ba xs B :: R)) := by
  have := find_t (i := n) hn h
  rw [ho] at this
  exact this
theorem find_noneP {n : Nat} (ho : findL xs n = none) (hn : n ≤ 9223372036854775807) (h : SatL E w (TreeB bt ba xs B :: R)) : Calls Try.prog 32 #[pT bt, .int .i64 (n : Int)] w (Ret fun v w' => v = findV none ∧ SatL E w' (TreeB bt ba xs B :: R)) := by
  have := find_t (i := n) hn h
  rw [ho] at this
  exact this
theorem atP {n : Nat} {l : List Atr} (hl : L[n]? = some l) (hb : l.length ≤ 1000000) (hn : n ≤ 1000000000) (h : SatL E w (Pa b L B :: R)) :
    Calls Try.prog 15 #[pT b, .int .i64 (n : Int)] w (Ret fun u w' => ∃ v, u = .tuple #[v, .int .i64 0] ∧ SatL E w' (ARow v l :: Pa b L B :: R)) := by
  obtain ⟨xs, h⟩ := h.openPa
  have hxl := h.f1.rowsLen
  have hnl := (List.getElem?_eq_some_iff.1 hl).1
  obtain ⟨x, hx⟩ : ∃ x, xs[n]? = some x := ⟨_, List.getElem?_eq_getElem (by omega)⟩
  have hf : findL xs n = some (x, 0) := by rw [findL_eq, hx]; rfl
  refine calls_x Try.func15 rfl Try.ntmps15 rfl ?_
  refine xc_gen (fun g hg => ?_)
  have s0 := (hg 0).trans arg0
  have s1 := (hg 1).trans arg1
  clear hg
  refine xc_seq (fun K hK1 => ?_)
  refine xc_region ?_
  refine x_val (r_assign ec) (nd_of rfl) rfl ?_
  refine x_val (r_assign ec) (nd_of rfl) rfl ?_
  refine xw_nil ?_
  refine hK1 _ _ ?_
  refine xc_gen (fun g hg => ?_)
  have s0 := (hg 0).trans (en rfl (en rfl s0))
  have s1 := (hg 1).trans (en rfl (en rfl s1))
  have s4 := (hg 4).trans (en rfl es)
  have s5 := (hg 5).trans es
  clear hg
  refine xc_seq (fun K hK2 => ?_)
  refine xc_seq (fun K hK3 => ?_)
  refine xc_region ?_
  refine x_val (r_move s0) (nd_of rfl) rfl ?_
  refine x_val (r_eqnil Try.underlying27 es ec (r := false) rfl) (nd_of rfl) rfl ?_
  refine xw_nil ?_
  refine hK3 _ _ ?_
  refine xc_gen (fun g hg => ?_)
  have s0 := (hg 0).trans (en rfl (en rfl s0))
  have s1 := (hg 1).trans (en rfl (en rfl s1))
  have s4 := (hg 4).trans (en rfl (en rfl s4))
  have s5 := (hg 5).trans (en rfl (en rfl s5))
  have s10 := (hg 10).trans es
  clear hg
  refine xc_cond s10 (fun hc => by cases hc) (fun _ => ?_)
  refine xc_skip ?_
  refine hK2 _ _ ?_
  refine xc_seq (fun K hK4 => ?_)
  refine xc_region ?_
  refine x_val (r_move s0) (nd_of rfl) rfl ?_
  refine x_enter (r_call Try.call25 (.cons es .nil)) (nd_of rfl) rfl (tree_o h) ?_
  rintro _ w ⟨bt, ba, rfl, h⟩
  refine x_val (r_move (en rfl (en rfl s1))) (nd_of rfl) rfl ?_
  have h := h.f1
  refine x_enter (r_call Try.call32 (.cons (en rfl es) (.cons es .nil))) (nd_of rfl) rfl (find_someP hf (by omega) h) ?_
  rintro _ w ⟨rfl, h⟩
  refine x_val (r_move es) (nd_of rfl) rfl ?_
  refine x_val (r_extract es gc0) (nd_of rfl) rfl ?_
  refine x_val (r_extract (en rfl es) gc1) (nd_of rfl) rfl ?_
  refine x_val (r_extract (en rfl (en rfl es)) gc2) (nd_of rfl) rfl ?_
  refine x_val (r_assign (en rfl (en rfl es))) (nd_of rfl) rfl ?_
  refine x_val (r_assign (en rfl (en rfl es))) (nd_of rfl) rfl ?_
  refine x_val (r_assign (en rfl (en rfl es))) (nd_of rfl) rfl ?_
  refine xw_nil ?_
  refine hK4 _ _ ?_
  refine xc_gen (fun g hg => ?_)
  have s0 := (hg 0).trans (en rfl (en rfl (en rfl (en rfl (en rfl (en rfl (en rfl (en rfl (en rfl (en rfl (en rfl s0)))))))))))
  have s1 := (hg 1).trans (en rfl (en rfl (en rfl (en rfl (en rfl (en rfl (en rfl (en rfl (en rfl (en rfl (en rfl s1)))))))))))
  have s4 := (hg 4).trans (en rfl (en rfl (en rfl (en rfl (en rfl (en rfl (en rfl (en rfl (en rfl (en rfl (en rfl s4)))))))))))
  have s5 := (hg 5).trans (en rfl (en rfl (en rfl (en rfl (en rfl (en rfl (en rfl (en rfl (en rfl (en rfl (en rfl s5)))))))))))
  have s6 := (hg 6).trans (en rfl (en rfl es))
  have s8 := (hg 8).trans es
  have s10 := (hg 10).trans (en rfl (en rfl (en rfl (en rfl (en rfl (en rfl (en rfl (en rfl (en rfl (en rfl (en rfl s10)))))))))))
  clear hg
  refine xc_seq (fun K hK5 => ?_)
  refine xc_seq (fun K hK6 => ?_)
  refine xc_region ?_
  refine x_val (r_move s8) (nd_of rfl) rfl ?_
  refine x_val (r_not es rfl) (nd_of rfl) rfl ?_
  refine xw_nil ?_
  refine hK6 _ _ ?_
  refine xc_gen (fun g hg => ?_)
  have s0 := (hg 0).trans (en rfl (en rfl s0))
  have s1 := (hg 1).trans (en rfl (en rfl s1))
  have s4 := (hg 4).trans (en rfl (en rfl s4))
  have s5 := (hg 5).trans (en rfl (en rfl s5))
  have s6 := (hg 6).trans (en rfl (en rfl s6))
  have s8 := (hg 8).trans (en rfl (en rfl s8))
  have s10 := (hg 10).trans (en rfl (en rfl s10))
  have s20 := (hg 20).trans es
  clear hg
  refine xc_cond s20 (fun hc => by cases hc) (fun _ => ?_)
  refine xc_skip ?_
  refine hK5 _ _ ?_
  refine xc_seq (fun K hK7 => ?_)
  refine xc_region ?_
  refine x_val (r_move s6) (nd_of rfl) rfl ?_
  refine x_enter (r_call Try.call33 (.cons es .nil)) (nd_of rfl) rfl (copy_a ((rowsReads hx hl h.f2).weak (fun _ h => h.f2)) hb h) ?_
  rintro _ w h
  have h := h.f3
  have h := h.f2
  have h := h.f3
  refine x_val (r_assign es) (nd_of rfl) rfl ?_
  refine x_val (r_assign ec) (nd_of rfl) rfl ?_
  refine xw_nil ?_
  refine hK7 _ _ ?_
  refine xc_gen (fun g hg => ?_)
  have s0 := (hg 0).trans (en rfl (en rfl (en rfl (en rfl s0))))
  have s1 := (hg 1).trans (en rfl (en rfl (en rfl (en rfl s1))))
  have s4 := (hg 4).trans (en rfl es)
  have s5 := (hg 5).trans es
  have s6 := (hg 6).trans (en rfl (en rfl (en rfl (en rfl s6))))
  have s8 := (hg 8).trans (en rfl (en rfl (en rfl (en rfl s8))))
  have s10 := (hg 10).trans (en rfl (en rfl (en rfl (en rfl s10))))
  have s20 := (hg 20).trans (en rfl (en rfl (en rfl (en rfl s20))))
  clear hg
  refine xc_ret ?_
  refine bodyR_2 rfl s4 s5 ?_
  exact ⟨_, rfl, (SatL.closePa (SatL.closeObj h)).f1⟩
theorem at_noP {i : Int} (hi : i < 0 ∨ (L.length : Int) ≤ i) (hn : i ≤ 9223372036854775807) (h : SatL E w (Pa b L B :: R)) :
    Calls Try.prog 15 #[pT b, .int .i64 i] w (Ret fun u w' => u = .tuple #[.slice none 0 0, .int .i64 5] ∧ SatL E w' (Pa b L B :: R)) := by
  obtain ⟨xs, h⟩ := h.openPa
  have hxl := h.f1.rowsLen
  rcases Int.lt_or_le i 0 with h0 | h0
  · skip
    refine calls_x Try.func15 rfl Try.ntmps15 rfl ?_
    refine xc_gen (fun g hg => ?_)
    have s0 := (hg 0).trans arg0
    have s1 := (hg 1).trans arg1
    clear hg
    refine xc_seq (fun K hK1 => ?_)
    refine xc_region ?_
    refine x_val (r_assign ec) (nd_of rfl) rfl ?_
    refine x_val (r_assign ec) (nd_of rfl) rfl ?_
    refine xw_nil ?_
    refine hK1 _ _ ?_
    refine xc_gen (fun g hg => ?_)
    have s0 := (hg 0).trans (en rfl (en rfl s0))
    have s1 := (hg 1).trans (en rfl (en rfl s1))
    have s4 := (hg 4).trans (en rfl es)
    have s5 := (hg 5).trans es
    clear hg
    refine xc_seq (fun K hK2 => ?_)
    refine xc_seq (fun K hK3 => ?_)
    refine xc_region ?_
    refine x_val (r_move s0) (nd_of rfl) rfl ?_
    refine x_val (r_eqnil Try.underlying27 es ec (r := false) rfl) (nd_of rfl) rfl ?_
    refine xw_nil ?_
    refine hK3 _ _ ?_
    refine xc_gen (fun g hg => ?_)
    have s0 := (hg 0).trans (en rfl (en rfl s0))
    have s1 := (hg 1).trans (en rfl (en rfl s1))
    have s4 := (hg 4).trans (en rfl (en rfl s4))
    have s5 := (hg 5).trans (en rfl (en rfl s5))
    have s10 := (hg 10).trans es
    clear hg
    refine xc_cond s10 (fun hc => by cases hc) (fun _ => ?_)
    refine xc_skip ?_
    refine hK2 _ _ ?_
    refine xc_seq (fun K hK4 => ?_)
    refine xc_region ?_
    refine x_val (r_move s0) (nd_of rfl) rfl ?_
    refine x_enter (r_call Try.call25 (.cons es .nil)) (nd_of rfl) rfl (tree_o h) ?_
    rintro _ w ⟨bt, ba, rfl, h⟩
    refine x_val (r_move (en rfl (en rfl s1))) (nd_of rfl) rfl ?_
    have h := h.f1
    refine x_enter (r_call Try.call32 (.cons (en rfl es) (.cons es .nil))) (nd_of rfl) rfl (find_neg h0 h) ?_
    rintro _ w ⟨rfl, h⟩
    have h := h.f2
    have h := h.f1
    have h := h.f2
    refine x_val (r_move es) (nd_of rfl) rfl ?_
    refine x_val (r_extract es gc0) (nd_of rfl) rfl ?_
    refine x_val (r_extract (en rfl es) gc1) (nd_of rfl) rfl ?_
    refine x_val (r_extract (en rfl (en rfl es)) gc2) (nd_of rfl) rfl ?_
    refine x_val (r_assign (en rfl (en rfl es))) (nd_of rfl) rfl ?_
    refine x_val (r_assign (en rfl (en rfl es))) (nd_of rfl) rfl ?_
    refine x_val (r_assign (en rfl (en rfl es))) (nd_of rfl) rfl ?_
    refine xw_nil ?_
    refine hK4 _ _ ?_
    refine xc_gen (fun g hg => ?_)
    have s0 := (hg 0).trans (en rfl (en rfl (en rfl (en rfl (en rfl (en rfl (en rfl (en rfl (en rfl (en rfl (en rfl s0)))))))))))
    have s1 := (hg 1).trans (en rfl (en rfl (en rfl (en rfl (en rfl (en rfl (en rfl (en rfl (en rfl (en rfl (en rfl s1)))))))))))
    have s4 := (hg 4).trans (en rfl (en rfl (en rfl (en rfl (en rfl (en rfl (en rfl (en rfl (en rfl (en rfl (en rfl s4)))))))))))
    have s5 := (hg 5).trans (en rfl (en rfl (en rfl (en rfl (en rfl (en rfl (en rfl (en rfl (en rfl (en rfl (en rfl s5)))))))))))
    have s6 := (hg 6).trans (en rfl (en rfl es))
    have s8 := (hg 8).trans es
    have s10 := (hg 10).trans (en rfl (en rfl (en rfl (en rfl (en rfl (en rfl (en rfl (en rfl (en rfl (en rfl (en rfl s10)))))))))))
    clear hg
    refine xc_seq (fun K hK5 => ?_)
    refine xc_seq (fun K hK6 => ?_)
    refine xc_region ?_
    refine x_val (r_move s8) (nd_of rfl) rfl ?_
    refine x_val (r_not es rfl) (nd_of rfl) rfl ?_
    refine xw_nil ?_
    refine hK6 _ _ ?_
    refine xc_gen (fun g hg => ?_)
    have s0 := (hg 0).trans (en rfl (en rfl s0))
    have s1 := (hg 1).trans (en rfl (en rfl s1))
    have s4 := (hg 4).trans (en rfl (en rfl s4))
    have s5 := (hg 5).trans (en rfl (en rfl s5))
    have s6 := (hg 6).trans (en rfl (en rfl s6))
    have s8 := (hg 8).trans (en rfl (en rfl s8))
    have s10 := (hg 10).trans (en rfl (en rfl s10))
    have s20 := (hg 20).trans es
    clear hg
    refine xc_cond s20 (fun _ => ?_) (fun hc => by cases hc)
    refine xc_seq (fun K hK7 => ?_)
    refine xc_region ?_
    refine x_val (r_assign ec) (nd_of rfl) rfl ?_
    refine x_val (r_assign ec) (nd_of rfl) rfl ?_
    refine xw_nil ?_
    refine hK7 _ _ ?_
    refine xc_gen (fun g hg => ?_)
    have s0 := (hg 0).trans (en rfl (en rfl s0))
    have s1 := (hg 1).trans (en rfl (en rfl s1))
    have s4 := (hg 4).trans (en rfl es)
    have s5 := (hg 5).trans es
    have s6 := (hg 6).trans (en rfl (en rfl s6))
    have s8 := (hg 8).trans (en rfl (en rfl s8))
    have s10 := (hg 10).trans (en rfl (en rfl s10))
    have s20 := (hg 20).trans (en rfl (en rfl s20))
    clear hg
    refine xc_ret ?_
    refine bodyR_2 rfl s4 s5 ?_
    exact ⟨rfl, SatL.closePa (SatL.closeObj h)⟩
  · obtain ⟨n, rfl⟩ := Int.eq_ofNat_of_zero_le h0
    have hf : findL xs n = none := by rw [findL_eq, List.getElem?_eq_none (by omega)]; rfl
    refine calls_x Try.func15 rfl Try.ntmps15 rfl ?_
    refine xc_gen (fun g hg => ?_)
    have s0 := (hg 0).trans arg0
    have s1 := (hg 1).trans arg1
    clear hg
    refine xc_seq (fun K hK1 => ?_)
    refine xc_region ?_
    refine x_val (r_assign ec) (nd_of rfl) rfl ?_
    refine x_val (r_assign ec) (nd_of rfl) rfl ?_
    refine xw_nil ?_
    refine hK1 _ _ ?_
    refine xc_gen (fun g hg => ?_)
    have s0 := (hg 0).trans (en rfl (en rfl s0))
    have s1 := (hg 1).trans (en rfl (en rfl s1))
    have s4 := (hg 4).trans (en rfl es)
    have s5 := (hg 5).trans es
    clear hg
    refine xc_seq (fun K hK2 => ?_)
    refine xc_seq (fun K hK3 => ?_)
    refine xc_region ?_
    refine x_val (r_move s0) (nd_of rfl) rfl ?_
    refine x_val (r_eqnil Try.underlying27 es ec (r := false) rfl) (nd_of rfl) rfl ?_
    refine xw_nil ?_
    refine hK3 _ _ ?_
    refine xc_gen (fun g hg => ?_)
    have s0 := (hg 0).trans (en rfl (en rfl s0))
    have s1 := (hg 1).trans (en rfl (en rfl s1))
    have s4 := (hg 4).trans (en rfl (en rfl s4))
    have s5 := (hg 5).trans (en rfl (en rfl s5))
    have s10 := (hg 10).trans es
    clear hg
    refine xc_cond s10 (fun hc => by cases hc) (fun _ => ?_)
    refine xc_skip ?_
    refine hK2 _ _ ?_
    refine xc_seq (fun K hK4 => ?_)
    refine xc_region ?_
    refine x_val (r_move s0) (nd_of rfl) rfl ?_
    refine x_enter (r_call Try.call25 (.cons es .nil)) (nd_of rfl) rfl (tree_o h) ?_
    rintro _ w ⟨bt, ba, rfl, h⟩
    refine x_val (r_move (en rfl (en rfl s1))) (nd_of rfl) rfl ?_
    have h := h.f1
    refine x_enter (r_call Try.call32 (.cons (en rfl es) (.cons es .nil))) (nd_of rfl) rfl (find_noneP hf (by omega) h) ?_
    rintro _ w ⟨rfl, h⟩
    have h := h.f2
    have h := h.f1
    have h := h.f2
    refine x_val (r_move es) (nd_of rfl) rfl ?_
    refine x_val (r_extract es gc0) (nd_of rfl) rfl ?_
    refine x_val (r_extract (en rfl es) gc1) (nd_of rfl) rfl ?_
    refine x_val (r_extract (en rfl (en rfl es)) gc2) (nd_of rfl) rfl ?_
    refine x_val (r_assign (en rfl (en rfl es))) (nd_of rfl) rfl ?_
    refine x_val (r_assign (en rfl (en rfl es))) (nd_of rfl) rfl ?_
    refine x_val (r_assign (en rfl (en rfl es))) (nd_of rfl) rfl ?_
    refine xw_nil ?_
    refine hK4 _ _ ?_
    refine xc_gen (fun g hg => ?_)
    have s0 := (hg 0).trans (en rfl (en rfl (en rfl (en rfl (en rfl (en rfl (en rfl (en rfl (en rfl (en rfl (en rfl s0)))))))))))
    have s1 := (hg 1).trans (en rfl (en rfl (en rfl (en rfl (en rfl (en rfl (en rfl (en rfl (en rfl (en rfl (en rfl s1)))))))))))
    have s4 := (hg 4).trans (en rfl (en rfl (en rfl (en rfl (en rfl (en rfl (en rfl (en rfl (en rfl (en rfl (en rfl s4)))))))))))
    have s5 := (hg 5).trans (en rfl (en rfl (en rfl (en rfl (en rfl (en rfl (en rfl (en rfl (en rfl (en rfl (en rfl s5)))))))))))
    have s6 := (hg 6).trans (en rfl (en rfl es))
    have s8 := (hg 8).trans es
    have s10 := (hg 10).trans (en rfl (en rfl (en rfl (en rfl (en rfl (en rfl (en rfl (en rfl (en rfl (en rfl (en rfl s10)))))))))))
    clear hg
    refine xc_seq (fun K hK5 => ?_)
    refine xc_seq (fun K hK6 => ?_)
    refine xc_region ?_
    refine x_val (r_move s8) (nd_of rfl) rfl ?_
    refine x_val (r_not es rfl) (nd_of rfl) rfl ?_
    refine xw_nil ?_
    refine hK6 _ _ ?_
    refine xc_gen (fun g hg => ?_)
    have s0 := (hg 0).trans (en rfl (en rfl s0))
    have s1 := (hg 1).trans (en rfl (en rfl s1))
    have s4 := (hg 4).trans (en rfl (en rfl s4))
    have s5 := (hg 5).trans (en rfl (en rfl s5))
    have s6 := (hg 6).trans (en rfl (en rfl s6))
    have s8 := (hg 8).trans (en rfl (en rfl s8))
    have s10 := (hg 10).trans (en rfl (en rfl s10))
    have s20 := (hg 20).trans es
    clear hg
    refine xc_cond s20 (fun _ => ?_) (fun hc => by cases hc)
    refine xc_seq (fun K hK7 => ?_)
    refine xc_region ?_
    refine x_val (r_assign ec) (nd_of rfl) rfl ?_
    refine x_val (r_assign ec) (nd_of rfl) rfl ?_
    refine xw_nil ?_
    refine hK7 _ _ ?_
    refine xc_gen (fun g hg => ?_)
    have s0 := (hg 0).trans (en rfl (en rfl s0))
    have s1 := (hg 1).trans (en rfl (en rfl s1))
    have s4 := (hg 4).trans (en rfl es)
    have s5 := (hg 5).trans es
    have s6 := (hg 6).trans (en rfl (en rfl s6))
    have s8 := (hg 8).trans (en rfl (en rfl s8))
    have s10 := (hg 10).trans (en rfl (en rfl s10))
    have s20 := (hg 20).trans (en rfl (en rfl s20))
    clear hg
    refine xc_ret ?_
    refine bodyR_2 rfl s4 s5 ?_
    exact ⟨rfl, SatL.closePa (SatL.closeObj h)⟩
theorem patch_noP {i j : Int} (hp : ¬ isPart L.length i j) (h : SatL E w (Pa b L B :: R)) : Calls Try.prog 12 #[pT b, .int .i64 i, .int .i64 j, v] w (Ret fun u w' => u = .int .i64 5 ∧ SatL E w' (Pa b L B :: R)) := by
  refine calls_x Try.func12 rfl Try.ntmps12 rfl ?_
  refine xc_gen (fun g hg => ?_)
  have s0 := (hg 0).trans arg0
  have s1 := (hg 1).trans arg1
  have s2 := (hg 2).trans arg2
  have s3 := (hg 3).trans arg3
  clear hg
  refine xc_seq (fun K hK1 => ?_)
  refine xc_region ?_
  refine x_val (r_assign ec) (nd_of rfl) rfl ?_
  refine xw_nil ?_
  refine hK1 _ _ ?_
  refine xc_gen (fun g hg => ?_)
  have s0 := (hg 0).trans (en rfl s0)
  have s1 := (hg 1).trans (en rfl s1)
  have s2 := (hg 2).trans (en rfl s2)
  have s3 := (hg 3).trans (en rfl s3)
  have s8 := (hg 8).trans es
  clear hg
  refine xc_seq (fun K hK2 => ?_)
  refine xc_region ?_
  refine x_val (r_move s0) (nd_of rfl) rfl ?_
  refine x_val (r_move (en rfl s1)) (nd_of rfl) rfl ?_
  refine x_val (r_move (en rfl (en rfl s2))) (nd_of rfl) rfl ?_
  refine x_enter (r_call Try.call13 (.cons (en rfl (en rfl es)) (.cons (en rfl es) (.cons es .nil)))) (nd_of rfl) rfl (over_noP hp h) ?_
  rintro _ w ⟨rfl, h⟩
  refine x_val (r_move es) (nd_of rfl) rfl ?_
  refine x_val (r_extract es gc0) (nd_of rfl) rfl ?_
  refine x_val (r_extract (en rfl es) gc1) (nd_of rfl) rfl ?_
  refine x_val (r_assign (en rfl es)) (nd_of rfl) rfl ?_
  refine x_val (r_assign (en rfl es)) (nd_of rfl) rfl ?_
  refine xw_nil ?_
  refine hK2 _ _ ?_
  refine xc_gen (fun g hg => ?_)
  have s0 := (hg 0).trans (en rfl (en rfl (en rfl (en rfl (en rfl (en rfl (en rfl (en rfl (en rfl s0)))))))))
  have s1 := (hg 1).trans (en rfl (en rfl (en rfl (en rfl (en rfl (en rfl (en rfl (en rfl (en rfl s1)))))))))
  have s2 := (hg 2).trans (en rfl (en rfl (en rfl (en rfl (en rfl (en rfl (en rfl (en rfl (en rfl s2)))))))))
  have s3 := (hg 3).trans (en rfl (en rfl (en rfl (en rfl (en rfl (en rfl (en rfl (en rfl (en rfl s3)))))))))
  have s8 := (hg 8).trans (en rfl (en rfl (en rfl (en rfl (en rfl (en rfl (en rfl (en rfl (en rfl s8)))))))))
  have s9 := (hg 9).trans (en rfl es)
  have s10 := (hg 10).trans es
  clear hg
  refine xc_seq (fun K hK3 => ?_)
  refine xc_seq (fun K hK4 => ?_)
  refine xc_region ?_
  refine x_val (r_move s10) (nd_of rfl) rfl ?_
  refine x_val (r_neq es ec (r := true) rfl) (nd_of rfl) rfl ?_
  refine xw_nil ?_
  refine hK4 _ _ ?_
  refine xc_gen (fun g hg => ?_)
  have s0 := (hg 0).trans (en rfl (en rfl s0))
  have s1 := (hg 1).trans (en rfl (en rfl s1))
  have s2 := (hg 2).trans (en rfl (en rfl s2))
  have s3 := (hg 3).trans (en rfl (en rfl s3))
  have s8 := (hg 8).trans (en rfl (en rfl s8))
  have s9 := (hg 9).trans (en rfl (en rfl s9))
  have s10 := (hg 10).trans (en rfl (en rfl s10))
  have s20 := (hg 20).trans es
  clear hg
  refine xc_cond s20 (fun _ => ?_) (fun hc => by cases hc)
  refine xc_seq (fun K hK5 => ?_)
  refine xc_region ?_
  refine x_val (r_move s10) (nd_of rfl) rfl ?_
  refine x_val (r_assign es) (nd_of rfl) rfl ?_
  refine xw_nil ?_
  refine hK5 _ _ ?_
  refine xc_gen (fun g hg => ?_)
  have s0 := (hg 0).trans (en rfl (en rfl s0))
  have s1 := (hg 1).trans (en rfl (en rfl s1))
  have s2 := (hg 2).trans (en rfl (en rfl s2))
  have s3 := (hg 3).trans (en rfl (en rfl s3))
  have s8 := (hg 8).trans es
  have s9 := (hg 9).trans (en rfl (en rfl s9))
  have s10 := (hg 10).trans (en rfl (en rfl s10))
  have s20 := (hg 20).trans (en rfl (en rfl s20))
  clear hg
  refine xc_ret ?_
  refine bodyR_1 rfl s8 ?_
  exact ⟨rfl, h⟩
theorem map_take_succ {α β : Type} {f : α → β} {l : List α} {k : Nat} {x : α} (h : l[k]? = some x) : (l.take (k + 1)).map f = (l.take k).map f ++ [f x] := by
  rw [List.take_add_one, h]; simp
theorem rowsHead {ys : List Value} {PL : List (List Atr)} {k : Nat} {x : Value} {l : List Atr} (hx : ys[k]? = some x) (hl : PL[k]? = some l) (h : SatL E w (RowsL (ys.drop k) (PL.drop k) :: R)) : SatL E w (ARow x l :: RowsL (ys.drop (k + 1)) (PL.drop (k + 1)) :: R) := by
  rw [drop_get hx, drop_get hl] at h
  exact h.open
theorem rowsRepl {ni nj : Nat} (hij : ni ≤ nj) (h : SatL E w (RowsL xs L :: RowsL zs M :: R)) : SatL E w (RowsL (xs.take ni ++ (zs ++ xs.drop nj)) (L.take ni ++ (M ++ L.drop nj)) :: R) := by
  have h3 := ((h.rowsSplit ni).f1.rowsSplit (nj - ni)).drop
  rw [List.drop_drop, List.drop_drop, show ni + (nj - ni) = nj by omega] at h3
  exact SatL.rowsApp ((SatL.rowsApp h3.f2).f1)
theorem patchP {i j : Int} (hp : isPart L.length i j) (hX : CReads E R v X) (hXb : X.length ≤ 100000) (hL : ∀ l ∈ L, l.length ≤ 100000) (hB : L.length + L.length + 4 ≤ B') (hBB : B ≤ B') (hB' : B' ≤ 1000000) (h : SatL E w (Pa b L B :: R)) :
    Calls Try.prog 12 #[pT b, .int .i64 i, .int .i64 j, v] w (Ret fun u w' => u = .int .i64 0 ∧ SatL E w' (Pa b (L.take i.toNat ++ (((L.take j.toNat).drop i.toNat).map (fun l => applyL l X) ++ L.drop j.toNat)) B' :: R)) := by
  have hp0 := hp
  obtain ⟨h0, h1, h2⟩ := hp
  obtain ⟨ni, rfl⟩ := Int.eq_ofNat_of_zero_le h0
  obtain ⟨nj, rfl⟩ := Int.eq_ofNat_of_zero_le (Int.le_trans h0 h1)
  rw [Int.toNat_natCast, Int.toNat_natCast]
  obtain ⟨PL, ePL⟩ : ∃ PL, PL = (L.take nj).drop ni := ⟨_, rfl⟩
  have hPl : PL.length ≤ L.length := by rw [ePL, List.length_drop, List.length_take]; omega
  have hPL : ∀ l ∈ PL, l.length ≤ 100000 := fun l hl => by rw [ePL] at hl; exact hL l (List.mem_of_mem_take (List.mem_of_mem_drop hl))
  rw [← ePL]
  refine calls_x Try.func12 rfl Try.ntmps12 rfl ?_
  refine xc_gen (fun g hg => ?_)
  have s0 := (hg 0).trans arg0
  have s1 := (hg 1).trans arg1
  have s2 := (hg 2).trans arg2
  have s3 := (hg 3).trans arg3
  clear hg
  refine xc_seq (fun K hK1 => ?_)
  refine xc_region ?_
  refine x_val (r_assign ec) (nd_of rfl) rfl ?_
  refine xw_nil ?_
  refine hK1 _ _ ?_
  refine xc_gen (fun g hg => ?_)
  have s0 := (hg 0).trans (en rfl s0)
  have s1 := (hg 1).trans (en rfl s1)
  have s2 := (hg 2).trans (en rfl s2)
  have s3 := (hg 3).trans (en rfl s3)
  have s8 := (hg 8).trans es
  clear hg
  refine xc_seq (fun K hK2 => ?_)
  refine xc_region ?_
  refine x_val (r_move s0) (nd_of rfl) rfl ?_
  refine x_val (r_move (en rfl s1)) (nd_of rfl) rfl ?_
  refine x_val (r_move (en rfl (en rfl s2))) (nd_of rfl) rfl ?_
  refine x_enter (r_call Try.call13 (.cons (en rfl (en rfl es)) (.cons (en rfl es) (.cons es .nil)))) (nd_of rfl) rfl (overP hp0 (by omega) (fun l hl => Nat.le_trans (hL l hl) (by decide)) h) ?_
  rintro _ w ⟨v0, ys, rfl, h⟩
  rw [Int.toNat_natCast, Int.toNat_natCast, ← ePL, XRow, flat_vals] at h
  obtain ⟨av, cv, rfl, _, _⟩ := h.rowVal
  have hyl := h.f1.rowsLen
  refine x_val (r_move es) (nd_of rfl) rfl ?_
  refine x_val (r_extract es gc0) (nd_of rfl) rfl ?_
  refine x_val (r_extract (en rfl es) gc1) (nd_of rfl) rfl ?_
  refine x_val (r_assign (en rfl es)) (nd_of rfl) rfl ?_
  refine x_val (r_assign (en rfl es)) (nd_of rfl) rfl ?_
  refine xw_nil ?_
  refine hK2 _ _ ?_
  refine xc_gen (fun g hg => ?_)
  have s0 := (hg 0).trans (en rfl (en rfl (en rfl (en rfl (en rfl (en rfl (en rfl (en rfl (en rfl s0)))))))))
  have s1 := (hg 1).trans (en rfl (en rfl (en rfl (en rfl (en rfl (en rfl (en rfl (en rfl (en rfl s1)))))))))
  have s2 := (hg 2).trans (en rfl (en rfl (en rfl (en rfl (en rfl (en rfl (en rfl (en rfl (en rfl s2)))))))))
  have s3 := (hg 3).trans (en rfl (en rfl (en rfl (en rfl (en rfl (en rfl (en rfl (en rfl (en rfl s3)))))))))
  have s8 := (hg 8).trans (en rfl (en rfl (en rfl (en rfl (en rfl (en rfl (en rfl (en rfl (en rfl s8)))))))))
  have s9 := (hg 9).trans (en rfl es)
  have s10 := (hg 10).trans es
  clear hg
  refine xc_seq (fun K hK3 => ?_)
  refine xc_seq (fun K hK4 => ?_)
  refine xc_region ?_
  refine x_val (r_move s10) (nd_of rfl) rfl ?_
  refine x_val (r_neq es ec (r := false) rfl) (nd_of rfl) rfl ?_
  refine xw_nil ?_
  refine hK4 _ _ ?_
  refine xc_gen (fun g hg => ?_)
  have s0 := (hg 0).trans (en rfl (en rfl s0))
  have s1 := (hg 1).trans (en rfl (en rfl s1))
  have s2 := (hg 2).trans (en rfl (en rfl s2))
  have s3 := (hg 3).trans (en rfl (en rfl s3))
  have s8 := (hg 8).trans (en rfl (en rfl s8))
  have s9 := (hg 9).trans (en rfl (en rfl s9))
  have s10 := (hg 10).trans (en rfl (en rfl s10))
  have s20 := (hg 20).trans es
  clear hg
  refine xc_cond s20 (fun hc => by cases hc) (fun _ => ?_)
  refine xc_skip ?_
  refine hK3 _ _ ?_
  refine xc_seq (fun K hK5 => ?_)
  refine xc_seq (fun K hK6 => ?_)
  refine xc_region ?_
  refine x_val (r_move s9) (nd_of rfl) rfl ?_
  refine x_val (r_len Try.underlying23 es) (nd_of rfl) rfl ?_
  refine x_val (r_move ec) (nd_of rfl) rfl ?_
  refine xw_nil ?_
  refine hK6 _ _ ?_
  refine xc_gen (fun g hg => ?_)
  have s0 := (hg 0).trans (en rfl (en rfl (en rfl s0)))
  have s1 := (hg 1).trans (en rfl (en rfl (en rfl s1)))
  have s2 := (hg 2).trans (en rfl (en rfl (en rfl s2)))
  have s3 := (hg 3).trans (en rfl (en rfl (en rfl s3)))
  have s8 := (hg 8).trans (en rfl (en rfl (en rfl s8)))
  have s9 := (hg 9).trans (en rfl (en rfl (en rfl s9)))
  have s10 := (hg 10).trans (en rfl (en rfl (en rfl s10)))
  have s20 := (hg 20).trans (en rfl (en rfl (en rfl s20)))
  have s23 := (hg 23).trans (en rfl es)
  have s24 := (hg 24).trans es
  clear hg
  refine xc_block ?_
  obtain ⟨G7, hG7⟩ : ∃ g0 : Nat → Value, g0 = g := ⟨_, rfl⟩
  have zG7_0 : G7 0 = _ := (congrFun hG7 0).trans s0
  have zG7_1 : G7 1 = _ := (congrFun hG7 1).trans s1
  have zG7_2 : G7 2 = _ := (congrFun hG7 2).trans s2
  have zG7_3 : G7 3 = _ := (congrFun hG7 3).trans s3
  have zG7_8 : G7 8 = _ := (congrFun hG7 8).trans s8
  have zG7_9 : G7 9 = _ := (congrFun hG7 9).trans s9
  have zG7_10 : G7 10 = _ := (congrFun hG7 10).trans s10
  have zG7_20 : G7 20 = _ := (congrFun hG7 20).trans s20
  have zG7_23 : G7 23 = _ := (congrFun hG7 23).trans s23
  refine xc_loop (fun m f w => (∃ (k : Nat) (zs : List Value), m = ys.length - k ∧ k ≤ ys.length ∧ zs.length = k ∧ f 24 = .int .i64 (k : Int) ∧ SatL E w (Row 38 1 (.slice av ys.length cv) ys.length (zs ++ ys.drop k) :: RowsL zs ((PL.take k).map (fun l => applyL l X)) :: RowsL (ys.drop k) (PL.drop k) :: Pa b L B :: R)) ∧ (f 0 = G7 0 ∧ f 1 = G7 1 ∧ f 2 = G7 2 ∧ f 3 = G7 3 ∧ f 8 = G7 8 ∧ f 9 = G7 9 ∧ f 10 = G7 10 ∧ f 20 = G7 20 ∧ f 23 = G7 23)) (ys.length) ⟨⟨0, [], by omega, by omega, rfl, s24, h.rowsNil.f1⟩, ⟨congrFun hG7.symm 0, congrFun hG7.symm 1, congrFun hG7.symm 2, congrFun hG7.symm 3, congrFun hG7.symm 8, congrFun hG7.symm 9, congrFun hG7.symm 10, congrFun hG7.symm 20, congrFun hG7.symm 23⟩⟩ ?_
  rintro m g w ⟨⟨k, zs, hm, hk, hz, s24, h⟩, ⟨y0, y1, y2, y3, y8, y9, y10, y20, y23⟩⟩
  have s0 := y0.trans zG7_0
  have s1 := y1.trans zG7_1
  have s2 := y2.trans zG7_2
  have s3 := y3.trans zG7_3
  have s8 := y8.trans zG7_8
  have s9 := y9.trans zG7_9
  have s10 := y10.trans zG7_10
  have s20 := y20.trans zG7_20
  have s23 := y23.trans zG7_23
  refine xc_seq (fun K hK8 => ?_)
  refine xc_region ?_
  refine x_val (r_lss s24 s23 rfl) (nd_of rfl) rfl ?_
  refine xw_nil ?_
  refine hK8 _ _ ?_
  refine xc_gen (fun g hg => ?_)
  have s0 := (hg 0).trans (en rfl s0)
  have s1 := (hg 1).trans (en rfl s1)
  have s2 := (hg 2).trans (en rfl s2)
  have s3 := (hg 3).trans (en rfl s3)
  have s8 := (hg 8).trans (en rfl s8)
  have s9 := (hg 9).trans (en rfl s9)
  have s10 := (hg 10).trans (en rfl s10)
  have s20 := (hg 20).trans (en rfl s20)
  have s23 := (hg 23).trans (en rfl s23)
  have s24 := (hg 24).trans (en rfl s24)
  have s25 := (hg 25).trans es
  clear hg
  refine xc_seq (fun K hK9 => ?_)
  refine xc_cond s25 (fun hc => ?_) (fun hc => ?_)
  ·
    refine xc_skip ?_
    refine hK9 _ _ ?_
    refine xc_seq (fun K hK10 => ?_)
    refine xc_block ?_
    refine xc_seq (fun K hK11 => ?_)
    have hi : k < ys.length := by have := of_decide_eq_true hc; omega
    obtain ⟨x, hx⟩ : ∃ x, ys[k]? = some x := ⟨_, List.getElem?_eq_getElem hi⟩
    obtain ⟨l, hl⟩ : ∃ l, PL[k]? = some l := ⟨_, List.getElem?_eq_getElem (by omega)⟩
    have hll := hPL l (List.mem_of_getElem? hl)
    have hal := apply_len l X
    have hsm := fun u => set_mid (u := u) hz hx
    have hmk : (zs ++ ys.drop k)[k]? = some x := by rw [List.getElem?_append_right (by omega), hz, Nat.sub_self, List.getElem?_drop]; exact hx
    have hmt := map_take_succ (f := fun l => applyL l X) hl
    obtain ⟨gm, cm, curm, hrm, hh⟩ := (rowsHead hx hl h.f2).f2.openRow (by omega)
    have hvm := hrm.val
    simp only [Value.slice.injEq] at hvm
    obtain ⟨rfl, _, rfl⟩ := hvm
    have h := hh
    have hcell : curm[k * 1]? = some x := by rw [Nat.mul_one]; exact hrm.get hmk
    refine xc_region ?_
    refine x_val (r_move s24) (nd_of rfl) rfl ?_
    refine x_val (r_assign es) (nd_of rfl) rfl ?_
    refine xw_nil ?_
    refine hK11 _ _ ?_
    refine xc_gen (fun g hg => ?_)
    have s0 := (hg 0).trans (en rfl (en rfl s0))
    have s1 := (hg 1).trans (en rfl (en rfl s1))
    have s2 := (hg 2).trans (en rfl (en rfl s2))
    have s3 := (hg 3).trans (en rfl (en rfl s3))
    have s8 := (hg 8).trans (en rfl (en rfl s8))
    have s9 := (hg 9).trans (en rfl (en rfl s9))
    have s10 := (hg 10).trans (en rfl (en rfl s10))
    have s11 := (hg 11).trans es
    have s20 := (hg 20).trans (en rfl (en rfl s20))
    have s23 := (hg 23).trans (en rfl (en rfl s23))
    have s24 := (hg 24).trans (en rfl (en rfl s24))
    have s25 := (hg 25).trans (en rfl (en rfl s25))
    clear hg
    refine xc_region ?_
    refine x_val (r_move s9) (nd_of rfl) rfl ?_
    refine x_val (r_move (en rfl s11)) (nd_of rfl) rfl ?_
    refine x_val (r_move (en rfl (en rfl s9))) (nd_of rfl) rfl ?_
    refine x_val (r_move (en rfl (en rfl (en rfl s11)))) (nd_of rfl) rfl ?_
    refine x_val (r_indexAddrN Try.underlying23 Try.sizeOf38 (en rfl es) es (by omega)) (nd_of rfl) rfl ?_
    refine x_val (r_load h 0 rfl Try.isAgg38 es hcell) (nd_of rfl) rfl ?_
    refine x_val (r_move (en rfl (en rfl (en rfl (en rfl (en rfl (en rfl s3))))))) (nd_of rfl) rfl ?_
    refine x_enter (r_call Try.call28 (.cons (en rfl es) (.cons es .nil))) (nd_of rfl) rfl (apply_ok ((a_row h.f1).weak (fun _ h => h.f1)) (hX.weak (fun _ h => h.drop.drop.drop.drop.drop)) hll hXb h) ?_
    rintro _ w h
    obtain ⟨au2, cu2, rfl, _, _⟩ := h.rowVal
    refine x_val (r_indexAddrN Try.underlying23 Try.sizeOf38 (en rfl (en rfl (en rfl (en rfl (en rfl (en rfl (en rfl es))))))) (en rfl (en rfl (en rfl (en rfl (en rfl (en rfl es)))))) (by omega)) (nd_of rfl) rfl ?_
    refine x_st (r_store h 1 rfl Try.sizeOf38 es (en rfl es) rfl hcell) rfl (h.u1 rfl) ?_
    intro w h
    refine xw_nil ?_
    refine hK10 _ _ ?_
    refine xc_gen (fun g hg => ?_)
    have s0 := (hg 0).trans (en rfl (en rfl (en rfl (en rfl (en rfl (en rfl (en rfl (en rfl (en rfl s0)))))))))
    have s1 := (hg 1).trans (en rfl (en rfl (en rfl (en rfl (en rfl (en rfl (en rfl (en rfl (en rfl s1)))))))))
    have s2 := (hg 2).trans (en rfl (en rfl (en rfl (en rfl (en rfl (en rfl (en rfl (en rfl (en rfl s2)))))))))
    have s3 := (hg 3).trans (en rfl (en rfl (en rfl (en rfl (en rfl (en rfl (en rfl (en rfl (en rfl s3)))))))))
    have s8 := (hg 8).trans (en rfl (en rfl (en rfl (en rfl (en rfl (en rfl (en rfl (en rfl (en rfl s8)))))))))
    have s9 := (hg 9).trans (en rfl (en rfl (en rfl (en rfl (en rfl (en rfl (en rfl (en rfl (en rfl s9)))))))))
    have s10 := (hg 10).trans (en rfl (en rfl (en rfl (en rfl (en rfl (en rfl (en rfl (en rfl (en rfl s10)))))))))
    have s11 := (hg 11).trans (en rfl (en rfl (en rfl (en rfl (en rfl (en rfl (en rfl (en rfl (en rfl s11)))))))))
    have s20 := (hg 20).trans (en rfl (en rfl (en rfl (en rfl (en rfl (en rfl (en rfl (en rfl (en rfl s20)))))))))
    have s23 := (hg 23).trans (en rfl (en rfl (en rfl (en rfl (en rfl (en rfl (en rfl (en rfl (en rfl s23)))))))))
    have s24 := (hg 24).trans (en rfl (en rfl (en rfl (en rfl (en rfl (en rfl (en rfl (en rfl (en rfl s24)))))))))
    have s25 := (hg 25).trans (en rfl (en rfl (en rfl (en rfl (en rfl (en rfl (en rfl (en rfl (en rfl s25)))))))))
    clear hg
    have hr2 := hrm.set (k * 1) (.slice au2 (applyL l X).length cu2)
    rw [Nat.mul_one, hsm] at hr2
    refine xc_region ?_
    refine x_val (r_add s24 ec (show _ = (((k + 1 : Nat) : Int) : Int) from by omega) (by unfold I64; omega)) (nd_of rfl) rfl ?_
    refine x_val (r_move es) (nd_of rfl) rfl ?_
    refine xw_nil ?_
    exact ⟨ys.length - (k + 1), by omega, ⟨k + 1, zs ++ [.slice au2 (applyL l X).length cu2], rfl, by omega, by simp [hz], es, by rw [hmt]; rw [Nat.mul_one] at h; exact (SatL.rowsSnoc (((SatL.closeRow h.f1 hr2).f2.drop).f3.f2)).f1⟩, ⟨((en rfl (en rfl s0))).trans zG7_0.symm, ((en rfl (en rfl s1))).trans zG7_1.symm, ((en rfl (en rfl s2))).trans zG7_2.symm, ((en rfl (en rfl s3))).trans zG7_3.symm, ((en rfl (en rfl s8))).trans zG7_8.symm, ((en rfl (en rfl s9))).trans zG7_9.symm, ((en rfl (en rfl s10))).trans zG7_10.symm, ((en rfl (en rfl s20))).trans zG7_20.symm, ((en rfl (en rfl s23))).trans zG7_23.symm⟩⟩
  ·
    refine xc_exit ?_
    refine hK5 _ _ ?_
    refine xc_seq (fun K hK12 => ?_)
    have hke : k = ys.length := by have := of_decide_eq_false hc; omega
    have hzl : zs.length = ys.length := by omega
    have e1 : PL.take ys.length = PL := by rw [hyl, List.take_length]
    have h : SatL E w (XRow (.slice av ys.length cv) zs :: RowsL zs (PL.map (fun l => applyL l X)) :: Pa b L B :: R) := by rw [XRow, flat_vals, hzl]; rw [hke, List.drop_length, List.append_nil, e1] at h; exact h.f2.drop
    obtain ⟨xs, h⟩ := (h.f2).openPa
    have hxl := h.f1.rowsLen
    have hsl := sz_len xs
    refine xc_region ?_
    refine x_val (r_move s0) (nd_of rfl) rfl ?_
    refine x_enter (r_call Try.call25 (.cons es .nil)) (nd_of rfl) rfl (tree_o h) ?_
    rintro _ w ⟨bt, ba, rfl, h⟩
    have hzo := (h.f4).rowsOk
    rw [← hzl] at h s9
    refine x_val (r_move (en rfl (en rfl s1))) (nd_of rfl) rfl ?_
    refine x_val (r_move (en rfl (en rfl (en rfl s2)))) (nd_of rfl) rfl ?_
    refine x_val (r_move (en rfl (en rfl (en rfl (en rfl s9))))) (nd_of rfl) rfl ?_
    have h := h.f3
    have h := h.f2
    refine x_enter (r_call Try.call26 (.cons (en rfl (en rfl (en rfl es))) (.cons (en rfl (en rfl es)) (.cons (en rfl es) (.cons es .nil))))) (nd_of rfl) rfl (replace_t (B' := B') (slc_row hzo h.drop) (i := ni) (j := nj) (by omega) (by omega) (by omega) hBB (by omega) (by rw [sz_len, sz_len]; omega) h) ?_
    rintro _ w h
    refine xw_nil ?_
    refine hK12 _ _ ?_
    refine xc_gen (fun g hg => ?_)
    have s0 := (hg 0).trans (en rfl (en rfl (en rfl (en rfl (en rfl (en rfl s0))))))
    have s1 := (hg 1).trans (en rfl (en rfl (en rfl (en rfl (en rfl (en rfl s1))))))
    have s2 := (hg 2).trans (en rfl (en rfl (en rfl (en rfl (en rfl (en rfl s2))))))
    have s3 := (hg 3).trans (en rfl (en rfl (en rfl (en rfl (en rfl (en rfl s3))))))
    have s8 := (hg 8).trans (en rfl (en rfl (en rfl (en rfl (en rfl (en rfl s8))))))
    have s9 := (hg 9).trans (en rfl (en rfl (en rfl (en rfl (en rfl (en rfl s9))))))
    have s10 := (hg 10).trans (en rfl (en rfl (en rfl (en rfl (en rfl (en rfl s10))))))
    have s20 := (hg 20).trans (en rfl (en rfl (en rfl (en rfl (en rfl (en rfl s20))))))
    have s23 := (hg 23).trans (en rfl (en rfl (en rfl (en rfl (en rfl (en rfl s23))))))
    have s24 := (hg 24).trans (en rfl (en rfl (en rfl (en rfl (en rfl (en rfl s24))))))
    have s25 := (hg 25).trans (en rfl (en rfl (en rfl (en rfl (en rfl (en rfl s25))))))
    clear hg
    refine xc_seq (fun K hK13 => ?_)
    rw [replL_eq (by omega)] at h
    have h := h.f1
    have h := h.f4
    have h := h.f4
    have h := h.f3
    have h := h.f4
    refine xc_region ?_
    refine x_val (r_assign ec) (nd_of rfl) rfl ?_
    refine xw_nil ?_
    refine hK13 _ _ ?_
    refine xc_gen (fun g hg => ?_)
    have s0 := (hg 0).trans (en rfl s0)
    have s1 := (hg 1).trans (en rfl s1)
    have s2 := (hg 2).trans (en rfl s2)
    have s3 := (hg 3).trans (en rfl s3)
    have s8 := (hg 8).trans es
    have s9 := (hg 9).trans (en rfl s9)
    have s10 := (hg 10).trans (en rfl s10)
    have s20 := (hg 20).trans (en rfl s20)
    have s23 := (hg 23).trans (en rfl s23)
    have s24 := (hg 24).trans (en rfl s24)
    have s25 := (hg 25).trans (en rfl s25)
    clear hg
    refine xc_ret ?_
    refine bodyR_1 rfl s8 ?_
    exact ⟨rfl, (SatL.closePa ((rowsRepl (by omega) (SatL.closeObj h).f2.f2).f1)).f1.drop⟩
end
end Go.Proofs.Ytonnijghdlakfaa
