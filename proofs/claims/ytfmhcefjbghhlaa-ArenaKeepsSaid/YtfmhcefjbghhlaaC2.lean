/-
ArenaAgain: what was freed is taken again the other way round.
-/
import Derived.Test.YtfmhcefjbghhlaaC1
namespace Go.Proofs.Ytfmhcefjbghhlaa
open Go Go.RowKit

theorem frC_get {l : List Nat} {q j : Nat} (h : l[q]? = some j) : (frC l)[q]? = some (Value.int .i64 (j : Int)) := by simp [frC, h]
theorem frC_one {l : List Nat} : ∀ u ∈ frC l, u.oneCell' = true := by
  intro u hu; simp only [frC, List.mem_map] at hu; obtain ⟨j, _, rfl⟩ := hu; rfl

theorem pick_ok (z : Int) (n : Nat) (h0 : 0 < n) (h1 : n ≤ 1000) : ∃ q : Nat, IntKind.i64.wrap ((IntKind.u64.wrap z).tmod (n : Int)) = (q : Int) ∧ q < n := by
  have hz : 0 ≤ IntKind.u64.wrap z := by simp [IntKind.wrap, IntKind.bits, IntKind.signed]; omega
  have hm : (IntKind.u64.wrap z).tmod (n : Int) = IntKind.u64.wrap z % (n : Int) := Int.tmod_eq_emod_of_nonneg hz
  have g0 := Int.emod_nonneg (IntKind.u64.wrap z) (by omega : (n : Int) ≠ 0)
  have g1 := Int.emod_lt_of_pos (IntKind.u64.wrap z) (by omega : (0 : Int) < n)
  rw [hm]
  generalize IntKind.u64.wrap z % (n : Int) = r at g0 g1
  refine ⟨r.toNat, ?_, by omega⟩
  simp [IntKind.wrap, IntKind.bits, IntKind.signed]
  omega
theorem wrap_len {n : Nat} (h : n ≤ 1000) : IntKind.u64.wrap (n : Int) = (n : Int) := by
  simp [IntKind.wrap, IntKind.bits, IntKind.signed]; omega

def fullP (k : Nat) : List (Option (Array Value)) := (List.range k).map fun (i : Nat) => some #[Value.int .i64 (i : Int)]
theorem fullP_len {k : Nat} : (fullP k).length = k := by simp [fullP]
theorem fullP_succ {k : Nat} : fullP k ++ [some #[Value.int .i64 (k : Int)]] = fullP (k + 1) := by simp [fullP, List.range_succ]
theorem fullP_get {k j : Nat} (h : j < k) : (fullP k)[j]? = some (some #[Value.int .i64 (j : Int)]) := by simp [fullP, h]
theorem erased_ne {ls : List Nat} {q j j' : Nat} (hn : ls.Nodup) (hq : ls[q]? = some j) (hj : j' ∈ ls.eraseIdx q) : j ≠ j' := by
  rintro rfl
  obtain ⟨i, h1, h2⟩ := List.mem_eraseIdx_iff_getElem?.1 hj
  exact h1 ((List.getElem?_inj (List.getElem?_eq_some_iff.1 h2).1 hn).1 (h2.trans hq.symm))

section
variable {E : Env} {R : List SProp} {w : World}
theorem again_neg {W : World} {v : Value} {n : Int} (h0 : n < 0) (h : SatL E w (Old W :: R)) :
    Calls Try.prog 3 #[.int .i64 n, v] w (Ret fun u w' => u = .bool true ∧ SatL E w' (Old W :: R)) := by
  refine calls_x Try.func3 rfl Try.ntmps3 rfl ?_
  refine xc_gen (fun g hg => ?_)
  have s0 := (hg 0).trans arg0
  have s1 := (hg 1).trans arg1
  clear hg
  refine xc_seq (fun K hK1 => ?_)
  refine xc_region ?_
  refine x_val (r_assign ec) (nd_of rfl) rfl ?_
  refine xw_nil ?_
  refine hK1 _ _ ?_
  refine xc_gen (fun g hg => ?_)
  have s0 := (hg 0).trans (en rfl s0)
  have s1 := (hg 1).trans (en rfl s1)
  have s4 := (hg 4).trans es
  clear hg
  refine xc_seq (fun K hK2 => ?_)
  refine xc_seq (fun K hK3 => ?_)
  refine xc_region ?_
  refine x_val (r_move s0) (nd_of rfl) rfl ?_
  refine x_val (r_lss es ec (decide_eq_true (by omega))) (nd_of rfl) rfl ?_
  refine x_val (r_move es) (nd_of rfl) rfl ?_
  refine x_pass (d := 14) rfl rfl es rfl ?_
  refine x_pass (d := 14) rfl rfl (en rfl es) rfl ?_
  refine x_val (r_pick_t (en rfl (en rfl es)) ec) (nd_of rfl) rfl ?_
  refine xw_nil ?_
  refine hK3 _ _ ?_
  refine xc_gen (fun g hg => ?_)
  have s0 := (hg 0).trans (en rfl (en rfl (en rfl (en rfl (en rfl (en rfl s0))))))
  have s1 := (hg 1).trans (en rfl (en rfl (en rfl (en rfl (en rfl (en rfl s1))))))
  have s4 := (hg 4).trans (en rfl (en rfl (en rfl (en rfl (en rfl (en rfl s4))))))
  have s17 := (hg 17).trans es
  clear hg
  refine xc_cond s17 (fun _ => ?_) (fun hc => by cases hc)
  refine xc_seq (fun K hK4 => ?_)
  refine xc_region ?_
  refine x_enter (r_call Try.call7 .nil) (nd_of rfl) rfl (known_ok h) ?_
  rintro _ w ⟨rfl, h⟩
  refine x_val (r_assign es) (nd_of rfl) rfl ?_
  refine xw_nil ?_
  refine hK4 _ _ ?_
  refine xc_gen (fun g hg => ?_)
  have s0 := (hg 0).trans (en rfl (en rfl s0))
  have s1 := (hg 1).trans (en rfl (en rfl s1))
  have s4 := (hg 4).trans es
  have s17 := (hg 17).trans (en rfl (en rfl s17))
  clear hg
  refine xc_ret ?_
  refine bodyR_1 rfl s4 ?_
  exact ⟨rfl, h⟩
theorem again_big {W : World} {v : Value} {n : Int} (h0 : 60 < n) (h : SatL E w (Old W :: R)) :
    Calls Try.prog 3 #[.int .i64 n, v] w (Ret fun u w' => u = .bool true ∧ SatL E w' (Old W :: R)) := by
  refine calls_x Try.func3 rfl Try.ntmps3 rfl ?_
  refine xc_gen (fun g hg => ?_)
  have s0 := (hg 0).trans arg0
  have s1 := (hg 1).trans arg1
  clear hg
  refine xc_seq (fun K hK1 => ?_)
  refine xc_region ?_
  refine x_val (r_assign ec) (nd_of rfl) rfl ?_
  refine xw_nil ?_
  refine hK1 _ _ ?_
  refine xc_gen (fun g hg => ?_)
  have s0 := (hg 0).trans (en rfl s0)
  have s1 := (hg 1).trans (en rfl s1)
  have s4 := (hg 4).trans es
  clear hg
  refine xc_seq (fun K hK2 => ?_)
  refine xc_seq (fun K hK3 => ?_)
  refine xc_region ?_
  refine x_val (r_move s0) (nd_of rfl) rfl ?_
  refine x_val (r_lss es ec (decide_eq_false (by omega))) (nd_of rfl) rfl ?_
  refine x_val (r_move es) (nd_of rfl) rfl ?_
  refine x_take (d := 14) rfl rfl es ?_
  refine x_val (r_move (en rfl (en rfl (en rfl s0)))) (nd_of rfl) rfl ?_
  refine x_take (d := 14) rfl rfl (en rfl es) ?_
  refine x_val (r_gtr es ec (decide_eq_true (by omega))) (nd_of rfl) rfl ?_
  refine x_val (r_pick_f (en rfl (en rfl es)) es) (nd_of rfl) rfl ?_
  refine xw_nil ?_
  refine hK3 _ _ ?_
  refine xc_gen (fun g hg => ?_)
  have s0 := (hg 0).trans (en rfl (en rfl (en rfl (en rfl (en rfl (en rfl s0))))))
  have s1 := (hg 1).trans (en rfl (en rfl (en rfl (en rfl (en rfl (en rfl s1))))))
  have s4 := (hg 4).trans (en rfl (en rfl (en rfl (en rfl (en rfl (en rfl s4))))))
  have s17 := (hg 17).trans es
  clear hg
  refine xc_cond s17 (fun _ => ?_) (fun hc => by cases hc)
  refine xc_seq (fun K hK4 => ?_)
  refine xc_region ?_
  refine x_enter (r_call Try.call7 .nil) (nd_of rfl) rfl (known_ok h) ?_
  rintro _ w ⟨rfl, h⟩
  refine x_val (r_assign es) (nd_of rfl) rfl ?_
  refine xw_nil ?_
  refine hK4 _ _ ?_
  refine xc_gen (fun g hg => ?_)
  have s0 := (hg 0).trans (en rfl (en rfl s0))
  have s1 := (hg 1).trans (en rfl (en rfl s1))
  have s4 := (hg 4).trans es
  have s17 := (hg 17).trans (en rfl (en rfl s17))
  clear hg
  refine xc_ret ?_
  refine bodyR_1 rfl s4 ?_
  exact ⟨rfl, h⟩
theorem again_mid {W : World} {v : Value} {zs : List Int} {n : Nat} (hn : n ≤ 60) (ho : OldInts W v zs) (h : SatL E w (Old W :: R)) :
    Calls Try.prog 3 #[.int .i64 (n : Int), v] w (Ret fun u w' => u = .bool true ∧ SatL E w' (Old W :: R)) := by
  obtain ⟨oa, oc, rfl, ho1, ho2, ho3⟩ := ho
  refine calls_x Try.func3 rfl Try.ntmps3 rfl ?_
  refine xc_gen (fun g hg => ?_)
  have s0 := (hg 0).trans arg0
  have s1 := (hg 1).trans arg1
  clear hg
  refine xc_seq (fun K hK1 => ?_)
  refine xc_region ?_
  refine x_val (r_assign ec) (nd_of rfl) rfl ?_
  refine xw_nil ?_
  refine hK1 _ _ ?_
  refine xc_gen (fun g hg => ?_)
  have s0 := (hg 0).trans (en rfl s0)
  have s1 := (hg 1).trans (en rfl s1)
  have s4 := (hg 4).trans es
  clear hg
  refine xc_seq (fun K hK2 => ?_)
  refine xc_seq (fun K hK3 => ?_)
  refine xc_region ?_
  refine x_val (r_move s0) (nd_of rfl) rfl ?_
  refine x_val (r_lss es ec (decide_eq_false (by omega))) (nd_of rfl) rfl ?_
  refine x_val (r_move es) (nd_of rfl) rfl ?_
  refine x_take (d := 14) rfl rfl es ?_
  refine x_val (r_move (en rfl (en rfl (en rfl s0)))) (nd_of rfl) rfl ?_
  refine x_take (d := 14) rfl rfl (en rfl es) ?_
  refine x_val (r_gtr es ec (decide_eq_false (by omega))) (nd_of rfl) rfl ?_
  refine x_val (r_pick_f (en rfl (en rfl es)) es) (nd_of rfl) rfl ?_
  refine xw_nil ?_
  refine hK3 _ _ ?_
  refine xc_gen (fun g hg => ?_)
  have s0 := (hg 0).trans (en rfl (en rfl (en rfl (en rfl (en rfl (en rfl s0))))))
  have s1 := (hg 1).trans (en rfl (en rfl (en rfl (en rfl (en rfl (en rfl s1))))))
  have s4 := (hg 4).trans (en rfl (en rfl (en rfl (en rfl (en rfl (en rfl s4))))))
  have s17 := (hg 17).trans es
  clear hg
  refine xc_cond s17 (fun hc => by cases hc) (fun _ => ?_)
  refine xc_skip ?_
  refine hK2 _ _ ?_
  refine xc_seq (fun K hK4 => ?_)
  refine xc_region ?_
  refine x_enter (r_call Try.call8 .nil) (nd_of rfl) rfl (I.new_ok h) ?_
  rintro _ w ⟨ba, rfl, h⟩
  have h := (h.rowNil (e := 3) (sz := 1)).f1
  refine x_val (r_assign es) (nd_of rfl) rfl ?_
  refine xw_nil ?_
  refine hK4 _ _ ?_
  refine xc_gen (fun g hg => ?_)
  have s0 := (hg 0).trans (en rfl (en rfl s0))
  have s1 := (hg 1).trans (en rfl (en rfl s1))
  have s4 := (hg 4).trans (en rfl (en rfl s4))
  have s5 := (hg 5).trans es
  have s17 := (hg 17).trans (en rfl (en rfl s17))
  clear hg
  refine xc_seq (fun K hK5 => ?_)
  refine xc_seq (fun K hK6 => ?_)
  refine xc_region ?_
  refine x_val (r_move s5) (nd_of rfl) rfl ?_
  refine x_val (r_eqnil Try.underlying24 es ec (r := false) rfl) (nd_of rfl) rfl ?_
  refine xw_nil ?_
  refine hK6 _ _ ?_
  refine xc_gen (fun g hg => ?_)
  have s0 := (hg 0).trans (en rfl (en rfl s0))
  have s1 := (hg 1).trans (en rfl (en rfl s1))
  have s4 := (hg 4).trans (en rfl (en rfl s4))
  have s5 := (hg 5).trans (en rfl (en rfl s5))
  have s17 := (hg 17).trans (en rfl (en rfl s17))
  have s21 := (hg 21).trans es
  clear hg
  refine xc_cond s21 (fun hc => by cases hc) (fun _ => ?_)
  refine xc_skip ?_
  refine hK5 _ _ ?_
  refine xc_seq (fun K hK7 => ?_)
  refine xc_region ?_
  refine x_val (r_assign ec) (nd_of rfl) rfl ?_
  refine x_val (r_assign ec) (nd_of rfl) rfl ?_
  refine xw_nil ?_
  refine hK7 _ _ ?_
  refine xc_gen (fun g hg => ?_)
  have s0 := (hg 0).trans (en rfl (en rfl s0))
  have s1 := (hg 1).trans (en rfl (en rfl s1))
  have s4 := (hg 4).trans (en rfl (en rfl s4))
  have s5 := (hg 5).trans (en rfl (en rfl s5))
  have s6 := (hg 6).trans (en rfl es)
  have s7 := (hg 7).trans es
  have s17 := (hg 17).trans (en rfl (en rfl s17))
  have s21 := (hg 21).trans (en rfl (en rfl s21))
  clear hg
  refine xc_seq (fun K hK8 => ?_)
  refine xc_seq (fun K hK9 => ?_)
  refine xc_region ?_
  refine x_val (r_move s0) (nd_of rfl) rfl ?_
  refine x_val (r_move ec) (nd_of rfl) rfl ?_
  refine xw_nil ?_
  refine hK9 _ _ ?_
  refine xc_gen (fun g hg => ?_)
  have s0 := (hg 0).trans (en rfl (en rfl s0))
  have s1 := (hg 1).trans (en rfl (en rfl s1))
  have s4 := (hg 4).trans (en rfl (en rfl s4))
  have s5 := (hg 5).trans (en rfl (en rfl s5))
  have s6 := (hg 6).trans (en rfl (en rfl s6))
  have s7 := (hg 7).trans (en rfl (en rfl s7))
  have s17 := (hg 17).trans (en rfl (en rfl s17))
  have s21 := (hg 21).trans (en rfl (en rfl s21))
  have s22 := (hg 22).trans (en rfl es)
  have s23 := (hg 23).trans es
  clear hg
  refine xc_block ?_
  obtain ⟨G10, hG10⟩ : ∃ g0 : Nat → Value, g0 = g := ⟨_, rfl⟩
  have zG10_0 : G10 0 = _ := (congrFun hG10 0).trans s0
  have zG10_1 : G10 1 = _ := (congrFun hG10 1).trans s1
  have zG10_5 : G10 5 = _ := (congrFun hG10 5).trans s5
  have zG10_7 : G10 7 = _ := (congrFun hG10 7).trans s7
  have zG10_17 : G10 17 = _ := (congrFun hG10 17).trans s17
  have zG10_21 : G10 21 = _ := (congrFun hG10 21).trans s21
  have zG10_22 : G10 22 = _ := (congrFun hG10 22).trans s22
  refine xc_loop (fun m f w => (∃ (k : Nat) (lv : Value), m = n - k ∧ k ≤ n ∧ f 23 = .int .i64 (k : Int) ∧ f 6 = lv ∧ SatL E w (I.Ar ba (fullP k) [] :: Row 3 1 lv k (frC (List.range k)) :: Old W :: R)) ∧ (f 0 = G10 0 ∧ f 1 = G10 1 ∧ f 5 = G10 5 ∧ f 7 = G10 7 ∧ f 17 = G10 17 ∧ f 21 = G10 21 ∧ f 22 = G10 22)) (n) ⟨⟨0, _, by omega, by omega, s23, s6, h⟩, ⟨congrFun hG10.symm 0, congrFun hG10.symm 1, congrFun hG10.symm 5, congrFun hG10.symm 7, congrFun hG10.symm 17, congrFun hG10.symm 21, congrFun hG10.symm 22⟩⟩ ?_
  rintro m g w ⟨⟨k, lv, hm, hk, s23, s6, h⟩, ⟨y0, y1, y5, y7, y17, y21, y22⟩⟩
  have s0 := y0.trans zG10_0
  have s1 := y1.trans zG10_1
  have s5 := y5.trans zG10_5
  have s7 := y7.trans zG10_7
  have s17 := y17.trans zG10_17
  have s21 := y21.trans zG10_21
  have s22 := y22.trans zG10_22
  refine xc_seq (fun K hK11 => ?_)
  refine xc_region ?_
  refine x_val (r_lss s23 s22 rfl) (nd_of rfl) rfl ?_
  refine xw_nil ?_
  refine hK11 _ _ ?_
  refine xc_gen (fun g hg => ?_)
  have s0 := (hg 0).trans (en rfl s0)
  have s1 := (hg 1).trans (en rfl s1)
  have s5 := (hg 5).trans (en rfl s5)
  have s6 := (hg 6).trans (en rfl s6)
  have s7 := (hg 7).trans (en rfl s7)
  have s17 := (hg 17).trans (en rfl s17)
  have s21 := (hg 21).trans (en rfl s21)
  have s22 := (hg 22).trans (en rfl s22)
  have s23 := (hg 23).trans (en rfl s23)
  have s24 := (hg 24).trans es
  clear hg
  refine xc_seq (fun K hK12 => ?_)
  refine xc_cond s24 (fun hc => ?_) (fun hc => ?_)
  ·
    refine xc_skip ?_
    refine hK12 _ _ ?_
    refine xc_seq (fun K hK13 => ?_)
    refine xc_block ?_
    refine xc_seq (fun K hK14 => ?_)
    have hc : (k : Int) < n := by simpa using hc
    refine xc_region ?_
    refine x_val (r_move s23) (nd_of rfl) rfl ?_
    refine x_val (r_assign es) (nd_of rfl) rfl ?_
    refine xw_nil ?_
    refine hK14 _ _ ?_
    refine xc_gen (fun g hg => ?_)
    have s0 := (hg 0).trans (en rfl (en rfl s0))
    have s1 := (hg 1).trans (en rfl (en rfl s1))
    have s5 := (hg 5).trans (en rfl (en rfl s5))
    have s6 := (hg 6).trans (en rfl (en rfl s6))
    have s7 := (hg 7).trans (en rfl (en rfl s7))
    have s8 := (hg 8).trans es
    have s17 := (hg 17).trans (en rfl (en rfl s17))
    have s21 := (hg 21).trans (en rfl (en rfl s21))
    have s22 := (hg 22).trans (en rfl (en rfl s22))
    have s23 := (hg 23).trans (en rfl (en rfl s23))
    have s24 := (hg 24).trans (en rfl (en rfl s24))
    clear hg
    refine xc_seq (fun K hK15 => ?_)
    refine xc_seq (fun K hK16 => ?_)
    refine xc_region ?_
    refine x_val (r_move s5) (nd_of rfl) rfl ?_
    refine x_val (r_move (en rfl s8)) (nd_of rfl) rfl ?_
    refine x_enter (r_call Try.call9 (.cons (en rfl es) (.cons es .nil))) (nd_of rfl) rfl (I.take_new (by rw [fullP_len]; omega) h) ?_
    rintro _ w ⟨rfl, h⟩
    refine x_val (r_move (en rfl (en rfl (en rfl s8)))) (nd_of rfl) rfl ?_
    refine x_val (r_neq (en rfl es) es (decide_eq_false (by simp [fullP]))) (nd_of rfl) rfl ?_
    refine xw_nil ?_
    refine hK16 _ _ ?_
    refine xc_gen (fun g hg => ?_)
    have s0 := (hg 0).trans (en rfl (en rfl (en rfl (en rfl (en rfl s0)))))
    have s1 := (hg 1).trans (en rfl (en rfl (en rfl (en rfl (en rfl s1)))))
    have s5 := (hg 5).trans (en rfl (en rfl (en rfl (en rfl (en rfl s5)))))
    have s6 := (hg 6).trans (en rfl (en rfl (en rfl (en rfl (en rfl s6)))))
    have s7 := (hg 7).trans (en rfl (en rfl (en rfl (en rfl (en rfl s7)))))
    have s8 := (hg 8).trans (en rfl (en rfl (en rfl (en rfl (en rfl s8)))))
    have s17 := (hg 17).trans (en rfl (en rfl (en rfl (en rfl (en rfl s17)))))
    have s21 := (hg 21).trans (en rfl (en rfl (en rfl (en rfl (en rfl s21)))))
    have s22 := (hg 22).trans (en rfl (en rfl (en rfl (en rfl (en rfl s22)))))
    have s23 := (hg 23).trans (en rfl (en rfl (en rfl (en rfl (en rfl s23)))))
    have s24 := (hg 24).trans (en rfl (en rfl (en rfl (en rfl (en rfl s24)))))
    have s30 := (hg 30).trans es
    clear hg
    refine xc_cond s30 (fun hc => by cases hc) (fun _ => ?_)
    refine xc_skip ?_
    refine hK15 _ _ ?_
    refine xc_region ?_
    refine x_val (r_move s6) (nd_of rfl) rfl ?_
    refine x_val (r_move (en rfl s8)) (nd_of rfl) rfl ?_
    refine x_bslice (c := #[.int .i64 (k : Int)]) h Try.underlying22 Try.sizeOf3 Try.zeroValue3 rfl rfl es rfl Ok.int1 rfl ?_; intro bn w h; have h := h.f1.f2
    have h := h.f2.f1
    refine x_append (bytes := 8) h Try.underlying22 (by kernel_rfl) (en rfl (en rfl es)) es Ok.int1 (by omega) (by omega) rfl ?_; intro lv2 w h; have h := h.f1.drop.f1
    refine x_val (r_assign es) (nd_of rfl) rfl ?_
    refine xw_nil ?_
    refine hK13 _ _ ?_
    refine xc_gen (fun g hg => ?_)
    have s0 := (hg 0).trans (en rfl (en rfl (en rfl (en rfl (en rfl s0)))))
    have s1 := (hg 1).trans (en rfl (en rfl (en rfl (en rfl (en rfl s1)))))
    have s5 := (hg 5).trans (en rfl (en rfl (en rfl (en rfl (en rfl s5)))))
    have s6 := (hg 6).trans es
    have s7 := (hg 7).trans (en rfl (en rfl (en rfl (en rfl (en rfl s7)))))
    have s8 := (hg 8).trans (en rfl (en rfl (en rfl (en rfl (en rfl s8)))))
    have s17 := (hg 17).trans (en rfl (en rfl (en rfl (en rfl (en rfl s17)))))
    have s21 := (hg 21).trans (en rfl (en rfl (en rfl (en rfl (en rfl s21)))))
    have s22 := (hg 22).trans (en rfl (en rfl (en rfl (en rfl (en rfl s22)))))
    have s23 := (hg 23).trans (en rfl (en rfl (en rfl (en rfl (en rfl s23)))))
    have s24 := (hg 24).trans (en rfl (en rfl (en rfl (en rfl (en rfl s24)))))
    have s30 := (hg 30).trans (en rfl (en rfl (en rfl (en rfl (en rfl s30)))))
    clear hg
    refine xc_region ?_
    refine x_val (r_add s23 ec (show _ = (((k + 1 : Nat) : Int) : Int) from by omega) (by unfold I64; omega)) (nd_of rfl) rfl ?_
    refine x_val (r_move es) (nd_of rfl) rfl ?_
    refine xw_nil ?_
    exact ⟨n - (k + 1), by omega, ⟨k + 1, _, rfl, by omega, es, (en rfl (en rfl s6)), by rw [← fullP_succ, List.range_succ, frC_snoc]; exact h⟩, ⟨((en rfl (en rfl s0))).trans zG10_0.symm, ((en rfl (en rfl s1))).trans zG10_1.symm, ((en rfl (en rfl s5))).trans zG10_5.symm, ((en rfl (en rfl s7))).trans zG10_7.symm, ((en rfl (en rfl s17))).trans zG10_17.symm, ((en rfl (en rfl s21))).trans zG10_21.symm, ((en rfl (en rfl s22))).trans zG10_22.symm⟩⟩
  ·
    refine xc_exit ?_
    refine hK8 _ _ ?_
    refine xc_seq (fun K hK17 => ?_)
    refine xc_seq (fun K hK18 => ?_)
    have hc : ¬ (k : Int) < n := by simpa using hc
    obtain rfl : k = n := by omega
    have h := (h.rowNil (e := 3) (sz := 1)).f2.f2
    refine xc_region ?_
    refine x_val (r_assign ec) (nd_of rfl) rfl ?_
    refine xw_nil ?_
    refine hK18 _ _ ?_
    refine xc_gen (fun g hg => ?_)
    have s0 := (hg 0).trans (en rfl s0)
    have s1 := (hg 1).trans (en rfl s1)
    have s5 := (hg 5).trans (en rfl s5)
    have s6 := (hg 6).trans (en rfl s6)
    have s7 := (hg 7).trans (en rfl s7)
    have s9 := (hg 9).trans es
    have s17 := (hg 17).trans (en rfl s17)
    have s21 := (hg 21).trans (en rfl s21)
    have s22 := (hg 22).trans (en rfl s22)
    have s23 := (hg 23).trans (en rfl s23)
    have s24 := (hg 24).trans (en rfl s24)
    clear hg
    refine xc_block ?_
    obtain ⟨G19, hG19⟩ : ∃ g0 : Nat → Value, g0 = g := ⟨_, rfl⟩
    have zG19_0 : G19 0 = _ := (congrFun hG19 0).trans s0
    have zG19_1 : G19 1 = _ := (congrFun hG19 1).trans s1
    have zG19_5 : G19 5 = _ := (congrFun hG19 5).trans s5
    have zG19_17 : G19 17 = _ := (congrFun hG19 17).trans s17
    have zG19_21 : G19 21 = _ := (congrFun hG19 21).trans s21
    have zG19_22 : G19 22 = _ := (congrFun hG19 22).trans s22
    have zG19_23 : G19 23 = _ := (congrFun hG19 23).trans s23
    have zG19_24 : G19 24 = _ := (congrFun hG19 24).trans s24
    refine xc_loop (fun m f w => (∃ (ls fs : List Nat) (pl : List (Option (Array Value))) (lv fv : Value), m = ls.length ∧ ls.length + fs.length = k ∧ pl.length = k ∧ ls.Nodup ∧ (∀ j ∈ ls, ∃ c, pl[j]? = some (some c)) ∧ f 9 = .int .i64 (fs.length : Int) ∧ f 6 = lv ∧ f 7 = fv ∧ SatL E w (I.Ar ba pl fs :: Row 3 1 lv ls.length (frC ls) :: Row 3 1 fv fs.length (frC fs) :: Old W :: R)) ∧ (f 0 = G19 0 ∧ f 1 = G19 1 ∧ f 5 = G19 5 ∧ f 17 = G19 17 ∧ f 21 = G19 21 ∧ f 22 = G19 22 ∧ f 23 = G19 23 ∧ f 24 = G19 24)) (k) ⟨⟨List.range k, [], fullP k, lv, _, by simp, by simp, fullP_len, List.nodup_range, fun j hj => ⟨_, fullP_get (by simpa using hj)⟩, s9, s6, s7, by rw [List.length_range]; exact h⟩, ⟨congrFun hG19.symm 0, congrFun hG19.symm 1, congrFun hG19.symm 5, congrFun hG19.symm 17, congrFun hG19.symm 21, congrFun hG19.symm 22, congrFun hG19.symm 23, congrFun hG19.symm 24⟩⟩ ?_
    rintro m g w ⟨⟨ls, fs, pl, lv, fv, hm, hlen, hpl, hnd, hall, s9, s6, s7, h⟩, ⟨y0, y1, y5, y17, y21, y22, y23, y24⟩⟩
    have s0 := y0.trans zG19_0
    have s1 := y1.trans zG19_1
    have s5 := y5.trans zG19_5
    have s17 := y17.trans zG19_17
    have s21 := y21.trans zG19_21
    have s22 := y22.trans zG19_22
    have s23 := y23.trans zG19_23
    have s24 := y24.trans zG19_24
    refine xc_seq (fun K hK20 => ?_)
    refine xc_seq (fun K hK21 => ?_)
    obtain ⟨ga, ca, rfl, hca, _⟩ := (h.f1).rowVal
    refine xc_region ?_
    refine x_val (r_move s6) (nd_of rfl) rfl ?_
    refine x_val (r_len Try.underlying22 es) (nd_of rfl) rfl ?_
    refine x_val (r_gtr es ec rfl) (nd_of rfl) rfl ?_
    refine xw_nil ?_
    refine hK21 _ _ ?_
    refine xc_gen (fun g hg => ?_)
    have s0 := (hg 0).trans (en rfl (en rfl (en rfl s0)))
    have s1 := (hg 1).trans (en rfl (en rfl (en rfl s1)))
    have s5 := (hg 5).trans (en rfl (en rfl (en rfl s5)))
    have s6 := (hg 6).trans (en rfl (en rfl (en rfl s6)))
    have s7 := (hg 7).trans (en rfl (en rfl (en rfl s7)))
    have s9 := (hg 9).trans (en rfl (en rfl (en rfl s9)))
    have s17 := (hg 17).trans (en rfl (en rfl (en rfl s17)))
    have s21 := (hg 21).trans (en rfl (en rfl (en rfl s21)))
    have s22 := (hg 22).trans (en rfl (en rfl (en rfl s22)))
    have s23 := (hg 23).trans (en rfl (en rfl (en rfl s23)))
    have s24 := (hg 24).trans (en rfl (en rfl (en rfl s24)))
    have s38 := (hg 38).trans es
    clear hg
    refine xc_cond s38 (fun hc => ?_) (fun hc => ?_)
    ·
      refine xc_skip ?_
      refine hK20 _ _ ?_
      refine xc_seq (fun K hK22 => ?_)
      refine xc_block ?_
      refine xc_seq (fun K hK23 => ?_)
      have hl0 : 0 < ls.length := by have := of_decide_eq_true hc; omega
      obtain ⟨gl, cl, curl, hrl, h'⟩ := (h.f1).openRow hl0
      clear h
      have hv := hrl.val
      simp at hv
      obtain ⟨rfl, rfl⟩ := hv
      have h := h'
      have hcl := hrl.le
      refine xc_region ?_
      refine x_val (r_assign ec) (nd_of rfl) rfl ?_
      refine xw_nil ?_
      refine hK23 _ _ ?_
      refine xc_gen (fun g hg => ?_)
      have s0 := (hg 0).trans (en rfl s0)
      have s1 := (hg 1).trans (en rfl s1)
      have s5 := (hg 5).trans (en rfl s5)
      have s6 := (hg 6).trans (en rfl s6)
      have s7 := (hg 7).trans (en rfl s7)
      have s9 := (hg 9).trans (en rfl s9)
      have s10 := (hg 10).trans es
      have s17 := (hg 17).trans (en rfl s17)
      have s21 := (hg 21).trans (en rfl s21)
      have s22 := (hg 22).trans (en rfl s22)
      have s23 := (hg 23).trans (en rfl s23)
      have s24 := (hg 24).trans (en rfl s24)
      have s38 := (hg 38).trans (en rfl s38)
      clear hg
      refine xc_seq (fun K hK24 => ?_)
      refine xc_seq (fun K hK25 => ?_)
      refine xc_region ?_
      refine x_val (r_move s9) (nd_of rfl) rfl ?_
      refine x_val (r_move (en rfl s1)) (nd_of rfl) rfl ?_
      refine x_val (r_len Try.underlying22 es) (nd_of rfl) rfl ?_
      refine x_val (r_lss (en rfl (en rfl es)) es rfl) (nd_of rfl) rfl ?_
      refine xw_nil ?_
      refine hK25 _ _ ?_
      refine xc_gen (fun g hg => ?_)
      have s0 := (hg 0).trans (en rfl (en rfl (en rfl (en rfl s0))))
      have s1 := (hg 1).trans (en rfl (en rfl (en rfl (en rfl s1))))
      have s5 := (hg 5).trans (en rfl (en rfl (en rfl (en rfl s5))))
      have s6 := (hg 6).trans (en rfl (en rfl (en rfl (en rfl s6))))
      have s7 := (hg 7).trans (en rfl (en rfl (en rfl (en rfl s7))))
      have s9 := (hg 9).trans (en rfl (en rfl (en rfl (en rfl s9))))
      have s10 := (hg 10).trans (en rfl (en rfl (en rfl (en rfl s10))))
      have s17 := (hg 17).trans (en rfl (en rfl (en rfl (en rfl s17))))
      have s21 := (hg 21).trans (en rfl (en rfl (en rfl (en rfl s21))))
      have s22 := (hg 22).trans (en rfl (en rfl (en rfl (en rfl s22))))
      have s23 := (hg 23).trans (en rfl (en rfl (en rfl (en rfl s23))))
      have s24 := (hg 24).trans (en rfl (en rfl (en rfl (en rfl s24))))
      have s38 := (hg 38).trans (en rfl (en rfl (en rfl (en rfl s38))))
      have s44 := (hg 44).trans es
      clear hg
      refine xc_cond s44 (fun hc => ?_) (fun hc => ?_)
      ·
        have hi : fs.length < zs.length := by have := of_decide_eq_true hc; omega
        obtain ⟨a', rfl, hcell⟩ := ho3 fs.length hi
        obtain ⟨q, hq, hql⟩ := pick_ok (zs.getD fs.length 0) ls.length hl0 (by omega)
        refine xc_region ?_
        refine x_val (r_move s1) (nd_of rfl) rfl ?_
        refine x_val (r_move (en rfl s9)) (nd_of rfl) rfl ?_
        refine x_val (r_indexAny Try.underlying22 Try.sizeOf3 (en rfl es) es (by omega) (by omega)) (nd_of rfl) rfl ?_
        refine x_val (r_loadOld h 3 rfl Try.isAgg3 es hcell) (nd_of rfl) rfl ?_
        refine x_val (r_convert Try.underlying3 Try.underlying27 es rfl) (nd_of rfl) rfl ?_
        refine x_val (r_move (en rfl (en rfl (en rfl (en rfl (en rfl s6)))))) (nd_of rfl) rfl ?_
        refine x_val (r_len Try.underlying22 es) (nd_of rfl) rfl ?_
        refine x_val (r_convert Try.underlying3 Try.underlying27 es (wrap_len (by omega))) (nd_of rfl) rfl ?_
        refine x_val (r_rem (en rfl (en rfl (en rfl es))) es (by omega) rfl) (nd_of rfl) rfl ?_
        refine x_val (r_convert Try.underlying27 Try.underlying3 es hq) (nd_of rfl) rfl ?_
        obtain ⟨j, hj⟩ : ∃ j, ls[q]? = some j := ⟨_, List.getElem?_eq_getElem hql⟩
        obtain ⟨cj, hcj⟩ := hall j (List.mem_of_getElem? hj)
        have hcur := hrl.get (frC_get hj)
        have hjl := (List.getElem?_eq_some_iff.1 hcj).1
        refine x_val (r_assign es) (nd_of rfl) rfl ?_
        refine xw_nil ?_
        refine hK24 _ _ ?_
        refine xc_gen (fun g hg => ?_)
        have s0 := (hg 0).trans (en rfl (en rfl (en rfl (en rfl (en rfl (en rfl (en rfl (en rfl (en rfl (en rfl (en rfl s0)))))))))))
        have s1 := (hg 1).trans (en rfl (en rfl (en rfl (en rfl (en rfl (en rfl (en rfl (en rfl (en rfl (en rfl (en rfl s1)))))))))))
        have s5 := (hg 5).trans (en rfl (en rfl (en rfl (en rfl (en rfl (en rfl (en rfl (en rfl (en rfl (en rfl (en rfl s5)))))))))))
        have s6 := (hg 6).trans (en rfl (en rfl (en rfl (en rfl (en rfl (en rfl (en rfl (en rfl (en rfl (en rfl (en rfl s6)))))))))))
        have s7 := (hg 7).trans (en rfl (en rfl (en rfl (en rfl (en rfl (en rfl (en rfl (en rfl (en rfl (en rfl (en rfl s7)))))))))))
        have s9 := (hg 9).trans (en rfl (en rfl (en rfl (en rfl (en rfl (en rfl (en rfl (en rfl (en rfl (en rfl (en rfl s9)))))))))))
        have s10 := (hg 10).trans es
        have s17 := (hg 17).trans (en rfl (en rfl (en rfl (en rfl (en rfl (en rfl (en rfl (en rfl (en rfl (en rfl (en rfl s17)))))))))))
        have s21 := (hg 21).trans (en rfl (en rfl (en rfl (en rfl (en rfl (en rfl (en rfl (en rfl (en rfl (en rfl (en rfl s21)))))))))))
        have s22 := (hg 22).trans (en rfl (en rfl (en rfl (en rfl (en rfl (en rfl (en rfl (en rfl (en rfl (en rfl (en rfl s22)))))))))))
        have s23 := (hg 23).trans (en rfl (en rfl (en rfl (en rfl (en rfl (en rfl (en rfl (en rfl (en rfl (en rfl (en rfl s23)))))))))))
        have s24 := (hg 24).trans (en rfl (en rfl (en rfl (en rfl (en rfl (en rfl (en rfl (en rfl (en rfl (en rfl (en rfl s24)))))))))))
        have s38 := (hg 38).trans (en rfl (en rfl (en rfl (en rfl (en rfl (en rfl (en rfl (en rfl (en rfl (en rfl (en rfl s38)))))))))))
        have s44 := (hg 44).trans (en rfl (en rfl (en rfl (en rfl (en rfl (en rfl (en rfl (en rfl (en rfl (en rfl (en rfl s44)))))))))))
        clear hg
        refine xc_seq (fun K hK26 => ?_)
        refine xc_seq (fun K hK27 => ?_)
        refine xc_region ?_
        refine x_val (r_move s5) (nd_of rfl) rfl ?_
        refine x_val (r_move (en rfl s6)) (nd_of rfl) rfl ?_
        refine x_val (r_move (en rfl (en rfl s10))) (nd_of rfl) rfl ?_
        refine x_val (r_indexAddrN Try.underlying22 Try.sizeOf3 (en rfl es) es (by omega)) (nd_of rfl) rfl ?_
        refine x_val (r_load h 0 rfl Try.isAgg3 es (by rw [Nat.mul_one]; exact hcur)) (nd_of rfl) rfl ?_
        have h := h.f1
        refine x_enter (r_call Try.call10 (.cons (en rfl (en rfl (en rfl (en rfl es)))) (.cons es .nil))) (nd_of rfl) rfl (I.free_ok hcj (by omega) h) ?_
        rintro _ w ⟨rfl, h⟩
        refine x_val (r_neq es ec (r := false) rfl) (nd_of rfl) rfl ?_
        refine x_val (r_move es) (nd_of rfl) rfl ?_
        refine x_take (d := 62) rfl rfl es ?_
        refine x_val (r_move (en rfl (en rfl (en rfl (en rfl (en rfl (en rfl (en rfl (en rfl s5))))))))) (nd_of rfl) rfl ?_
        refine x_take (d := 62) rfl rfl (en rfl es) ?_
        refine x_val (r_move (en rfl (en rfl (en rfl (en rfl (en rfl (en rfl (en rfl (en rfl (en rfl s6)))))))))) (nd_of rfl) rfl ?_
        refine x_take (d := 62) rfl rfl (en rfl (en rfl es)) ?_
        refine x_val (r_move (en rfl (en rfl (en rfl (en rfl (en rfl (en rfl (en rfl (en rfl (en rfl (en rfl s10))))))))))) (nd_of rfl) rfl ?_
        refine x_take (d := 62) rfl rfl (en rfl (en rfl (en rfl es))) ?_
        refine x_val (r_indexAddrN Try.underlying22 Try.sizeOf3 (en rfl es) es (by omega)) (nd_of rfl) rfl ?_
        refine x_take (d := 62) rfl rfl (en rfl (en rfl (en rfl (en rfl es)))) ?_
        refine x_val (r_load h 1 rfl Try.isAgg3 es (by rw [Nat.mul_one]; exact hcur)) (nd_of rfl) rfl ?_
        refine x_take (d := 62) rfl rfl (en rfl (en rfl (en rfl (en rfl (en rfl es))))) ?_
        refine x_enter (r_call Try.call10 (.cons (en rfl (en rfl (en rfl (en rfl es)))) (.cons es .nil))) (nd_of rfl) rfl (I.free_no (i := (j : Int)) (by rintro ⟨m, c, e, hh⟩; obtain rfl : j = m := (by omega); rw [List.getElem?_set_self (by omega)] at hh; cases hh) h) ?_
        rintro _ w ⟨rfl, h⟩
        refine x_take (d := 62) rfl rfl (en rfl (en rfl (en rfl (en rfl (en rfl (en rfl es)))))) ?_
        refine x_val (r_neq es ec (r := false) rfl) (nd_of rfl) rfl ?_
        refine x_val (r_pick_f (en rfl (en rfl (en rfl (en rfl (en rfl (en rfl (en rfl es))))))) es) (nd_of rfl) rfl ?_
        refine xw_nil ?_
        refine hK27 _ _ ?_
        refine xc_gen (fun g hg => ?_)
        have s0 := (hg 0).trans (en rfl (en rfl (en rfl (en rfl (en rfl (en rfl (en rfl (en rfl (en rfl (en rfl (en rfl (en rfl (en rfl (en rfl (en rfl (en rfl s0))))))))))))))))
        have s1 := (hg 1).trans (en rfl (en rfl (en rfl (en rfl (en rfl (en rfl (en rfl (en rfl (en rfl (en rfl (en rfl (en rfl (en rfl (en rfl (en rfl (en rfl s1))))))))))))))))
        have s5 := (hg 5).trans (en rfl (en rfl (en rfl (en rfl (en rfl (en rfl (en rfl (en rfl (en rfl (en rfl (en rfl (en rfl (en rfl (en rfl (en rfl (en rfl s5))))))))))))))))
        have s6 := (hg 6).trans (en rfl (en rfl (en rfl (en rfl (en rfl (en rfl (en rfl (en rfl (en rfl (en rfl (en rfl (en rfl (en rfl (en rfl (en rfl (en rfl s6))))))))))))))))
        have s7 := (hg 7).trans (en rfl (en rfl (en rfl (en rfl (en rfl (en rfl (en rfl (en rfl (en rfl (en rfl (en rfl (en rfl (en rfl (en rfl (en rfl (en rfl s7))))))))))))))))
        have s9 := (hg 9).trans (en rfl (en rfl (en rfl (en rfl (en rfl (en rfl (en rfl (en rfl (en rfl (en rfl (en rfl (en rfl (en rfl (en rfl (en rfl (en rfl s9))))))))))))))))
        have s10 := (hg 10).trans (en rfl (en rfl (en rfl (en rfl (en rfl (en rfl (en rfl (en rfl (en rfl (en rfl (en rfl (en rfl (en rfl (en rfl (en rfl (en rfl s10))))))))))))))))
        have s17 := (hg 17).trans (en rfl (en rfl (en rfl (en rfl (en rfl (en rfl (en rfl (en rfl (en rfl (en rfl (en rfl (en rfl (en rfl (en rfl (en rfl (en rfl s17))))))))))))))))
        have s21 := (hg 21).trans (en rfl (en rfl (en rfl (en rfl (en rfl (en rfl (en rfl (en rfl (en rfl (en rfl (en rfl (en rfl (en rfl (en rfl (en rfl (en rfl s21))))))))))))))))
        have s22 := (hg 22).trans (en rfl (en rfl (en rfl (en rfl (en rfl (en rfl (en rfl (en rfl (en rfl (en rfl (en rfl (en rfl (en rfl (en rfl (en rfl (en rfl s22))))))))))))))))
        have s23 := (hg 23).trans (en rfl (en rfl (en rfl (en rfl (en rfl (en rfl (en rfl (en rfl (en rfl (en rfl (en rfl (en rfl (en rfl (en rfl (en rfl (en rfl s23))))))))))))))))
        have s24 := (hg 24).trans (en rfl (en rfl (en rfl (en rfl (en rfl (en rfl (en rfl (en rfl (en rfl (en rfl (en rfl (en rfl (en rfl (en rfl (en rfl (en rfl s24))))))))))))))))
        have s38 := (hg 38).trans (en rfl (en rfl (en rfl (en rfl (en rfl (en rfl (en rfl (en rfl (en rfl (en rfl (en rfl (en rfl (en rfl (en rfl (en rfl (en rfl s38))))))))))))))))
        have s44 := (hg 44).trans (en rfl (en rfl (en rfl (en rfl (en rfl (en rfl (en rfl (en rfl (en rfl (en rfl (en rfl (en rfl (en rfl (en rfl (en rfl (en rfl s44))))))))))))))))
        have s70 := (hg 70).trans es
        clear hg
        refine xc_cond s70 (fun hc => by cases hc) (fun _ => ?_)
        refine xc_skip ?_
        refine hK26 _ _ ?_
        refine xc_seq (fun K hK28 => ?_)
        refine xc_region ?_
        refine x_val (r_move s7) (nd_of rfl) rfl ?_
        refine x_val (r_move (en rfl s6)) (nd_of rfl) rfl ?_
        refine x_val (r_move (en rfl (en rfl s10))) (nd_of rfl) rfl ?_
        refine x_val (r_indexAddrN Try.underlying22 Try.sizeOf3 (en rfl es) es (by omega)) (nd_of rfl) rfl ?_
        refine x_val (r_load h 1 rfl Try.isAgg3 es (by rw [Nat.mul_one]; exact hcur)) (nd_of rfl) rfl ?_
        have h := h.f2
        refine x_bslice (c := #[.int .i64 (j : Int)]) h Try.underlying22 Try.sizeOf3 Try.zeroValue3 rfl rfl es rfl Ok.int1 rfl ?_; intro bn w h; have h := h.f1
        refine x_append (bytes := 8) h Try.underlying22 (by kernel_rfl) (en rfl (en rfl (en rfl (en rfl (en rfl es))))) es Ok.int1 (by omega) (by omega) rfl ?_; intro fv2 w h; have h := h.f1.drop
        have h := h.f2
        refine x_val (r_assign es) (nd_of rfl) rfl ?_
        refine xw_nil ?_
        refine hK28 _ _ ?_
        refine xc_gen (fun g hg => ?_)
        have s0 := (hg 0).trans (en rfl (en rfl (en rfl (en rfl (en rfl (en rfl (en rfl (en rfl s0))))))))
        have s1 := (hg 1).trans (en rfl (en rfl (en rfl (en rfl (en rfl (en rfl (en rfl (en rfl s1))))))))
        have s5 := (hg 5).trans (en rfl (en rfl (en rfl (en rfl (en rfl (en rfl (en rfl (en rfl s5))))))))
        have s6 := (hg 6).trans (en rfl (en rfl (en rfl (en rfl (en rfl (en rfl (en rfl (en rfl s6))))))))
        have s7 := (hg 7).trans es
        have s9 := (hg 9).trans (en rfl (en rfl (en rfl (en rfl (en rfl (en rfl (en rfl (en rfl s9))))))))
        have s10 := (hg 10).trans (en rfl (en rfl (en rfl (en rfl (en rfl (en rfl (en rfl (en rfl s10))))))))
        have s17 := (hg 17).trans (en rfl (en rfl (en rfl (en rfl (en rfl (en rfl (en rfl (en rfl s17))))))))
        have s21 := (hg 21).trans (en rfl (en rfl (en rfl (en rfl (en rfl (en rfl (en rfl (en rfl s21))))))))
        have s22 := (hg 22).trans (en rfl (en rfl (en rfl (en rfl (en rfl (en rfl (en rfl (en rfl s22))))))))
        have s23 := (hg 23).trans (en rfl (en rfl (en rfl (en rfl (en rfl (en rfl (en rfl (en rfl s23))))))))
        have s24 := (hg 24).trans (en rfl (en rfl (en rfl (en rfl (en rfl (en rfl (en rfl (en rfl s24))))))))
        have s38 := (hg 38).trans (en rfl (en rfl (en rfl (en rfl (en rfl (en rfl (en rfl (en rfl s38))))))))
        have s44 := (hg 44).trans (en rfl (en rfl (en rfl (en rfl (en rfl (en rfl (en rfl (en rfl s44))))))))
        have s70 := (hg 70).trans (en rfl (en rfl (en rfl (en rfl (en rfl (en rfl (en rfl (en rfl s70))))))))
        clear hg
        have hS := h
        have hS := (hS.f0).drop
        have hS := (hS.f0).drop
        have hS := (hS.f0).drop
        refine xc_plan 11 [(1, 2), (2, 2), (3, 2), (5, 2), (6, 2), (7, 2), (8, 2), (0, 0), (4, 0), (9, 0), (10, 2)] (by kernel_rfl) rfl (by kernel_rfl) hS ?_
        have h := h.drew
        refine xp_read (i := 1) rfl (fun W => r_move s6) rfl (fun _ _ _ hh => by first | exact bodyR_np hh | exact bodyY_np hh | exact hh) ?_
        refine xp_read (i := 2) rfl (fun W => r_move (en rfl s10)) rfl (fun _ _ _ hh => by first | exact bodyR_np hh | exact bodyY_np hh | exact hh) ?_
        refine xp_read (i := 3) rfl (fun W => r_sliceToN Try.underlying22 Try.sizeOf3 (en rfl es) es (by omega)) rfl (fun _ _ _ hh => by first | exact bodyR_np hh | exact bodyY_np hh | exact hh) ?_
        refine xp_read (i := 5) rfl (fun W => r_move (en rfl (en rfl (en rfl s6)))) rfl (fun _ _ _ hh => by first | exact bodyR_np hh | exact bodyY_np hh | exact hh) ?_
        refine xp_read (i := 6) rfl (fun W => r_move (en rfl (en rfl (en rfl (en rfl s10))))) rfl (fun _ _ _ hh => by first | exact bodyR_np hh | exact bodyY_np hh | exact hh) ?_
        refine xp_read (i := 7) rfl (fun W => r_add es ec (show _ = (((q + 1 : Nat) : Int) : Int) from by omega) (by unfold I64; omega)) rfl (fun _ _ _ hh => by first | exact bodyR_np hh | exact bodyY_np hh | exact hh) ?_
        refine xp_read (i := 8) rfl (fun W => r_sliceFromN Try.underlying22 Try.sizeOf3 (en rfl (en rfl es)) es (by omega) (by omega)) rfl (fun _ _ _ hh => by first | exact bodyR_np hh | exact bodyY_np hh | exact hh) ?_
        refine xp_bslice0 (i := 0) h rfl Try.underlying22 Try.sizeOf3 rfl ?_; intro bn w h; refine ⟨fun _ => h.drop.drop.drop.drop, ?_⟩
        refine xp_append_at (i := 4) (bytes := 8) (news := (frC ls).take q) h rfl Try.underlying22 (by kernel_rfl) es (en rfl (en rfl (en rfl (en rfl (en rfl es))))) (by simp [frC]; omega) (fun t u ht => by rw [add_pt, Nat.zero_add]; exact h.cell 1 rfl (hrl.get (by rw [List.getElem?_take] at ht; split at ht; exact ht; cases ht))) (fun u hu => frC_one u (List.mem_of_mem_take hu)) (by omega) (by omega) rfl ?_; intro l2 w h; refine ⟨fun _ => h.drop.drop.drop.drop, ?_⟩
        refine xp_append_at (i := 9) (bytes := 8) (news := (frC ls).drop (q + 1)) h rfl Try.underlying22 (by kernel_rfl) es (en rfl (en rfl es)) (by simp [frC]) (fun t u ht => by rw [List.getElem?_drop] at ht; have hlt := (List.getElem?_eq_some_iff.1 ht).1; rw [frC_len] at hlt; rw [if_neg (by omega), add_pt]; exact h.cell 1 rfl (hrl.get (by rw [← ht]; congr 1; omega))) (fun u hu => frC_one u (List.mem_of_mem_drop hu)) (by omega) (by omega) rfl ?_; intro l3 w h; refine ⟨fun _ => h.drop.drop.drop.drop, ?_⟩
        have h := (h.f1).drop
        have hel : (ls.eraseIdx q).length = 0 + q + (ls.length - (q + 1)) := by rw [List.length_eraseIdx, if_pos hql]; omega
        have hec : [] ++ (frC ls).take q ++ (frC ls).drop (q + 1) = frC (ls.eraseIdx q) := by simp [frC, List.eraseIdx_eq_take_drop_succ, List.map_take, List.map_drop]
        rw [hec, ← hel] at h
        refine xp_read (i := 10) rfl (fun W => r_assign es) rfl (fun _ _ _ hh => by first | exact bodyR_np hh | exact bodyY_np hh | exact hh) ?_
        refine xp_nil ?_
        refine hK22 _ _ ?_
        refine xc_gen (fun g hg => ?_)
        have s0 := (hg 0).trans (en rfl (en rfl (en rfl (en rfl (en rfl (en rfl (en rfl (en rfl (en rfl (en rfl (en rfl s0)))))))))))
        have s1 := (hg 1).trans (en rfl (en rfl (en rfl (en rfl (en rfl (en rfl (en rfl (en rfl (en rfl (en rfl (en rfl s1)))))))))))
        have s5 := (hg 5).trans (en rfl (en rfl (en rfl (en rfl (en rfl (en rfl (en rfl (en rfl (en rfl (en rfl (en rfl s5)))))))))))
        have s6 := (hg 6).trans es
        have s7 := (hg 7).trans (en rfl (en rfl (en rfl (en rfl (en rfl (en rfl (en rfl (en rfl (en rfl (en rfl (en rfl s7)))))))))))
        have s9 := (hg 9).trans (en rfl (en rfl (en rfl (en rfl (en rfl (en rfl (en rfl (en rfl (en rfl (en rfl (en rfl s9)))))))))))
        have s10 := (hg 10).trans (en rfl (en rfl (en rfl (en rfl (en rfl (en rfl (en rfl (en rfl (en rfl (en rfl (en rfl s10)))))))))))
        have s17 := (hg 17).trans (en rfl (en rfl (en rfl (en rfl (en rfl (en rfl (en rfl (en rfl (en rfl (en rfl (en rfl s17)))))))))))
        have s21 := (hg 21).trans (en rfl (en rfl (en rfl (en rfl (en rfl (en rfl (en rfl (en rfl (en rfl (en rfl (en rfl s21)))))))))))
        have s22 := (hg 22).trans (en rfl (en rfl (en rfl (en rfl (en rfl (en rfl (en rfl (en rfl (en rfl (en rfl (en rfl s22)))))))))))
        have s23 := (hg 23).trans (en rfl (en rfl (en rfl (en rfl (en rfl (en rfl (en rfl (en rfl (en rfl (en rfl (en rfl s23)))))))))))
        have s24 := (hg 24).trans (en rfl (en rfl (en rfl (en rfl (en rfl (en rfl (en rfl (en rfl (en rfl (en rfl (en rfl s24)))))))))))
        have s38 := (hg 38).trans (en rfl (en rfl (en rfl (en rfl (en rfl (en rfl (en rfl (en rfl (en rfl (en rfl (en rfl s38)))))))))))
        have s44 := (hg 44).trans (en rfl (en rfl (en rfl (en rfl (en rfl (en rfl (en rfl (en rfl (en rfl (en rfl (en rfl s44)))))))))))
        have s70 := (hg 70).trans (en rfl (en rfl (en rfl (en rfl (en rfl (en rfl (en rfl (en rfl (en rfl (en rfl (en rfl s70)))))))))))
        clear hg
        refine xc_region ?_
        refine x_val (r_move s9) (nd_of rfl) rfl ?_
        refine x_val (r_add es ec (show _ = (((fs.length + 1 : Nat) : Int) : Int) from by omega) (by unfold I64; omega)) (nd_of rfl) rfl ?_
        refine x_val (r_assign es) (nd_of rfl) rfl ?_
        refine xw_nil ?_
        exact ⟨(ls.eraseIdx q).length, by omega, ⟨ls.eraseIdx q, fs ++ [j], pl.set j none, _, _, rfl, by rw [List.length_append, List.length_singleton]; omega, by rw [List.length_set]; exact hpl, hnd.sublist (List.eraseIdx_sublist _ _), fun j' hj' => by rw [List.getElem?_set_ne (erased_ne hnd hj hj')]; exact hall j' (List.mem_of_mem_eraseIdx hj'), by rw [List.length_append]; exact es, (en rfl (en rfl (en rfl s6))), (en rfl (en rfl (en rfl s7))), by rw [frC_snoc, List.length_append]; exact h.f2⟩, ⟨((en rfl (en rfl (en rfl s0)))).trans zG19_0.symm, ((en rfl (en rfl (en rfl s1)))).trans zG19_1.symm, ((en rfl (en rfl (en rfl s5)))).trans zG19_5.symm, ((en rfl (en rfl (en rfl s17)))).trans zG19_17.symm, ((en rfl (en rfl (en rfl s21)))).trans zG19_21.symm, ((en rfl (en rfl (en rfl s22)))).trans zG19_22.symm, ((en rfl (en rfl (en rfl s23)))).trans zG19_23.symm, ((en rfl (en rfl (en rfl s24)))).trans zG19_24.symm⟩⟩
      ·
        refine xc_skip ?_
        refine hK24 _ _ ?_
        refine xc_seq (fun K hK29 => ?_)
        refine xc_seq (fun K hK30 => ?_)
        obtain ⟨q, hq, hql⟩ : ∃ q : Nat, (0 : Int) = (q : Int) ∧ q < ls.length := ⟨0, rfl, hl0⟩
        rw [hq] at s10
        obtain ⟨j, hj⟩ : ∃ j, ls[q]? = some j := ⟨_, List.getElem?_eq_getElem hql⟩
        obtain ⟨cj, hcj⟩ := hall j (List.mem_of_getElem? hj)
        have hcur := hrl.get (frC_get hj)
        have hjl := (List.getElem?_eq_some_iff.1 hcj).1
        refine xc_region ?_
        refine x_val (r_move s5) (nd_of rfl) rfl ?_
        refine x_val (r_move (en rfl s6)) (nd_of rfl) rfl ?_
        refine x_val (r_move (en rfl (en rfl s10))) (nd_of rfl) rfl ?_
        refine x_val (r_indexAddrN Try.underlying22 Try.sizeOf3 (en rfl es) es (by omega)) (nd_of rfl) rfl ?_
        refine x_val (r_load h 0 rfl Try.isAgg3 es (by rw [Nat.mul_one]; exact hcur)) (nd_of rfl) rfl ?_
        have h := h.f1
        refine x_enter (r_call Try.call10 (.cons (en rfl (en rfl (en rfl (en rfl es)))) (.cons es .nil))) (nd_of rfl) rfl (I.free_ok hcj (by omega) h) ?_
        rintro _ w ⟨rfl, h⟩
        refine x_val (r_neq es ec (r := false) rfl) (nd_of rfl) rfl ?_
        refine x_val (r_move es) (nd_of rfl) rfl ?_
        refine x_take (d := 62) rfl rfl es ?_
        refine x_val (r_move (en rfl (en rfl (en rfl (en rfl (en rfl (en rfl (en rfl (en rfl s5))))))))) (nd_of rfl) rfl ?_
        refine x_take (d := 62) rfl rfl (en rfl es) ?_
        refine x_val (r_move (en rfl (en rfl (en rfl (en rfl (en rfl (en rfl (en rfl (en rfl (en rfl s6)))))))))) (nd_of rfl) rfl ?_
        refine x_take (d := 62) rfl rfl (en rfl (en rfl es)) ?_
        refine x_val (r_move (en rfl (en rfl (en rfl (en rfl (en rfl (en rfl (en rfl (en rfl (en rfl (en rfl s10))))))))))) (nd_of rfl) rfl ?_
        refine x_take (d := 62) rfl rfl (en rfl (en rfl (en rfl es))) ?_
        refine x_val (r_indexAddrN Try.underlying22 Try.sizeOf3 (en rfl es) es (by omega)) (nd_of rfl) rfl ?_
        refine x_take (d := 62) rfl rfl (en rfl (en rfl (en rfl (en rfl es)))) ?_
        refine x_val (r_load h 1 rfl Try.isAgg3 es (by rw [Nat.mul_one]; exact hcur)) (nd_of rfl) rfl ?_
        refine x_take (d := 62) rfl rfl (en rfl (en rfl (en rfl (en rfl (en rfl es))))) ?_
        refine x_enter (r_call Try.call10 (.cons (en rfl (en rfl (en rfl (en rfl es)))) (.cons es .nil))) (nd_of rfl) rfl (I.free_no (i := (j : Int)) (by rintro ⟨m, c, e, hh⟩; obtain rfl : j = m := (by omega); rw [List.getElem?_set_self (by omega)] at hh; cases hh) h) ?_
        rintro _ w ⟨rfl, h⟩
        refine x_take (d := 62) rfl rfl (en rfl (en rfl (en rfl (en rfl (en rfl (en rfl es)))))) ?_
        refine x_val (r_neq es ec (r := false) rfl) (nd_of rfl) rfl ?_
        refine x_val (r_pick_f (en rfl (en rfl (en rfl (en rfl (en rfl (en rfl (en rfl es))))))) es) (nd_of rfl) rfl ?_
        refine xw_nil ?_
        refine hK30 _ _ ?_
        refine xc_gen (fun g hg => ?_)
        have s0 := (hg 0).trans (en rfl (en rfl (en rfl (en rfl (en rfl (en rfl (en rfl (en rfl (en rfl (en rfl (en rfl (en rfl (en rfl (en rfl (en rfl (en rfl s0))))))))))))))))
        have s1 := (hg 1).trans (en rfl (en rfl (en rfl (en rfl (en rfl (en rfl (en rfl (en rfl (en rfl (en rfl (en rfl (en rfl (en rfl (en rfl (en rfl (en rfl s1))))))))))))))))
        have s5 := (hg 5).trans (en rfl (en rfl (en rfl (en rfl (en rfl (en rfl (en rfl (en rfl (en rfl (en rfl (en rfl (en rfl (en rfl (en rfl (en rfl (en rfl s5))))))))))))))))
        have s6 := (hg 6).trans (en rfl (en rfl (en rfl (en rfl (en rfl (en rfl (en rfl (en rfl (en rfl (en rfl (en rfl (en rfl (en rfl (en rfl (en rfl (en rfl s6))))))))))))))))
        have s7 := (hg 7).trans (en rfl (en rfl (en rfl (en rfl (en rfl (en rfl (en rfl (en rfl (en rfl (en rfl (en rfl (en rfl (en rfl (en rfl (en rfl (en rfl s7))))))))))))))))
        have s9 := (hg 9).trans (en rfl (en rfl (en rfl (en rfl (en rfl (en rfl (en rfl (en rfl (en rfl (en rfl (en rfl (en rfl (en rfl (en rfl (en rfl (en rfl s9))))))))))))))))
        have s10 := (hg 10).trans (en rfl (en rfl (en rfl (en rfl (en rfl (en rfl (en rfl (en rfl (en rfl (en rfl (en rfl (en rfl (en rfl (en rfl (en rfl (en rfl s10))))))))))))))))
        have s17 := (hg 17).trans (en rfl (en rfl (en rfl (en rfl (en rfl (en rfl (en rfl (en rfl (en rfl (en rfl (en rfl (en rfl (en rfl (en rfl (en rfl (en rfl s17))))))))))))))))
        have s21 := (hg 21).trans (en rfl (en rfl (en rfl (en rfl (en rfl (en rfl (en rfl (en rfl (en rfl (en rfl (en rfl (en rfl (en rfl (en rfl (en rfl (en rfl s21))))))))))))))))
        have s22 := (hg 22).trans (en rfl (en rfl (en rfl (en rfl (en rfl (en rfl (en rfl (en rfl (en rfl (en rfl (en rfl (en rfl (en rfl (en rfl (en rfl (en rfl s22))))))))))))))))
        have s23 := (hg 23).trans (en rfl (en rfl (en rfl (en rfl (en rfl (en rfl (en rfl (en rfl (en rfl (en rfl (en rfl (en rfl (en rfl (en rfl (en rfl (en rfl s23))))))))))))))))
        have s24 := (hg 24).trans (en rfl (en rfl (en rfl (en rfl (en rfl (en rfl (en rfl (en rfl (en rfl (en rfl (en rfl (en rfl (en rfl (en rfl (en rfl (en rfl s24))))))))))))))))
        have s38 := (hg 38).trans (en rfl (en rfl (en rfl (en rfl (en rfl (en rfl (en rfl (en rfl (en rfl (en rfl (en rfl (en rfl (en rfl (en rfl (en rfl (en rfl s38))))))))))))))))
        have s44 := (hg 44).trans (en rfl (en rfl (en rfl (en rfl (en rfl (en rfl (en rfl (en rfl (en rfl (en rfl (en rfl (en rfl (en rfl (en rfl (en rfl (en rfl s44))))))))))))))))
        have s70 := (hg 70).trans es
        clear hg
        refine xc_cond s70 (fun hc => by cases hc) (fun _ => ?_)
        refine xc_skip ?_
        refine hK29 _ _ ?_
        refine xc_seq (fun K hK31 => ?_)
        refine xc_region ?_
        refine x_val (r_move s7) (nd_of rfl) rfl ?_
        refine x_val (r_move (en rfl s6)) (nd_of rfl) rfl ?_
        refine x_val (r_move (en rfl (en rfl s10))) (nd_of rfl) rfl ?_
        refine x_val (r_indexAddrN Try.underlying22 Try.sizeOf3 (en rfl es) es (by omega)) (nd_of rfl) rfl ?_
        refine x_val (r_load h 1 rfl Try.isAgg3 es (by rw [Nat.mul_one]; exact hcur)) (nd_of rfl) rfl ?_
        have h := h.f2
        refine x_bslice (c := #[.int .i64 (j : Int)]) h Try.underlying22 Try.sizeOf3 Try.zeroValue3 rfl rfl es rfl Ok.int1 rfl ?_; intro bn w h; have h := h.f1
        refine x_append (bytes := 8) h Try.underlying22 (by kernel_rfl) (en rfl (en rfl (en rfl (en rfl (en rfl es))))) es Ok.int1 (by omega) (by omega) rfl ?_; intro fv2 w h; have h := h.f1.drop
        have h := h.f2
        refine x_val (r_assign es) (nd_of rfl) rfl ?_
        refine xw_nil ?_
        refine hK31 _ _ ?_
        refine xc_gen (fun g hg => ?_)
        have s0 := (hg 0).trans (en rfl (en rfl (en rfl (en rfl (en rfl (en rfl (en rfl (en rfl s0))))))))
        have s1 := (hg 1).trans (en rfl (en rfl (en rfl (en rfl (en rfl (en rfl (en rfl (en rfl s1))))))))
        have s5 := (hg 5).trans (en rfl (en rfl (en rfl (en rfl (en rfl (en rfl (en rfl (en rfl s5))))))))
        have s6 := (hg 6).trans (en rfl (en rfl (en rfl (en rfl (en rfl (en rfl (en rfl (en rfl s6))))))))
        have s7 := (hg 7).trans es
        have s9 := (hg 9).trans (en rfl (en rfl (en rfl (en rfl (en rfl (en rfl (en rfl (en rfl s9))))))))
        have s10 := (hg 10).trans (en rfl (en rfl (en rfl (en rfl (en rfl (en rfl (en rfl (en rfl s10))))))))
        have s17 := (hg 17).trans (en rfl (en rfl (en rfl (en rfl (en rfl (en rfl (en rfl (en rfl s17))))))))
        have s21 := (hg 21).trans (en rfl (en rfl (en rfl (en rfl (en rfl (en rfl (en rfl (en rfl s21))))))))
        have s22 := (hg 22).trans (en rfl (en rfl (en rfl (en rfl (en rfl (en rfl (en rfl (en rfl s22))))))))
        have s23 := (hg 23).trans (en rfl (en rfl (en rfl (en rfl (en rfl (en rfl (en rfl (en rfl s23))))))))
        have s24 := (hg 24).trans (en rfl (en rfl (en rfl (en rfl (en rfl (en rfl (en rfl (en rfl s24))))))))
        have s38 := (hg 38).trans (en rfl (en rfl (en rfl (en rfl (en rfl (en rfl (en rfl (en rfl s38))))))))
        have s44 := (hg 44).trans (en rfl (en rfl (en rfl (en rfl (en rfl (en rfl (en rfl (en rfl s44))))))))
        have s70 := (hg 70).trans (en rfl (en rfl (en rfl (en rfl (en rfl (en rfl (en rfl (en rfl s70))))))))
        clear hg
        have hS := h
        have hS := (hS.f0).drop
        have hS := (hS.f0).drop
        have hS := (hS.f0).drop
        refine xc_plan 11 [(1, 2), (2, 2), (3, 2), (5, 2), (6, 2), (7, 2), (8, 2), (0, 0), (4, 0), (9, 0), (10, 2)] (by kernel_rfl) rfl (by kernel_rfl) hS ?_
        have h := h.drew
        refine xp_read (i := 1) rfl (fun W => r_move s6) rfl (fun _ _ _ hh => by first | exact bodyR_np hh | exact bodyY_np hh | exact hh) ?_
        refine xp_read (i := 2) rfl (fun W => r_move (en rfl s10)) rfl (fun _ _ _ hh => by first | exact bodyR_np hh | exact bodyY_np hh | exact hh) ?_
        refine xp_read (i := 3) rfl (fun W => r_sliceToN Try.underlying22 Try.sizeOf3 (en rfl es) es (by omega)) rfl (fun _ _ _ hh => by first | exact bodyR_np hh | exact bodyY_np hh | exact hh) ?_
        refine xp_read (i := 5) rfl (fun W => r_move (en rfl (en rfl (en rfl s6)))) rfl (fun _ _ _ hh => by first | exact bodyR_np hh | exact bodyY_np hh | exact hh) ?_
        refine xp_read (i := 6) rfl (fun W => r_move (en rfl (en rfl (en rfl (en rfl s10))))) rfl (fun _ _ _ hh => by first | exact bodyR_np hh | exact bodyY_np hh | exact hh) ?_
        refine xp_read (i := 7) rfl (fun W => r_add es ec (show _ = (((q + 1 : Nat) : Int) : Int) from by omega) (by unfold I64; omega)) rfl (fun _ _ _ hh => by first | exact bodyR_np hh | exact bodyY_np hh | exact hh) ?_
        refine xp_read (i := 8) rfl (fun W => r_sliceFromN Try.underlying22 Try.sizeOf3 (en rfl (en rfl es)) es (by omega) (by omega)) rfl (fun _ _ _ hh => by first | exact bodyR_np hh | exact bodyY_np hh | exact hh) ?_
        refine xp_bslice0 (i := 0) h rfl Try.underlying22 Try.sizeOf3 rfl ?_; intro bn w h; refine ⟨fun _ => h.drop.drop.drop.drop, ?_⟩
        refine xp_append_at (i := 4) (bytes := 8) (news := (frC ls).take q) h rfl Try.underlying22 (by kernel_rfl) es (en rfl (en rfl (en rfl (en rfl (en rfl es))))) (by simp [frC]; omega) (fun t u ht => by rw [add_pt, Nat.zero_add]; exact h.cell 1 rfl (hrl.get (by rw [List.getElem?_take] at ht; split at ht; exact ht; cases ht))) (fun u hu => frC_one u (List.mem_of_mem_take hu)) (by omega) (by omega) rfl ?_; intro l2 w h; refine ⟨fun _ => h.drop.drop.drop.drop, ?_⟩
        refine xp_append_at (i := 9) (bytes := 8) (news := (frC ls).drop (q + 1)) h rfl Try.underlying22 (by kernel_rfl) es (en rfl (en rfl es)) (by simp [frC]) (fun t u ht => by rw [List.getElem?_drop] at ht; have hlt := (List.getElem?_eq_some_iff.1 ht).1; rw [frC_len] at hlt; rw [if_neg (by omega), add_pt]; exact h.cell 1 rfl (hrl.get (by rw [← ht]; congr 1; omega))) (fun u hu => frC_one u (List.mem_of_mem_drop hu)) (by omega) (by omega) rfl ?_; intro l3 w h; refine ⟨fun _ => h.drop.drop.drop.drop, ?_⟩
        have h := (h.f1).drop
        have hel : (ls.eraseIdx q).length = 0 + q + (ls.length - (q + 1)) := by rw [List.length_eraseIdx, if_pos hql]; omega
        have hec : [] ++ (frC ls).take q ++ (frC ls).drop (q + 1) = frC (ls.eraseIdx q) := by simp [frC, List.eraseIdx_eq_take_drop_succ, List.map_take, List.map_drop]
        rw [hec, ← hel] at h
        refine xp_read (i := 10) rfl (fun W => r_assign es) rfl (fun _ _ _ hh => by first | exact bodyR_np hh | exact bodyY_np hh | exact hh) ?_
        refine xp_nil ?_
        refine hK22 _ _ ?_
        refine xc_gen (fun g hg => ?_)
        have s0 := (hg 0).trans (en rfl (en rfl (en rfl (en rfl (en rfl (en rfl (en rfl (en rfl (en rfl (en rfl (en rfl s0)))))))))))
        have s1 := (hg 1).trans (en rfl (en rfl (en rfl (en rfl (en rfl (en rfl (en rfl (en rfl (en rfl (en rfl (en rfl s1)))))))))))
        have s5 := (hg 5).trans (en rfl (en rfl (en rfl (en rfl (en rfl (en rfl (en rfl (en rfl (en rfl (en rfl (en rfl s5)))))))))))
        have s6 := (hg 6).trans es
        have s7 := (hg 7).trans (en rfl (en rfl (en rfl (en rfl (en rfl (en rfl (en rfl (en rfl (en rfl (en rfl (en rfl s7)))))))))))
        have s9 := (hg 9).trans (en rfl (en rfl (en rfl (en rfl (en rfl (en rfl (en rfl (en rfl (en rfl (en rfl (en rfl s9)))))))))))
        have s10 := (hg 10).trans (en rfl (en rfl (en rfl (en rfl (en rfl (en rfl (en rfl (en rfl (en rfl (en rfl (en rfl s10)))))))))))
        have s17 := (hg 17).trans (en rfl (en rfl (en rfl (en rfl (en rfl (en rfl (en rfl (en rfl (en rfl (en rfl (en rfl s17)))))))))))
        have s21 := (hg 21).trans (en rfl (en rfl (en rfl (en rfl (en rfl (en rfl (en rfl (en rfl (en rfl (en rfl (en rfl s21)))))))))))
        have s22 := (hg 22).trans (en rfl (en rfl (en rfl (en rfl (en rfl (en rfl (en rfl (en rfl (en rfl (en rfl (en rfl s22)))))))))))
        have s23 := (hg 23).trans (en rfl (en rfl (en rfl (en rfl (en rfl (en rfl (en rfl (en rfl (en rfl (en rfl (en rfl s23)))))))))))
        have s24 := (hg 24).trans (en rfl (en rfl (en rfl (en rfl (en rfl (en rfl (en rfl (en rfl (en rfl (en rfl (en rfl s24)))))))))))
        have s38 := (hg 38).trans (en rfl (en rfl (en rfl (en rfl (en rfl (en rfl (en rfl (en rfl (en rfl (en rfl (en rfl s38)))))))))))
        have s44 := (hg 44).trans (en rfl (en rfl (en rfl (en rfl (en rfl (en rfl (en rfl (en rfl (en rfl (en rfl (en rfl s44)))))))))))
        have s70 := (hg 70).trans (en rfl (en rfl (en rfl (en rfl (en rfl (en rfl (en rfl (en rfl (en rfl (en rfl (en rfl s70)))))))))))
        clear hg
        refine xc_region ?_
        refine x_val (r_move s9) (nd_of rfl) rfl ?_
        refine x_val (r_add es ec (show _ = (((fs.length + 1 : Nat) : Int) : Int) from by omega) (by unfold I64; omega)) (nd_of rfl) rfl ?_
        refine x_val (r_assign es) (nd_of rfl) rfl ?_
        refine xw_nil ?_
        exact ⟨(ls.eraseIdx q).length, by omega, ⟨ls.eraseIdx q, fs ++ [j], pl.set j none, _, _, rfl, by rw [List.length_append, List.length_singleton]; omega, by rw [List.length_set]; exact hpl, hnd.sublist (List.eraseIdx_sublist _ _), fun j' hj' => by rw [List.getElem?_set_ne (erased_ne hnd hj hj')]; exact hall j' (List.mem_of_mem_eraseIdx hj'), by rw [List.length_append]; exact es, (en rfl (en rfl (en rfl s6))), (en rfl (en rfl (en rfl s7))), by rw [frC_snoc, List.length_append]; exact h.f2⟩, ⟨((en rfl (en rfl (en rfl s0)))).trans zG19_0.symm, ((en rfl (en rfl (en rfl s1)))).trans zG19_1.symm, ((en rfl (en rfl (en rfl s5)))).trans zG19_5.symm, ((en rfl (en rfl (en rfl s17)))).trans zG19_17.symm, ((en rfl (en rfl (en rfl s21)))).trans zG19_21.symm, ((en rfl (en rfl (en rfl s22)))).trans zG19_22.symm, ((en rfl (en rfl (en rfl s23)))).trans zG19_23.symm, ((en rfl (en rfl (en rfl s24)))).trans zG19_24.symm⟩⟩
    ·
      refine xc_exit ?_
      refine hK17 _ _ ?_
      refine xc_seq (fun K hK32 => ?_)
      refine xc_seq (fun K hK33 => ?_)
      have hl0 : ls.length = 0 := by have := of_decide_eq_false hc; omega
      obtain rfl := List.length_eq_zero_iff.1 hl0
      have h := (h.f1).drop
      simp only [List.length_nil, Nat.zero_add] at hlen
      have h : SatL E w (I.Ar ba pl (fs.take (k - 0)) :: Row 3 1 fv fs.length (frC fs) :: Old W :: R) := by rw [Nat.sub_zero, List.take_of_length_le (by omega)]; exact h
      refine xc_region ?_
      refine x_val (r_move s0) (nd_of rfl) rfl ?_
      refine x_val (r_move ec) (nd_of rfl) rfl ?_
      refine xw_nil ?_
      refine hK33 _ _ ?_
      refine xc_gen (fun g hg => ?_)
      have s0 := (hg 0).trans (en rfl (en rfl s0))
      have s1 := (hg 1).trans (en rfl (en rfl s1))
      have s5 := (hg 5).trans (en rfl (en rfl s5))
      have s6 := (hg 6).trans (en rfl (en rfl s6))
      have s7 := (hg 7).trans (en rfl (en rfl s7))
      have s9 := (hg 9).trans (en rfl (en rfl s9))
      have s17 := (hg 17).trans (en rfl (en rfl s17))
      have s21 := (hg 21).trans (en rfl (en rfl s21))
      have s22 := (hg 22).trans (en rfl (en rfl s22))
      have s23 := (hg 23).trans (en rfl (en rfl s23))
      have s24 := (hg 24).trans (en rfl (en rfl s24))
      have s38 := (hg 38).trans (en rfl (en rfl s38))
      have s88 := (hg 88).trans (en rfl es)
      have s89 := (hg 89).trans es
      clear hg
      refine xc_block ?_
      obtain ⟨G34, hG34⟩ : ∃ g0 : Nat → Value, g0 = g := ⟨_, rfl⟩
      have zG34_0 : G34 0 = _ := (congrFun hG34 0).trans s0
      have zG34_1 : G34 1 = _ := (congrFun hG34 1).trans s1
      have zG34_5 : G34 5 = _ := (congrFun hG34 5).trans s5
      have zG34_6 : G34 6 = _ := (congrFun hG34 6).trans s6
      have zG34_7 : G34 7 = _ := (congrFun hG34 7).trans s7
      have zG34_9 : G34 9 = _ := (congrFun hG34 9).trans s9
      have zG34_17 : G34 17 = _ := (congrFun hG34 17).trans s17
      have zG34_21 : G34 21 = _ := (congrFun hG34 21).trans s21
      have zG34_22 : G34 22 = _ := (congrFun hG34 22).trans s22
      have zG34_23 : G34 23 = _ := (congrFun hG34 23).trans s23
      have zG34_24 : G34 24 = _ := (congrFun hG34 24).trans s24
      have zG34_38 : G34 38 = _ := (congrFun hG34 38).trans s38
      have zG34_88 : G34 88 = _ := (congrFun hG34 88).trans s88
      refine xc_loop (fun m f w => (∃ (i : Nat) (pl : List (Option (Array Value))), m = k - i ∧ i ≤ k ∧ pl.length = k ∧ f 89 = .int .i64 (i : Int) ∧ SatL E w (I.Ar ba pl (fs.take (k - i)) :: Row 3 1 fv fs.length (frC fs) :: Old W :: R)) ∧ (f 0 = G34 0 ∧ f 1 = G34 1 ∧ f 5 = G34 5 ∧ f 6 = G34 6 ∧ f 7 = G34 7 ∧ f 9 = G34 9 ∧ f 17 = G34 17 ∧ f 21 = G34 21 ∧ f 22 = G34 22 ∧ f 23 = G34 23 ∧ f 24 = G34 24 ∧ f 38 = G34 38 ∧ f 88 = G34 88)) (k) ⟨⟨0, pl, by omega, by omega, hpl, s89, h⟩, ⟨congrFun hG34.symm 0, congrFun hG34.symm 1, congrFun hG34.symm 5, congrFun hG34.symm 6, congrFun hG34.symm 7, congrFun hG34.symm 9, congrFun hG34.symm 17, congrFun hG34.symm 21, congrFun hG34.symm 22, congrFun hG34.symm 23, congrFun hG34.symm 24, congrFun hG34.symm 38, congrFun hG34.symm 88⟩⟩ ?_
      rintro m g w ⟨⟨i, pl, hm, hk, hpl, s89, h⟩, ⟨y0, y1, y5, y6, y7, y9, y17, y21, y22, y23, y24, y38, y88⟩⟩
      have s0 := y0.trans zG34_0
      have s1 := y1.trans zG34_1
      have s5 := y5.trans zG34_5
      have s6 := y6.trans zG34_6
      have s7 := y7.trans zG34_7
      have s9 := y9.trans zG34_9
      have s17 := y17.trans zG34_17
      have s21 := y21.trans zG34_21
      have s22 := y22.trans zG34_22
      have s23 := y23.trans zG34_23
      have s24 := y24.trans zG34_24
      have s38 := y38.trans zG34_38
      have s88 := y88.trans zG34_88
      refine xc_seq (fun K hK35 => ?_)
      refine xc_region ?_
      refine x_val (r_lss s89 s88 rfl) (nd_of rfl) rfl ?_
      refine xw_nil ?_
      refine hK35 _ _ ?_
      refine xc_gen (fun g hg => ?_)
      have s0 := (hg 0).trans (en rfl s0)
      have s1 := (hg 1).trans (en rfl s1)
      have s5 := (hg 5).trans (en rfl s5)
      have s6 := (hg 6).trans (en rfl s6)
      have s7 := (hg 7).trans (en rfl s7)
      have s9 := (hg 9).trans (en rfl s9)
      have s17 := (hg 17).trans (en rfl s17)
      have s21 := (hg 21).trans (en rfl s21)
      have s22 := (hg 22).trans (en rfl s22)
      have s23 := (hg 23).trans (en rfl s23)
      have s24 := (hg 24).trans (en rfl s24)
      have s38 := (hg 38).trans (en rfl s38)
      have s88 := (hg 88).trans (en rfl s88)
      have s89 := (hg 89).trans (en rfl s89)
      have s90 := (hg 90).trans es
      clear hg
      refine xc_seq (fun K hK36 => ?_)
      refine xc_cond s90 (fun hc => ?_) (fun hc => ?_)
      ·
        refine xc_skip ?_
        refine hK36 _ _ ?_
        refine xc_seq (fun K hK37 => ?_)
        refine xc_block ?_
        refine xc_seq (fun K hK38 => ?_)
        have hi : i < k := by have := of_decide_eq_true hc; omega
        obtain ⟨j, hj⟩ : ∃ j, fs[k - 1 - i]? = some j := ⟨_, List.getElem?_eq_getElem (by omega)⟩
        have htk : fs.take (k - i) = fs.take (k - 1 - i) ++ [j] := by rw [show k - i = k - 1 - i + 1 by omega, List.take_add_one, hj]; rfl
        rw [htk] at h
        obtain ⟨gf, cf, curf, hrf, h'⟩ := (h.f1).openRow (by omega)
        clear h
        obtain rfl := hrf.val
        have h := h'
        have hcur := hrf.get (frC_get hj)
        refine xc_region ?_
        refine x_val (r_move s89) (nd_of rfl) rfl ?_
        refine x_val (r_assign es) (nd_of rfl) rfl ?_
        refine xw_nil ?_
        refine hK38 _ _ ?_
        refine xc_gen (fun g hg => ?_)
        have s0 := (hg 0).trans (en rfl (en rfl s0))
        have s1 := (hg 1).trans (en rfl (en rfl s1))
        have s5 := (hg 5).trans (en rfl (en rfl s5))
        have s6 := (hg 6).trans (en rfl (en rfl s6))
        have s7 := (hg 7).trans (en rfl (en rfl s7))
        have s9 := (hg 9).trans (en rfl (en rfl s9))
        have s11 := (hg 11).trans es
        have s17 := (hg 17).trans (en rfl (en rfl s17))
        have s21 := (hg 21).trans (en rfl (en rfl s21))
        have s22 := (hg 22).trans (en rfl (en rfl s22))
        have s23 := (hg 23).trans (en rfl (en rfl s23))
        have s24 := (hg 24).trans (en rfl (en rfl s24))
        have s38 := (hg 38).trans (en rfl (en rfl s38))
        have s88 := (hg 88).trans (en rfl (en rfl s88))
        have s89 := (hg 89).trans (en rfl (en rfl s89))
        have s90 := (hg 90).trans (en rfl (en rfl s90))
        clear hg
        refine xc_seq (fun K hK39 => ?_)
        have hS := h
        have hS := (hS.f1).drop
        refine xc_plan 10 [(0, 2), (2, 2), (3, 2), (4, 2), (5, 2), (6, 2), (7, 2), (8, 1), (1, 0), (9, 2)] (by kernel_rfl) rfl (by kernel_rfl) hS ?_
        have h := h.drew
        refine xp_read (i := 0) rfl (fun W => r_move s5) rfl (fun _ _ _ hh => by first | exact bodyR_np hh | exact bodyY_np hh | exact hh) ?_
        refine xp_read (i := 2) rfl (fun W => r_move (en rfl s7)) rfl (fun _ _ _ hh => by first | exact bodyR_np hh | exact bodyY_np hh | exact hh) ?_
        refine xp_read (i := 3) rfl (fun W => r_move (en rfl (en rfl s0))) rfl (fun _ _ _ hh => by first | exact bodyR_np hh | exact bodyY_np hh | exact hh) ?_
        refine xp_read (i := 4) rfl (fun W => r_sub es ec (show _ = (((k - 1 : Nat) : Int) : Int) from by omega) (by unfold I64; omega)) rfl (fun _ _ _ hh => by first | exact bodyR_np hh | exact bodyY_np hh | exact hh) ?_
        refine xp_read (i := 5) rfl (fun W => r_move (en rfl (en rfl (en rfl (en rfl s11))))) rfl (fun _ _ _ hh => by first | exact bodyR_np hh | exact bodyY_np hh | exact hh) ?_
        refine xp_read (i := 6) rfl (fun W => r_sub (en rfl es) es (show _ = (((k - 1 - i : Nat) : Int) : Int) from by omega) (by unfold I64; omega)) rfl (fun _ _ _ hh => by first | exact bodyR_np hh | exact bodyY_np hh | exact hh) ?_
        refine xp_read (i := 7) rfl (fun W => r_indexAddrN Try.underlying22 Try.sizeOf3 (en rfl (en rfl (en rfl (en rfl es)))) es (by omega)) rfl (fun _ _ _ hh => by first | exact bodyR_np hh | exact bodyY_np hh | exact hh) ?_
        refine xp_load (i := 8) rfl (fun W hW => r_load hW 0 rfl Try.isAgg3 es (by rw [Nat.mul_one]; exact hcur)) rfl (fun _ _ _ hh => by first | exact bodyR_np hh | exact bodyY_np hh | exact hh) ?_
        have h := h.f1
        refine xp_enter (i := 1) rfl (r_call Try.call9 (.cons (en rfl (en rfl (en rfl (en rfl (en rfl (en rfl (en rfl es))))))) (.cons ec .nil))) rfl (I.take_free (x := 1) (by omega) h) ?_
        rintro _ w ⟨rfl, h⟩
        refine ⟨(fun _ => (h.f0).drop), ?_⟩
        refine xp_read (i := 9) rfl (fun W => r_neq es (en rfl es) (decide_eq_false (by omega))) rfl (fun _ _ _ hh => by first | exact bodyR_np hh | exact bodyY_np hh | exact hh) ?_
        refine xp_nil ?_
        refine hK39 _ _ ?_
        refine xc_gen (fun g hg => ?_)
        have s0 := (hg 0).trans (en rfl (en rfl (en rfl (en rfl (en rfl (en rfl (en rfl (en rfl (en rfl (en rfl s0))))))))))
        have s1 := (hg 1).trans (en rfl (en rfl (en rfl (en rfl (en rfl (en rfl (en rfl (en rfl (en rfl (en rfl s1))))))))))
        have s5 := (hg 5).trans (en rfl (en rfl (en rfl (en rfl (en rfl (en rfl (en rfl (en rfl (en rfl (en rfl s5))))))))))
        have s6 := (hg 6).trans (en rfl (en rfl (en rfl (en rfl (en rfl (en rfl (en rfl (en rfl (en rfl (en rfl s6))))))))))
        have s7 := (hg 7).trans (en rfl (en rfl (en rfl (en rfl (en rfl (en rfl (en rfl (en rfl (en rfl (en rfl s7))))))))))
        have s9 := (hg 9).trans (en rfl (en rfl (en rfl (en rfl (en rfl (en rfl (en rfl (en rfl (en rfl (en rfl s9))))))))))
        have s11 := (hg 11).trans (en rfl (en rfl (en rfl (en rfl (en rfl (en rfl (en rfl (en rfl (en rfl (en rfl s11))))))))))
        have s17 := (hg 17).trans (en rfl (en rfl (en rfl (en rfl (en rfl (en rfl (en rfl (en rfl (en rfl (en rfl s17))))))))))
        have s21 := (hg 21).trans (en rfl (en rfl (en rfl (en rfl (en rfl (en rfl (en rfl (en rfl (en rfl (en rfl s21))))))))))
        have s22 := (hg 22).trans (en rfl (en rfl (en rfl (en rfl (en rfl (en rfl (en rfl (en rfl (en rfl (en rfl s22))))))))))
        have s23 := (hg 23).trans (en rfl (en rfl (en rfl (en rfl (en rfl (en rfl (en rfl (en rfl (en rfl (en rfl s23))))))))))
        have s24 := (hg 24).trans (en rfl (en rfl (en rfl (en rfl (en rfl (en rfl (en rfl (en rfl (en rfl (en rfl s24))))))))))
        have s38 := (hg 38).trans (en rfl (en rfl (en rfl (en rfl (en rfl (en rfl (en rfl (en rfl (en rfl (en rfl s38))))))))))
        have s88 := (hg 88).trans (en rfl (en rfl (en rfl (en rfl (en rfl (en rfl (en rfl (en rfl (en rfl (en rfl s88))))))))))
        have s89 := (hg 89).trans (en rfl (en rfl (en rfl (en rfl (en rfl (en rfl (en rfl (en rfl (en rfl (en rfl s89))))))))))
        have s90 := (hg 90).trans (en rfl (en rfl (en rfl (en rfl (en rfl (en rfl (en rfl (en rfl (en rfl (en rfl s90))))))))))
        have s101 := (hg 101).trans es
        clear hg
        refine xc_cond s101 (fun hc => by cases hc) (fun _ => ?_)
        refine xc_skip ?_
        refine hK37 _ _ ?_
        refine xc_region ?_
        refine x_val (r_add s89 ec (show _ = (((i + 1 : Nat) : Int) : Int) from by omega) (by unfold I64; omega)) (nd_of rfl) rfl ?_
        have h := h.f1
        have h := h.f1
        refine x_val (r_move es) (nd_of rfl) rfl ?_
        refine xw_nil ?_
        exact ⟨k - (i + 1), by omega, ⟨i + 1, pl.set j (some #[.int .i64 1]), rfl, by omega, by rw [List.length_set]; exact hpl, es, by rw [show k - (i + 1) = k - 1 - i by omega]; exact (h.f1.closeRow hrf).f1⟩, ⟨((en rfl (en rfl s0))).trans zG34_0.symm, ((en rfl (en rfl s1))).trans zG34_1.symm, ((en rfl (en rfl s5))).trans zG34_5.symm, ((en rfl (en rfl s6))).trans zG34_6.symm, ((en rfl (en rfl s7))).trans zG34_7.symm, ((en rfl (en rfl s9))).trans zG34_9.symm, ((en rfl (en rfl s17))).trans zG34_17.symm, ((en rfl (en rfl s21))).trans zG34_21.symm, ((en rfl (en rfl s22))).trans zG34_22.symm, ((en rfl (en rfl s23))).trans zG34_23.symm, ((en rfl (en rfl s24))).trans zG34_24.symm, ((en rfl (en rfl s38))).trans zG34_38.symm, ((en rfl (en rfl s88))).trans zG34_88.symm⟩⟩
      ·
        refine xc_exit ?_
        refine hK32 _ _ ?_
        refine xc_seq (fun K hK40 => ?_)
        have hi : i = k := by have := of_decide_eq_false hc; omega
        subst hi
        rw [Nat.sub_self, List.take_zero] at h
        refine xc_region ?_
        refine x_val (r_move s5) (nd_of rfl) rfl ?_
        refine x_enter (r_call Try.call11 (.cons es .nil)) (nd_of rfl) rfl (I.len_ok h (by omega)) ?_
        rintro _ w ⟨rfl, h⟩
        refine x_val (r_move (en rfl (en rfl s0))) (nd_of rfl) rfl ?_
        refine x_val (r_eql (en rfl es) es (decide_eq_true (by simp [hpl]))) (nd_of rfl) rfl ?_
        refine x_val (r_move es) (nd_of rfl) rfl ?_
        refine x_take (d := 107) rfl rfl es ?_
        refine x_val (r_move (en rfl (en rfl (en rfl (en rfl (en rfl s5)))))) (nd_of rfl) rfl ?_
        refine x_take (d := 107) rfl rfl (en rfl es) ?_
        refine x_enter (r_call Try.call12 (.cons es .nil)) (nd_of rfl) rfl (I.cap_ok h) ?_
        rintro _ w ⟨rfl, h⟩
        refine x_take (d := 107) rfl rfl (en rfl (en rfl es)) ?_
        refine x_val (r_move (en rfl (en rfl (en rfl (en rfl (en rfl (en rfl (en rfl s0)))))))) (nd_of rfl) rfl ?_
        refine x_take (d := 107) rfl rfl (en rfl (en rfl (en rfl es))) ?_
        refine x_val (r_eql (en rfl es) es (decide_eq_true (by simp [hpl]))) (nd_of rfl) rfl ?_
        refine x_val (r_pick_t (en rfl (en rfl (en rfl (en rfl es)))) es) (nd_of rfl) rfl ?_
        refine x_val (r_move es) (nd_of rfl) rfl ?_
        refine x_take (d := 113) rfl rfl es ?_
        refine x_enter (r_call Try.call7 .nil) (nd_of rfl) rfl (known_ok h) ?_
        rintro _ w ⟨rfl, h⟩
        have h := (h.f0).drop
        have h := (h.f0).drop
        refine x_val (r_pick_t (en rfl es) es) (nd_of rfl) rfl ?_
        refine x_val (r_assign es) (nd_of rfl) rfl ?_
        refine xw_nil ?_
        refine hK40 _ _ ?_
        refine xc_gen (fun g hg => ?_)
        have s0 := (hg 0).trans (en rfl (en rfl (en rfl (en rfl (en rfl (en rfl (en rfl (en rfl (en rfl (en rfl (en rfl (en rfl (en rfl (en rfl s0))))))))))))))
        have s1 := (hg 1).trans (en rfl (en rfl (en rfl (en rfl (en rfl (en rfl (en rfl (en rfl (en rfl (en rfl (en rfl (en rfl (en rfl (en rfl s1))))))))))))))
        have s4 := (hg 4).trans es
        have s5 := (hg 5).trans (en rfl (en rfl (en rfl (en rfl (en rfl (en rfl (en rfl (en rfl (en rfl (en rfl (en rfl (en rfl (en rfl (en rfl s5))))))))))))))
        have s6 := (hg 6).trans (en rfl (en rfl (en rfl (en rfl (en rfl (en rfl (en rfl (en rfl (en rfl (en rfl (en rfl (en rfl (en rfl (en rfl s6))))))))))))))
        have s7 := (hg 7).trans (en rfl (en rfl (en rfl (en rfl (en rfl (en rfl (en rfl (en rfl (en rfl (en rfl (en rfl (en rfl (en rfl (en rfl s7))))))))))))))
        have s9 := (hg 9).trans (en rfl (en rfl (en rfl (en rfl (en rfl (en rfl (en rfl (en rfl (en rfl (en rfl (en rfl (en rfl (en rfl (en rfl s9))))))))))))))
        have s17 := (hg 17).trans (en rfl (en rfl (en rfl (en rfl (en rfl (en rfl (en rfl (en rfl (en rfl (en rfl (en rfl (en rfl (en rfl (en rfl s17))))))))))))))
        have s21 := (hg 21).trans (en rfl (en rfl (en rfl (en rfl (en rfl (en rfl (en rfl (en rfl (en rfl (en rfl (en rfl (en rfl (en rfl (en rfl s21))))))))))))))
        have s22 := (hg 22).trans (en rfl (en rfl (en rfl (en rfl (en rfl (en rfl (en rfl (en rfl (en rfl (en rfl (en rfl (en rfl (en rfl (en rfl s22))))))))))))))
        have s23 := (hg 23).trans (en rfl (en rfl (en rfl (en rfl (en rfl (en rfl (en rfl (en rfl (en rfl (en rfl (en rfl (en rfl (en rfl (en rfl s23))))))))))))))
        have s24 := (hg 24).trans (en rfl (en rfl (en rfl (en rfl (en rfl (en rfl (en rfl (en rfl (en rfl (en rfl (en rfl (en rfl (en rfl (en rfl s24))))))))))))))
        have s38 := (hg 38).trans (en rfl (en rfl (en rfl (en rfl (en rfl (en rfl (en rfl (en rfl (en rfl (en rfl (en rfl (en rfl (en rfl (en rfl s38))))))))))))))
        have s88 := (hg 88).trans (en rfl (en rfl (en rfl (en rfl (en rfl (en rfl (en rfl (en rfl (en rfl (en rfl (en rfl (en rfl (en rfl (en rfl s88))))))))))))))
        have s89 := (hg 89).trans (en rfl (en rfl (en rfl (en rfl (en rfl (en rfl (en rfl (en rfl (en rfl (en rfl (en rfl (en rfl (en rfl (en rfl s89))))))))))))))
        have s90 := (hg 90).trans (en rfl (en rfl (en rfl (en rfl (en rfl (en rfl (en rfl (en rfl (en rfl (en rfl (en rfl (en rfl (en rfl (en rfl s90))))))))))))))
        clear hg
        refine xc_ret ?_
        refine bodyR_1 rfl s4 ?_
        exact ⟨rfl, h⟩
theorem again_ok {W : World} {v : Value} {zs : List Int} {n : Int} (ho : OldInts W v zs) (h : SatL E w (Old W :: R)) :
    Calls Try.prog 3 #[.int .i64 n, v] w (Ret fun u w' => u = .bool true ∧ SatL E w' (Old W :: R)) := by
  by_cases h0 : n < 0
  · exact again_neg h0 h
  by_cases h1 : 60 < n
  · exact again_big h1 h
  obtain ⟨n, rfl⟩ := Int.eq_ofNat_of_zero_le (by omega : 0 ≤ n)
  exact again_mid (by omega) ho h
end
end Go.Proofs.Ytfmhcefjbghhlaa
