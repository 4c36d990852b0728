/-
SpansMapped: the walk.
-/
import Derived.Test.YtbmdbjnkkbefmaaS10
import Derived.Test.YtbmdbjnkkbefmaaR12
namespace Go.Proofs.Ytbmdbjnkkbefmaa
open Go Go.RowKit
section
variable {E : Env} {R : List SProp} {w : World} {W : World} {v : Value} {os : List OpV} {oa ob : OpV}
theorem mapped_long (hv : OpsAt W v os) (hwa : OpWf W oa) (hwb : OpWf W ob) (hl : 40 < os.length) (h : SatL E w (Old W :: R)) : Calls Try.prog 5 #[v, .agg (opC oa).toArray, .agg (opC ob).toArray] w (Ret fun u w' => u = .bool true ∧ SatL E w' (Old W :: R)) := by
  obtain ⟨a, cap, rfl, _⟩ := hv
  obtain ⟨al, cl, hlv, hlsp⟩ := hwa.sp
  obtain ⟨bl, dl, hlw, hlsq⟩ := hwb.sp
  unfold opC
  rw [hlv, hlw]
  refine calls_x Try.func5 rfl Try.ntmps5 rfl ?_
  refine xc_gen (fun g hg => ?_)
  have s0 := (hg 0).trans arg0
  have s1 := (hg 1).trans arg1
  have s2 := (hg 2).trans arg2
  clear hg
  refine xc_seq (fun K hK1 => ?_)
  refine xc_region ?_
  refine x_boxA h s1 rfl ?_
  intro b4 w h
  refine x_boxA h (en rfl s2) rfl ?_
  intro b5 w h
  refine x_val (r_assign ec) (nd_of rfl) rfl ?_
  refine xw_nil ?_
  refine hK1 _ _ ?_
  refine xc_gen (fun g hg => ?_)
  have s0 := (hg 0).trans (en rfl (en rfl (en rfl s0)))
  have s1 := (hg 1).trans (en rfl (en rfl (en rfl s1)))
  have s2 := (hg 2).trans (en rfl (en rfl (en rfl s2)))
  have s4 := (hg 4).trans (en rfl (en rfl es))
  have s5 := (hg 5).trans (en rfl es)
  have s6 := (hg 6).trans es
  clear hg
  refine xc_seq (fun K hK2 => ?_)
  refine xc_region ?_
  refine x_enter (r_call Try.call8 .nil) (nd_of rfl) rfl (new_o h) ?_
  rintro _ w ⟨b, rfl, h⟩
  refine x_enter (r_call Try.call8 .nil) (nd_of rfl) rfl (new_o h) ?_
  rintro _ w ⟨q, rfl, h⟩
  refine x_val (r_assign (en rfl es)) (nd_of rfl) rfl ?_
  refine x_val (r_assign (en rfl es)) (nd_of rfl) rfl ?_
  refine xw_nil ?_
  refine hK2 _ _ ?_
  refine xc_gen (fun g hg => ?_)
  have s0 := (hg 0).trans (en rfl (en rfl (en rfl (en rfl s0))))
  have s1 := (hg 1).trans (en rfl (en rfl (en rfl (en rfl s1))))
  have s2 := (hg 2).trans (en rfl (en rfl (en rfl (en rfl s2))))
  have s4 := (hg 4).trans (en rfl (en rfl (en rfl (en rfl s4))))
  have s5 := (hg 5).trans (en rfl (en rfl (en rfl (en rfl s5))))
  have s6 := (hg 6).trans (en rfl (en rfl (en rfl (en rfl s6))))
  have s7 := (hg 7).trans (en rfl es)
  have s8 := (hg 8).trans es
  clear hg
  refine xc_seq (fun K hK3 => ?_)
  refine xc_seq (fun K hK4 => ?_)
  refine xc_region ?_
  refine x_val (r_move s7) (nd_of rfl) rfl ?_
  refine x_val (r_eqnil Try.underlying23 es ec (r := false) rfl) (nd_of rfl) rfl ?_
  refine x_val (r_move es) (nd_of rfl) rfl ?_
  refine x_take (d := 22) rfl rfl es ?_
  refine x_val (r_move (en rfl (en rfl (en rfl s8)))) (nd_of rfl) rfl ?_
  refine x_take (d := 22) rfl rfl (en rfl es) ?_
  refine x_val (r_eqnil Try.underlying23 es ec (r := false) rfl) (nd_of rfl) rfl ?_
  refine x_val (r_pick_f (en rfl (en rfl es)) es) (nd_of rfl) rfl ?_
  refine x_val (r_move es) (nd_of rfl) rfl ?_
  refine x_take (d := 26) rfl rfl es ?_
  refine x_val (r_move (en rfl (en rfl (en rfl (en rfl (en rfl (en rfl (en rfl s0)))))))) (nd_of rfl) rfl ?_
  refine x_take (d := 26) rfl rfl (en rfl es) ?_
  refine x_val (r_len Try.underlying22 es) (nd_of rfl) rfl ?_
  refine x_take (d := 26) rfl rfl (en rfl (en rfl es)) ?_
  refine x_val (r_gtr es ec (decide_eq_true (by omega))) (nd_of rfl) rfl ?_
  refine x_val (r_pick_f (en rfl (en rfl (en rfl es))) es) (nd_of rfl) rfl ?_
  refine xw_nil ?_
  refine hK4 _ _ ?_
  refine xc_gen (fun g hg => ?_)
  have s0 := (hg 0).trans (en rfl (en rfl (en rfl (en rfl (en rfl (en rfl (en rfl (en rfl (en rfl (en rfl (en rfl s0)))))))))))
  have s1 := (hg 1).trans (en rfl (en rfl (en rfl (en rfl (en rfl (en rfl (en rfl (en rfl (en rfl (en rfl (en rfl s1)))))))))))
  have s2 := (hg 2).trans (en rfl (en rfl (en rfl (en rfl (en rfl (en rfl (en rfl (en rfl (en rfl (en rfl (en rfl s2)))))))))))
  have s4 := (hg 4).trans (en rfl (en rfl (en rfl (en rfl (en rfl (en rfl (en rfl (en rfl (en rfl (en rfl (en rfl s4)))))))))))
  have s5 := (hg 5).trans (en rfl (en rfl (en rfl (en rfl (en rfl (en rfl (en rfl (en rfl (en rfl (en rfl (en rfl s5)))))))))))
  have s6 := (hg 6).trans (en rfl (en rfl (en rfl (en rfl (en rfl (en rfl (en rfl (en rfl (en rfl (en rfl (en rfl s6)))))))))))
  have s7 := (hg 7).trans (en rfl (en rfl (en rfl (en rfl (en rfl (en rfl (en rfl (en rfl (en rfl (en rfl (en rfl s7)))))))))))
  have s8 := (hg 8).trans (en rfl (en rfl (en rfl (en rfl (en rfl (en rfl (en rfl (en rfl (en rfl (en rfl (en rfl s8)))))))))))
  have s30 := (hg 30).trans es
  clear hg
  refine xc_cond s30 (fun _ => ?_) (fun hc => by cases hc)
  refine xc_seq (fun K hK5 => ?_)
  refine xc_region ?_
  refine x_val (r_move s7) (nd_of rfl) rfl ?_
  refine x_val (r_nenil Try.underlying23 es ec (r := true) rfl) (nd_of rfl) rfl ?_
  refine x_val (r_move es) (nd_of rfl) rfl ?_
  refine x_take (d := 33) rfl rfl es ?_
  refine x_val (r_move (en rfl (en rfl (en rfl s8)))) (nd_of rfl) rfl ?_
  refine x_take (d := 33) rfl rfl (en rfl es) ?_
  refine x_val (r_nenil Try.underlying23 es ec (r := true) rfl) (nd_of rfl) rfl ?_
  refine x_val (r_pick_t (en rfl (en rfl es)) es) (nd_of rfl) rfl ?_
  refine x_val (r_move es) (nd_of rfl) rfl ?_
  refine x_take (d := 37) rfl rfl es ?_
  refine x_enter (r_call Try.call9 .nil) (nd_of rfl) rfl (known_ok h) ?_
  rintro _ w ⟨rfl, h⟩
  refine x_val (r_pick_t (en rfl es) es) (nd_of rfl) rfl ?_
  refine x_val (r_assign es) (nd_of rfl) rfl ?_
  refine xw_nil ?_
  refine hK5 _ _ ?_
  refine xc_gen (fun g hg => ?_)
  have s0 := (hg 0).trans (en rfl (en rfl (en rfl (en rfl (en rfl (en rfl (en rfl (en rfl (en rfl (en rfl s0))))))))))
  have s1 := (hg 1).trans (en rfl (en rfl (en rfl (en rfl (en rfl (en rfl (en rfl (en rfl (en rfl (en rfl s1))))))))))
  have s2 := (hg 2).trans (en rfl (en rfl (en rfl (en rfl (en rfl (en rfl (en rfl (en rfl (en rfl (en rfl s2))))))))))
  have s4 := (hg 4).trans (en rfl (en rfl (en rfl (en rfl (en rfl (en rfl (en rfl (en rfl (en rfl (en rfl s4))))))))))
  have s5 := (hg 5).trans (en rfl (en rfl (en rfl (en rfl (en rfl (en rfl (en rfl (en rfl (en rfl (en rfl s5))))))))))
  have s6 := (hg 6).trans es
  have s7 := (hg 7).trans (en rfl (en rfl (en rfl (en rfl (en rfl (en rfl (en rfl (en rfl (en rfl (en rfl s7))))))))))
  have s8 := (hg 8).trans (en rfl (en rfl (en rfl (en rfl (en rfl (en rfl (en rfl (en rfl (en rfl (en rfl s8))))))))))
  have s30 := (hg 30).trans (en rfl (en rfl (en rfl (en rfl (en rfl (en rfl (en rfl (en rfl (en rfl (en rfl s30))))))))))
  clear hg
  refine xc_ret ?_
  refine bodyR_1 rfl s6 ?_
  exact ⟨rfl, h.drop.drop.drop.drop⟩
theorem mapped_all (hv : OpsAt W v os) (hwa : OpWf W oa) (hwb : OpWf W ob) (hl : os.length ≤ 40) (h : SatL E w (Old W :: R)) : Calls Try.prog 5 #[v, .agg (opC oa).toArray, .agg (opC ob).toArray] w (Ret fun u w' => u = .bool true ∧ SatL E w' (Old W :: R)) := by
  obtain ⟨a, cap, rfl, hread⟩ := hv
  obtain ⟨al, cl, hlv, hlsp⟩ := hwa.sp
  obtain ⟨bl, dl, hlw, hlsq⟩ := hwb.sp
  unfold opC
  rw [hlv, hlw]
  have hoi := hwa.i
  have hoj := hwa.j
  refine calls_x Try.func5 rfl Try.ntmps5 rfl ?_
  refine xc_gen (fun g hg => ?_)
  have s0 := (hg 0).trans arg0
  have s1 := (hg 1).trans arg1
  have s2 := (hg 2).trans arg2
  clear hg
  refine xc_seq (fun K hK1 => ?_)
  refine xc_region ?_
  refine x_boxA h s1 rfl ?_
  intro b4 w h
  refine x_boxA h (en rfl s2) rfl ?_
  intro b5 w h
  refine x_val (r_assign ec) (nd_of rfl) rfl ?_
  refine xw_nil ?_
  refine hK1 _ _ ?_
  refine xc_gen (fun g hg => ?_)
  have s0 := (hg 0).trans (en rfl (en rfl (en rfl s0)))
  have s1 := (hg 1).trans (en rfl (en rfl (en rfl s1)))
  have s2 := (hg 2).trans (en rfl (en rfl (en rfl s2)))
  have s4 := (hg 4).trans (en rfl (en rfl es))
  have s5 := (hg 5).trans (en rfl es)
  have s6 := (hg 6).trans es
  clear hg
  refine xc_seq (fun K hK2 => ?_)
  refine xc_region ?_
  refine x_enter (r_call Try.call8 .nil) (nd_of rfl) rfl (new_o h) ?_
  rintro _ w ⟨b, rfl, h⟩
  refine x_enter (r_call Try.call8 .nil) (nd_of rfl) rfl (new_o h) ?_
  rintro _ w ⟨q, rfl, h⟩
  refine x_val (r_assign (en rfl es)) (nd_of rfl) rfl ?_
  refine x_val (r_assign (en rfl es)) (nd_of rfl) rfl ?_
  refine xw_nil ?_
  refine hK2 _ _ ?_
  refine xc_gen (fun g hg => ?_)
  have s0 := (hg 0).trans (en rfl (en rfl (en rfl (en rfl s0))))
  have s1 := (hg 1).trans (en rfl (en rfl (en rfl (en rfl s1))))
  have s2 := (hg 2).trans (en rfl (en rfl (en rfl (en rfl s2))))
  have s4 := (hg 4).trans (en rfl (en rfl (en rfl (en rfl s4))))
  have s5 := (hg 5).trans (en rfl (en rfl (en rfl (en rfl s5))))
  have s6 := (hg 6).trans (en rfl (en rfl (en rfl (en rfl s6))))
  have s7 := (hg 7).trans (en rfl es)
  have s8 := (hg 8).trans es
  clear hg
  refine xc_seq (fun K hK3 => ?_)
  refine xc_seq (fun K hK4 => ?_)
  refine xc_region ?_
  refine x_val (r_move s7) (nd_of rfl) rfl ?_
  refine x_val (r_eqnil Try.underlying23 es ec (r := false) rfl) (nd_of rfl) rfl ?_
  refine x_val (r_move es) (nd_of rfl) rfl ?_
  refine x_take (d := 22) rfl rfl es ?_
  refine x_val (r_move (en rfl (en rfl (en rfl s8)))) (nd_of rfl) rfl ?_
  refine x_take (d := 22) rfl rfl (en rfl es) ?_
  refine x_val (r_eqnil Try.underlying23 es ec (r := false) rfl) (nd_of rfl) rfl ?_
  refine x_val (r_pick_f (en rfl (en rfl es)) es) (nd_of rfl) rfl ?_
  refine x_val (r_move es) (nd_of rfl) rfl ?_
  refine x_take (d := 26) rfl rfl es ?_
  refine x_val (r_move (en rfl (en rfl (en rfl (en rfl (en rfl (en rfl (en rfl s0)))))))) (nd_of rfl) rfl ?_
  refine x_take (d := 26) rfl rfl (en rfl es) ?_
  refine x_val (r_len Try.underlying22 es) (nd_of rfl) rfl ?_
  refine x_take (d := 26) rfl rfl (en rfl (en rfl es)) ?_
  refine x_val (r_gtr es ec (decide_eq_false (by omega))) (nd_of rfl) rfl ?_
  refine x_val (r_pick_f (en rfl (en rfl (en rfl es))) es) (nd_of rfl) rfl ?_
  refine xw_nil ?_
  refine hK4 _ _ ?_
  refine xc_gen (fun g hg => ?_)
  have s0 := (hg 0).trans (en rfl (en rfl (en rfl (en rfl (en rfl (en rfl (en rfl (en rfl (en rfl (en rfl (en rfl s0)))))))))))
  have s1 := (hg 1).trans (en rfl (en rfl (en rfl (en rfl (en rfl (en rfl (en rfl (en rfl (en rfl (en rfl (en rfl s1)))))))))))
  have s2 := (hg 2).trans (en rfl (en rfl (en rfl (en rfl (en rfl (en rfl (en rfl (en rfl (en rfl (en rfl (en rfl s2)))))))))))
  have s4 := (hg 4).trans (en rfl (en rfl (en rfl (en rfl (en rfl (en rfl (en rfl (en rfl (en rfl (en rfl (en rfl s4)))))))))))
  have s5 := (hg 5).trans (en rfl (en rfl (en rfl (en rfl (en rfl (en rfl (en rfl (en rfl (en rfl (en rfl (en rfl s5)))))))))))
  have s6 := (hg 6).trans (en rfl (en rfl (en rfl (en rfl (en rfl (en rfl (en rfl (en rfl (en rfl (en rfl (en rfl s6)))))))))))
  have s7 := (hg 7).trans (en rfl (en rfl (en rfl (en rfl (en rfl (en rfl (en rfl (en rfl (en rfl (en rfl (en rfl s7)))))))))))
  have s8 := (hg 8).trans (en rfl (en rfl (en rfl (en rfl (en rfl (en rfl (en rfl (en rfl (en rfl (en rfl (en rfl s8)))))))))))
  have s30 := (hg 30).trans es
  clear hg
  refine xc_cond s30 (fun hc => by cases hc) (fun _ => ?_)
  refine xc_skip ?_
  refine hK3 _ _ ?_
  refine xc_seq (fun K hK5 => ?_)
  refine xc_seq (fun K hK6 => ?_)
  refine xc_region ?_
  refine x_val (r_move s0) (nd_of rfl) rfl ?_
  refine x_val (r_len Try.underlying22 es) (nd_of rfl) rfl ?_
  refine x_val (r_move ec) (nd_of rfl) rfl ?_
  refine xw_nil ?_
  refine hK6 _ _ ?_
  refine xc_gen (fun g hg => ?_)
  have s0 := (hg 0).trans (en rfl (en rfl (en rfl s0)))
  have s1 := (hg 1).trans (en rfl (en rfl (en rfl s1)))
  have s2 := (hg 2).trans (en rfl (en rfl (en rfl s2)))
  have s4 := (hg 4).trans (en rfl (en rfl (en rfl s4)))
  have s5 := (hg 5).trans (en rfl (en rfl (en rfl s5)))
  have s6 := (hg 6).trans (en rfl (en rfl (en rfl s6)))
  have s7 := (hg 7).trans (en rfl (en rfl (en rfl s7)))
  have s8 := (hg 8).trans (en rfl (en rfl (en rfl s8)))
  have s30 := (hg 30).trans (en rfl (en rfl (en rfl s30)))
  have s41 := (hg 41).trans (en rfl es)
  have s42 := (hg 42).trans es
  clear hg
  refine xc_block ?_
  obtain ⟨G7, hG7⟩ : ∃ g0 : Nat → Value, g0 = g := ⟨_, rfl⟩
  have zG7_0 : G7 0 = _ := (congrFun hG7 0).trans s0
  have zG7_1 : G7 1 = _ := (congrFun hG7 1).trans s1
  have zG7_2 : G7 2 = _ := (congrFun hG7 2).trans s2
  have zG7_4 : G7 4 = _ := (congrFun hG7 4).trans s4
  have zG7_5 : G7 5 = _ := (congrFun hG7 5).trans s5
  have zG7_6 : G7 6 = _ := (congrFun hG7 6).trans s6
  have zG7_7 : G7 7 = _ := (congrFun hG7 7).trans s7
  have zG7_8 : G7 8 = _ := (congrFun hG7 8).trans s8
  have zG7_30 : G7 30 = _ := (congrFun hG7 30).trans s30
  have zG7_41 : G7 41 = _ := (congrFun hG7 41).trans s41
  refine xc_loop (fun m f w => (∃ (k n : Nat) (xs : List X), m = os.length - k ∧ k ≤ os.length ∧ n ≤ k ∧ Inv xs n ∧ f 42 = .int .i64 (k : Int) ∧ SatL E w (ObjO q xs (104 * n) :: ObjO b xs (104 * n) :: Cells b5 #[.int .i64 ob.kind, .int .i64 ob.i, .int .i64 ob.j, .slice bl ob.ls.length dl, .int .i64 ob.by_, .int .i64 ob.plus] 28 :: Cells b4 #[.int .i64 oa.kind, .int .i64 oa.i, .int .i64 oa.j, .slice al oa.ls.length cl, .int .i64 oa.by_, .int .i64 oa.plus] 28 :: Old W :: R)) ∧ (f 0 = G7 0 ∧ f 1 = G7 1 ∧ f 2 = G7 2 ∧ f 4 = G7 4 ∧ f 5 = G7 5 ∧ f 6 = G7 6 ∧ f 7 = G7 7 ∧ f 8 = G7 8 ∧ f 30 = G7 30 ∧ f 41 = G7 41)) (os.length) ⟨⟨0, 0, [], by omega, by omega, by omega, Inv.nil, s42, h⟩, ⟨congrFun hG7.symm 0, congrFun hG7.symm 1, congrFun hG7.symm 2, congrFun hG7.symm 4, congrFun hG7.symm 5, congrFun hG7.symm 6, congrFun hG7.symm 7, congrFun hG7.symm 8, congrFun hG7.symm 30, congrFun hG7.symm 41⟩⟩ ?_
  rintro m g w ⟨⟨k, n, xs, hm, hk, hn, hinv, s42, h⟩, ⟨y0, y1, y2, y4, y5, y6, y7, y8, y30, y41⟩⟩
  have s0 := y0.trans zG7_0
  have s1 := y1.trans zG7_1
  have s2 := y2.trans zG7_2
  have s4 := y4.trans zG7_4
  have s5 := y5.trans zG7_5
  have s6 := y6.trans zG7_6
  have s7 := y7.trans zG7_7
  have s8 := y8.trans zG7_8
  have s30 := y30.trans zG7_30
  have s41 := y41.trans zG7_41
  refine xc_seq (fun K hK8 => ?_)
  refine xc_region ?_
  refine x_val (r_lss s42 s41 rfl) (nd_of rfl) rfl ?_
  refine xw_nil ?_
  refine hK8 _ _ ?_
  refine xc_gen (fun g hg => ?_)
  have s0 := (hg 0).trans (en rfl s0)
  have s1 := (hg 1).trans (en rfl s1)
  have s2 := (hg 2).trans (en rfl s2)
  have s4 := (hg 4).trans (en rfl s4)
  have s5 := (hg 5).trans (en rfl s5)
  have s6 := (hg 6).trans (en rfl s6)
  have s7 := (hg 7).trans (en rfl s7)
  have s8 := (hg 8).trans (en rfl s8)
  have s30 := (hg 30).trans (en rfl s30)
  have s41 := (hg 41).trans (en rfl s41)
  have s42 := (hg 42).trans (en rfl s42)
  have s43 := (hg 43).trans es
  clear hg
  refine xc_seq (fun K hK9 => ?_)
  refine xc_cond s43 (fun hc => ?_) (fun hc => ?_)
  ·
    refine xc_skip ?_
    refine hK9 _ _ ?_
    refine xc_seq (fun K hK10 => ?_)
    refine xc_block ?_
    refine xc_seq (fun K hK11 => ?_)
    have hk2 : k < os.length := by have := of_decide_eq_true hc; omega
    obtain ⟨o2, ho⟩ : ∃ o2, os[k]? = some o2 := ⟨_, List.getElem?_eq_getElem hk2⟩
    obtain ⟨hwf, ad, rfl, hcell⟩ := hread k o2 ho
    obtain ⟨al2, cl2, hlv2, hlsp2⟩ := hwf.sp
    have hinl := hinv.len
    have hins := hinv.size
    have c3 : W.cell? ((ad.add (k * 6)).add 3) = some (.slice al2 o2.ls.length cl2) := by rw [← hlv2]; exact hcell 3 _ rfl
    refine xc_region ?_
    refine x_val (r_move s42) (nd_of rfl) rfl ?_
    refine x_val (r_assign es) (nd_of rfl) rfl ?_
    refine xw_nil ?_
    refine hK11 _ _ ?_
    refine xc_gen (fun g hg => ?_)
    have s0 := (hg 0).trans (en rfl (en rfl s0))
    have s1 := (hg 1).trans (en rfl (en rfl s1))
    have s2 := (hg 2).trans (en rfl (en rfl s2))
    have s4 := (hg 4).trans (en rfl (en rfl s4))
    have s5 := (hg 5).trans (en rfl (en rfl s5))
    have s6 := (hg 6).trans (en rfl (en rfl s6))
    have s7 := (hg 7).trans (en rfl (en rfl s7))
    have s8 := (hg 8).trans (en rfl (en rfl s8))
    have s9 := (hg 9).trans es
    have s30 := (hg 30).trans (en rfl (en rfl s30))
    have s41 := (hg 41).trans (en rfl (en rfl s41))
    have s42 := (hg 42).trans (en rfl (en rfl s42))
    have s43 := (hg 43).trans (en rfl (en rfl s43))
    clear hg
    refine xc_seq (fun K hK12 => ?_)
    refine xc_region ?_
    refine x_val (r_move s0) (nd_of rfl) rfl ?_
    refine x_val (r_move (en rfl s9)) (nd_of rfl) rfl ?_
    refine x_val (r_indexAny Try.underlying22 Try.sizeOf28 (en rfl es) es (by omega) (by omega)) (nd_of rfl) rfl ?_
    refine x_val (r_fieldAddrA Try.underlying28 rfl Try.sizeOf26 rfl es) (nd_of rfl) rfl ?_
    refine x_val (r_loadCell Try.isAgg26 es (h.oldCell 4 rfl c3)) (nd_of rfl) rfl ?_
    refine x_val (r_len Try.underlying26 es) (nd_of rfl) rfl ?_
    refine x_val (r_leq es ec rfl) (nd_of rfl) rfl ?_
    refine xw_nil ?_
    refine hK12 _ _ ?_
    refine xc_gen (fun g hg => ?_)
    have s0 := (hg 0).trans (en rfl (en rfl (en rfl (en rfl (en rfl (en rfl (en rfl s0)))))))
    have s1 := (hg 1).trans (en rfl (en rfl (en rfl (en rfl (en rfl (en rfl (en rfl s1)))))))
    have s2 := (hg 2).trans (en rfl (en rfl (en rfl (en rfl (en rfl (en rfl (en rfl s2)))))))
    have s4 := (hg 4).trans (en rfl (en rfl (en rfl (en rfl (en rfl (en rfl (en rfl s4)))))))
    have s5 := (hg 5).trans (en rfl (en rfl (en rfl (en rfl (en rfl (en rfl (en rfl s5)))))))
    have s6 := (hg 6).trans (en rfl (en rfl (en rfl (en rfl (en rfl (en rfl (en rfl s6)))))))
    have s7 := (hg 7).trans (en rfl (en rfl (en rfl (en rfl (en rfl (en rfl (en rfl s7)))))))
    have s8 := (hg 8).trans (en rfl (en rfl (en rfl (en rfl (en rfl (en rfl (en rfl s8)))))))
    have s9 := (hg 9).trans (en rfl (en rfl (en rfl (en rfl (en rfl (en rfl (en rfl s9)))))))
    have s30 := (hg 30).trans (en rfl (en rfl (en rfl (en rfl (en rfl (en rfl (en rfl s30)))))))
    have s41 := (hg 41).trans (en rfl (en rfl (en rfl (en rfl (en rfl (en rfl (en rfl s41)))))))
    have s42 := (hg 42).trans (en rfl (en rfl (en rfl (en rfl (en rfl (en rfl (en rfl s42)))))))
    have s43 := (hg 43).trans (en rfl (en rfl (en rfl (en rfl (en rfl (en rfl (en rfl s43)))))))
    have s51 := (hg 51).trans es
    clear hg
    refine xc_cond s51 (fun hc => ?_) (fun hc => ?_)
    ·
      refine xc_seq (fun K hK13 => ?_)
      have hle : o2.ls.length ≤ 100 := by have := of_decide_eq_true hc; omega
      refine xc_plan 16 [(0, 2), (1, 2), (2, 2), (3, 2), (4, 2), (5, 1), (6, 2), (7, 2), (8, 2), (9, 2), (10, 1), (11, 2), (12, 2), (13, 2), (14, 2), (15, 1), (16, 0)] (by kernel_rfl) rfl (by kernel_rfl) h ?_
      have h := h.drew
      refine xp_read (i := 0) rfl (fun W => r_move s7) rfl (fun _ _ _ hh => by first | exact bodyR_np hh | exact bodyY_np hh | exact hh) ?_
      refine xp_read (i := 1) rfl (fun W => r_move (en rfl s0)) rfl (fun _ _ _ hh => by first | exact bodyR_np hh | exact bodyY_np hh | exact hh) ?_
      refine xp_read (i := 2) rfl (fun W => r_move (en rfl (en rfl s9))) rfl (fun _ _ _ hh => by first | exact bodyR_np hh | exact bodyY_np hh | exact hh) ?_
      refine xp_read (i := 3) rfl (fun W => r_indexAny Try.underlying22 Try.sizeOf28 (en rfl es) es (by omega) (by omega)) rfl (fun _ _ _ hh => by first | exact bodyR_np hh | exact bodyY_np hh | exact hh) ?_
      refine xp_read (i := 4) rfl (fun W => r_fieldAddrA Try.underlying28 rfl Try.sizeOf3 rfl es) rfl (fun _ _ _ hh => by first | exact bodyR_np hh | exact bodyY_np hh | exact hh) ?_
      refine xp_load (i := 5) rfl (fun W hW => r_loadCell Try.isAgg3 es (hW.oldCell 4 rfl (hcell 1 _ rfl))) rfl (fun _ _ _ hh => by first | exact bodyR_np hh | exact bodyY_np hh | exact hh) ?_
      refine xp_read (i := 6) rfl (fun W => r_move (en rfl (en rfl (en rfl (en rfl (en rfl (en rfl s0))))))) rfl (fun _ _ _ hh => by first | exact bodyR_np hh | exact bodyY_np hh | exact hh) ?_
      refine xp_read (i := 7) rfl (fun W => r_move (en rfl (en rfl (en rfl (en rfl (en rfl (en rfl (en rfl s9)))))))) rfl (fun _ _ _ hh => by first | exact bodyR_np hh | exact bodyY_np hh | exact hh) ?_
      refine xp_read (i := 8) rfl (fun W => r_indexAny Try.underlying22 Try.sizeOf28 (en rfl es) es (by omega) (by omega)) rfl (fun _ _ _ hh => by first | exact bodyR_np hh | exact bodyY_np hh | exact hh) ?_
      refine xp_read (i := 9) rfl (fun W => r_fieldAddrA Try.underlying28 rfl Try.sizeOf3 rfl es) rfl (fun _ _ _ hh => by first | exact bodyR_np hh | exact bodyY_np hh | exact hh) ?_
      refine xp_load (i := 10) rfl (fun W hW => r_loadCell Try.isAgg3 es (hW.oldCell 4 rfl (hcell 2 _ rfl))) rfl (fun _ _ _ hh => by first | exact bodyR_np hh | exact bodyY_np hh | exact hh) ?_
      refine xp_read (i := 11) rfl (fun W => r_move (en rfl (en rfl (en rfl (en rfl (en rfl (en rfl (en rfl (en rfl (en rfl (en rfl (en rfl s0)))))))))))) rfl (fun _ _ _ hh => by first | exact bodyR_np hh | exact bodyY_np hh | exact hh) ?_
      refine xp_read (i := 12) rfl (fun W => r_move (en rfl (en rfl (en rfl (en rfl (en rfl (en rfl (en rfl (en rfl (en rfl (en rfl (en rfl (en rfl s9))))))))))))) rfl (fun _ _ _ hh => by first | exact bodyR_np hh | exact bodyY_np hh | exact hh) ?_
      refine xp_read (i := 13) rfl (fun W => r_indexAny Try.underlying22 Try.sizeOf28 (en rfl es) es (by omega) (by omega)) rfl (fun _ _ _ hh => by first | exact bodyR_np hh | exact bodyY_np hh | exact hh) ?_
      refine xp_read (i := 14) rfl (fun W => r_fieldAddrA Try.underlying28 rfl Try.sizeOf26 rfl es) rfl (fun _ _ _ hh => by first | exact bodyR_np hh | exact bodyY_np hh | exact hh) ?_
      refine xp_load (i := 15) rfl (fun W hW => r_loadCell Try.isAgg26 es (hW.oldCell 4 rfl c3)) rfl (fun _ _ _ hh => by first | exact bodyR_np hh | exact bodyY_np hh | exact hh) ?_
      have h := h.f1
      refine xp_enter (i := 16) rfl (r_call Try.call10 (.cons (en rfl (en rfl (en rfl (en rfl (en rfl (en rfl (en rfl (en rfl (en rfl (en rfl (en rfl (en rfl (en rfl (en rfl (en rfl es))))))))))))))) (.cons (en rfl (en rfl (en rfl (en rfl (en rfl (en rfl (en rfl (en rfl (en rfl (en rfl es)))))))))) (.cons (en rfl (en rfl (en rfl (en rfl (en rfl es))))) (.cons es .nil))))) rfl (splice_o (B' := 104 * (n + 1)) (hlv2 ▸ hwf.sp.rslc 3 rfl) hins (fun p hp => (hwf.sp.wf p hp).1) (by omega) (by omega) (by omega) h) ?_
      rintro _ w ⟨rfl, h⟩
      refine ⟨(fun hh => absurd rfl hh), ?_⟩
      refine xp_nil ?_
      refine hK13 _ _ ?_
      refine xc_gen (fun g hg => ?_)
      have s0 := (hg 0).trans (en rfl (en rfl (en rfl (en rfl (en rfl (en rfl (en rfl (en rfl (en rfl (en rfl (en rfl (en rfl (en rfl (en rfl (en rfl (en rfl (en rfl s0)))))))))))))))))
      have s1 := (hg 1).trans (en rfl (en rfl (en rfl (en rfl (en rfl (en rfl (en rfl (en rfl (en rfl (en rfl (en rfl (en rfl (en rfl (en rfl (en rfl (en rfl (en rfl s1)))))))))))))))))
      have s2 := (hg 2).trans (en rfl (en rfl (en rfl (en rfl (en rfl (en rfl (en rfl (en rfl (en rfl (en rfl (en rfl (en rfl (en rfl (en rfl (en rfl (en rfl (en rfl s2)))))))))))))))))
      have s4 := (hg 4).trans (en rfl (en rfl (en rfl (en rfl (en rfl (en rfl (en rfl (en rfl (en rfl (en rfl (en rfl (en rfl (en rfl (en rfl (en rfl (en rfl (en rfl s4)))))))))))))))))
      have s5 := (hg 5).trans (en rfl (en rfl (en rfl (en rfl (en rfl (en rfl (en rfl (en rfl (en rfl (en rfl (en rfl (en rfl (en rfl (en rfl (en rfl (en rfl (en rfl s5)))))))))))))))))
      have s6 := (hg 6).trans (en rfl (en rfl (en rfl (en rfl (en rfl (en rfl (en rfl (en rfl (en rfl (en rfl (en rfl (en rfl (en rfl (en rfl (en rfl (en rfl (en rfl s6)))))))))))))))))
      have s7 := (hg 7).trans (en rfl (en rfl (en rfl (en rfl (en rfl (en rfl (en rfl (en rfl (en rfl (en rfl (en rfl (en rfl (en rfl (en rfl (en rfl (en rfl (en rfl s7)))))))))))))))))
      have s8 := (hg 8).trans (en rfl (en rfl (en rfl (en rfl (en rfl (en rfl (en rfl (en rfl (en rfl (en rfl (en rfl (en rfl (en rfl (en rfl (en rfl (en rfl (en rfl s8)))))))))))))))))
      have s9 := (hg 9).trans (en rfl (en rfl (en rfl (en rfl (en rfl (en rfl (en rfl (en rfl (en rfl (en rfl (en rfl (en rfl (en rfl (en rfl (en rfl (en rfl (en rfl s9)))))))))))))))))
      have s30 := (hg 30).trans (en rfl (en rfl (en rfl (en rfl (en rfl (en rfl (en rfl (en rfl (en rfl (en rfl (en rfl (en rfl (en rfl (en rfl (en rfl (en rfl (en rfl s30)))))))))))))))))
      have s41 := (hg 41).trans (en rfl (en rfl (en rfl (en rfl (en rfl (en rfl (en rfl (en rfl (en rfl (en rfl (en rfl (en rfl (en rfl (en rfl (en rfl (en rfl (en rfl s41)))))))))))))))))
      have s42 := (hg 42).trans (en rfl (en rfl (en rfl (en rfl (en rfl (en rfl (en rfl (en rfl (en rfl (en rfl (en rfl (en rfl (en rfl (en rfl (en rfl (en rfl (en rfl s42)))))))))))))))))
      have s43 := (hg 43).trans (en rfl (en rfl (en rfl (en rfl (en rfl (en rfl (en rfl (en rfl (en rfl (en rfl (en rfl (en rfl (en rfl (en rfl (en rfl (en rfl (en rfl s43)))))))))))))))))
      have s51 := (hg 51).trans (en rfl (en rfl (en rfl (en rfl (en rfl (en rfl (en rfl (en rfl (en rfl (en rfl (en rfl (en rfl (en rfl (en rfl (en rfl (en rfl (en rfl s51)))))))))))))))))
      clear hg
      refine xc_plan 16 [(0, 2), (1, 2), (2, 2), (3, 2), (4, 2), (5, 1), (6, 2), (7, 2), (8, 2), (9, 2), (10, 1), (11, 2), (12, 2), (13, 2), (14, 2), (15, 1), (16, 0)] (by kernel_rfl) rfl (by kernel_rfl) h ?_
      have h := h.drew
      refine xp_read (i := 0) rfl (fun W => r_move s8) rfl (fun _ _ _ hh => by first | exact bodyR_np hh | exact bodyY_np hh | exact hh) ?_
      refine xp_read (i := 1) rfl (fun W => r_move (en rfl s0)) rfl (fun _ _ _ hh => by first | exact bodyR_np hh | exact bodyY_np hh | exact hh) ?_
      refine xp_read (i := 2) rfl (fun W => r_move (en rfl (en rfl s9))) rfl (fun _ _ _ hh => by first | exact bodyR_np hh | exact bodyY_np hh | exact hh) ?_
      refine xp_read (i := 3) rfl (fun W => r_indexAny Try.underlying22 Try.sizeOf28 (en rfl es) es (by omega) (by omega)) rfl (fun _ _ _ hh => by first | exact bodyR_np hh | exact bodyY_np hh | exact hh) ?_
      refine xp_read (i := 4) rfl (fun W => r_fieldAddrA Try.underlying28 rfl Try.sizeOf3 rfl es) rfl (fun _ _ _ hh => by first | exact bodyR_np hh | exact bodyY_np hh | exact hh) ?_
      refine xp_load (i := 5) rfl (fun W hW => r_loadCell Try.isAgg3 es (hW.oldCell 4 rfl (hcell 1 _ rfl))) rfl (fun _ _ _ hh => by first | exact bodyR_np hh | exact bodyY_np hh | exact hh) ?_
      refine xp_read (i := 6) rfl (fun W => r_move (en rfl (en rfl (en rfl (en rfl (en rfl (en rfl s0))))))) rfl (fun _ _ _ hh => by first | exact bodyR_np hh | exact bodyY_np hh | exact hh) ?_
      refine xp_read (i := 7) rfl (fun W => r_move (en rfl (en rfl (en rfl (en rfl (en rfl (en rfl (en rfl s9)))))))) rfl (fun _ _ _ hh => by first | exact bodyR_np hh | exact bodyY_np hh | exact hh) ?_
      refine xp_read (i := 8) rfl (fun W => r_indexAny Try.underlying22 Try.sizeOf28 (en rfl es) es (by omega) (by omega)) rfl (fun _ _ _ hh => by first | exact bodyR_np hh | exact bodyY_np hh | exact hh) ?_
      refine xp_read (i := 9) rfl (fun W => r_fieldAddrA Try.underlying28 rfl Try.sizeOf3 rfl es) rfl (fun _ _ _ hh => by first | exact bodyR_np hh | exact bodyY_np hh | exact hh) ?_
      refine xp_load (i := 10) rfl (fun W hW => r_loadCell Try.isAgg3 es (hW.oldCell 4 rfl (hcell 2 _ rfl))) rfl (fun _ _ _ hh => by first | exact bodyR_np hh | exact bodyY_np hh | exact hh) ?_
      refine xp_read (i := 11) rfl (fun W => r_move (en rfl (en rfl (en rfl (en rfl (en rfl (en rfl (en rfl (en rfl (en rfl (en rfl (en rfl s0)))))))))))) rfl (fun _ _ _ hh => by first | exact bodyR_np hh | exact bodyY_np hh | exact hh) ?_
      refine xp_read (i := 12) rfl (fun W => r_move (en rfl (en rfl (en rfl (en rfl (en rfl (en rfl (en rfl (en rfl (en rfl (en rfl (en rfl (en rfl s9))))))))))))) rfl (fun _ _ _ hh => by first | exact bodyR_np hh | exact bodyY_np hh | exact hh) ?_
      refine xp_read (i := 13) rfl (fun W => r_indexAny Try.underlying22 Try.sizeOf28 (en rfl es) es (by omega) (by omega)) rfl (fun _ _ _ hh => by first | exact bodyR_np hh | exact bodyY_np hh | exact hh) ?_
      refine xp_read (i := 14) rfl (fun W => r_fieldAddrA Try.underlying28 rfl Try.sizeOf26 rfl es) rfl (fun _ _ _ hh => by first | exact bodyR_np hh | exact bodyY_np hh | exact hh) ?_
      refine xp_load (i := 15) rfl (fun W hW => r_loadCell Try.isAgg26 es (hW.oldCell 4 rfl c3)) rfl (fun _ _ _ hh => by first | exact bodyR_np hh | exact bodyY_np hh | exact hh) ?_
      have h := h.f1
      refine xp_enter (i := 16) rfl (r_call Try.call10 (.cons (en rfl (en rfl (en rfl (en rfl (en rfl (en rfl (en rfl (en rfl (en rfl (en rfl (en rfl (en rfl (en rfl (en rfl (en rfl es))))))))))))))) (.cons (en rfl (en rfl (en rfl (en rfl (en rfl (en rfl (en rfl (en rfl (en rfl (en rfl es)))))))))) (.cons (en rfl (en rfl (en rfl (en rfl (en rfl es))))) (.cons es .nil))))) rfl (splice_o (B' := 104 * (n + 1)) (hlv2 ▸ hwf.sp.rslc 3 rfl) hins (fun p hp => (hwf.sp.wf p hp).1) (by omega) (by omega) (by omega) h) ?_
      rintro _ w ⟨rfl, h⟩
      refine ⟨(fun hh => absurd rfl hh), ?_⟩
      refine xp_nil ?_
      refine hK10 _ _ ?_
      refine xc_gen (fun g hg => ?_)
      have s0 := (hg 0).trans (en rfl (en rfl (en rfl (en rfl (en rfl (en rfl (en rfl (en rfl (en rfl (en rfl (en rfl (en rfl (en rfl (en rfl (en rfl (en rfl (en rfl s0)))))))))))))))))
      have s1 := (hg 1).trans (en rfl (en rfl (en rfl (en rfl (en rfl (en rfl (en rfl (en rfl (en rfl (en rfl (en rfl (en rfl (en rfl (en rfl (en rfl (en rfl (en rfl s1)))))))))))))))))
      have s2 := (hg 2).trans (en rfl (en rfl (en rfl (en rfl (en rfl (en rfl (en rfl (en rfl (en rfl (en rfl (en rfl (en rfl (en rfl (en rfl (en rfl (en rfl (en rfl s2)))))))))))))))))
      have s4 := (hg 4).trans (en rfl (en rfl (en rfl (en rfl (en rfl (en rfl (en rfl (en rfl (en rfl (en rfl (en rfl (en rfl (en rfl (en rfl (en rfl (en rfl (en rfl s4)))))))))))))))))
      have s5 := (hg 5).trans (en rfl (en rfl (en rfl (en rfl (en rfl (en rfl (en rfl (en rfl (en rfl (en rfl (en rfl (en rfl (en rfl (en rfl (en rfl (en rfl (en rfl s5)))))))))))))))))
      have s6 := (hg 6).trans (en rfl (en rfl (en rfl (en rfl (en rfl (en rfl (en rfl (en rfl (en rfl (en rfl (en rfl (en rfl (en rfl (en rfl (en rfl (en rfl (en rfl s6)))))))))))))))))
      have s7 := (hg 7).trans (en rfl (en rfl (en rfl (en rfl (en rfl (en rfl (en rfl (en rfl (en rfl (en rfl (en rfl (en rfl (en rfl (en rfl (en rfl (en rfl (en rfl s7)))))))))))))))))
      have s8 := (hg 8).trans (en rfl (en rfl (en rfl (en rfl (en rfl (en rfl (en rfl (en rfl (en rfl (en rfl (en rfl (en rfl (en rfl (en rfl (en rfl (en rfl (en rfl s8)))))))))))))))))
      have s9 := (hg 9).trans (en rfl (en rfl (en rfl (en rfl (en rfl (en rfl (en rfl (en rfl (en rfl (en rfl (en rfl (en rfl (en rfl (en rfl (en rfl (en rfl (en rfl s9)))))))))))))))))
      have s30 := (hg 30).trans (en rfl (en rfl (en rfl (en rfl (en rfl (en rfl (en rfl (en rfl (en rfl (en rfl (en rfl (en rfl (en rfl (en rfl (en rfl (en rfl (en rfl s30)))))))))))))))))
      have s41 := (hg 41).trans (en rfl (en rfl (en rfl (en rfl (en rfl (en rfl (en rfl (en rfl (en rfl (en rfl (en rfl (en rfl (en rfl (en rfl (en rfl (en rfl (en rfl s41)))))))))))))))))
      have s42 := (hg 42).trans (en rfl (en rfl (en rfl (en rfl (en rfl (en rfl (en rfl (en rfl (en rfl (en rfl (en rfl (en rfl (en rfl (en rfl (en rfl (en rfl (en rfl s42)))))))))))))))))
      have s43 := (hg 43).trans (en rfl (en rfl (en rfl (en rfl (en rfl (en rfl (en rfl (en rfl (en rfl (en rfl (en rfl (en rfl (en rfl (en rfl (en rfl (en rfl (en rfl s43)))))))))))))))))
      have s51 := (hg 51).trans (en rfl (en rfl (en rfl (en rfl (en rfl (en rfl (en rfl (en rfl (en rfl (en rfl (en rfl (en rfl (en rfl (en rfl (en rfl (en rfl (en rfl s51)))))))))))))))))
      clear hg
      refine xc_region ?_
      refine x_val (r_add s42 ec (show _ = (((k + 1 : Nat) : Int) : Int) from by omega) (by unfold I64; omega)) (nd_of rfl) rfl ?_
      refine x_val (r_move es) (nd_of rfl) rfl ?_
      refine xw_nil ?_
      exact ⟨os.length - (k + 1), by omega, ⟨k + 1, n + 1, _, rfl, by omega, by omega, hinv.splice hwf.sp.wf hle, es, h⟩, ⟨((en rfl (en rfl s0))).trans zG7_0.symm, ((en rfl (en rfl s1))).trans zG7_1.symm, ((en rfl (en rfl s2))).trans zG7_2.symm, ((en rfl (en rfl s4))).trans zG7_4.symm, ((en rfl (en rfl s5))).trans zG7_5.symm, ((en rfl (en rfl s6))).trans zG7_6.symm, ((en rfl (en rfl s7))).trans zG7_7.symm, ((en rfl (en rfl s8))).trans zG7_8.symm, ((en rfl (en rfl s30))).trans zG7_30.symm, ((en rfl (en rfl s41))).trans zG7_41.symm⟩⟩
    ·
      refine xc_skip ?_
      refine hK10 _ _ ?_
      refine xc_region ?_
      refine x_val (r_add s42 ec (show _ = (((k + 1 : Nat) : Int) : Int) from by omega) (by unfold I64; omega)) (nd_of rfl) rfl ?_
      refine x_val (r_move es) (nd_of rfl) rfl ?_
      refine xw_nil ?_
      exact ⟨os.length - (k + 1), by omega, ⟨k + 1, n, xs, rfl, by omega, by omega, hinv, es, h⟩, ⟨((en rfl (en rfl s0))).trans zG7_0.symm, ((en rfl (en rfl s1))).trans zG7_1.symm, ((en rfl (en rfl s2))).trans zG7_2.symm, ((en rfl (en rfl s4))).trans zG7_4.symm, ((en rfl (en rfl s5))).trans zG7_5.symm, ((en rfl (en rfl s6))).trans zG7_6.symm, ((en rfl (en rfl s7))).trans zG7_7.symm, ((en rfl (en rfl s8))).trans zG7_8.symm, ((en rfl (en rfl s30))).trans zG7_30.symm, ((en rfl (en rfl s41))).trans zG7_41.symm⟩⟩
  ·
    have hinl := hinv.len
    have hins := hinv.size
    rcases Decidable.em (isPart (sz xs) oa.i oa.j) with hp | hp
    ·
      skip
      refine xc_exit ?_
      refine hK5 _ _ ?_
      refine xc_seq (fun K hK14 => ?_)
      obtain ⟨ga, ega⟩ : ∃ g, g = gM oa.by_ oa.plus := ⟨_, rfl⟩
      obtain ⟨gb, egb⟩ : ∃ g, g = gM ob.by_ ob.plus := ⟨_, rfl⟩
      obtain ⟨ms, hms⟩ : ∃ ms, ms = spliceS xs oa.i oa.j (mapPs ga xs oa.i oa.j) := ⟨_, rfl⟩
      have hz1 : sz ms = sz xs := by rw [hms]; exact sz_map hp
      have hl1 : ms.length ≤ 2 * xs.length + 1 := by rw [hms]; exact len_map
      have hp1 : isPart (sz ms) oa.i oa.j := by rw [hz1]; exact hp
      refine xc_region ?_
      refine x_val (r_func .nil (.cons s5 (.cons s4 .nil))) (nd_of rfl) rfl ?_
      refine x_val (r_assign es) (nd_of rfl) rfl ?_
      refine xw_nil ?_
      refine hK14 _ _ ?_
      refine xc_gen (fun g hg => ?_)
      have s0 := (hg 0).trans (en rfl (en rfl s0))
      have s1 := (hg 1).trans (en rfl (en rfl s1))
      have s2 := (hg 2).trans (en rfl (en rfl s2))
      have s4 := (hg 4).trans (en rfl (en rfl s4))
      have s5 := (hg 5).trans (en rfl (en rfl s5))
      have s6 := (hg 6).trans (en rfl (en rfl s6))
      have s7 := (hg 7).trans (en rfl (en rfl s7))
      have s8 := (hg 8).trans (en rfl (en rfl s8))
      have s10 := (hg 10).trans es
      have s30 := (hg 30).trans (en rfl (en rfl s30))
      have s41 := (hg 41).trans (en rfl (en rfl s41))
      have s42 := (hg 42).trans (en rfl (en rfl s42))
      have s43 := (hg 43).trans (en rfl (en rfl s43))
      clear hg
      refine xc_seq (fun K hK15 => ?_)
      have hS := h
      have hS := (hS.f0).drop
      have hS := (hS.f0).drop
      refine xc_plan 18 [(0, 2), (1, 2), (2, 1), (3, 2), (4, 1), (5, 1), (6, 2), (8, 2), (9, 2), (10, 1), (11, 2), (12, 1), (13, 1), (14, 2), (7, 0), (15, 0), (16, 2), (17, 2)] (by kernel_rfl) rfl (by kernel_rfl) hS ?_
      have h := h.drew
      refine xp_read (i := 0) rfl (fun W => r_move s7) rfl (fun _ _ _ hh => by first | exact bodyR_np hh | exact bodyY_np hh | exact hh) ?_
      refine xp_read (i := 1) rfl (fun W => r_fieldAddr (o' := 1) Try.underlying28 rfl Try.sizeOf3 rfl (en rfl s4) rfl) rfl (fun _ _ _ hh => by first | exact bodyR_np hh | exact bodyY_np hh | exact hh) ?_
      refine xp_load (i := 2) rfl (fun W hW => r_load hW 1 rfl Try.isAgg3 es gc1) rfl (fun _ _ _ hh => by first | exact bodyR_np hh | exact bodyY_np hh | exact hh) ?_
      refine xp_read (i := 3) rfl (fun W => r_fieldAddr (o' := 2) Try.underlying28 rfl Try.sizeOf3 rfl (en rfl (en rfl (en rfl s4))) rfl) rfl (fun _ _ _ hh => by first | exact bodyR_np hh | exact bodyY_np hh | exact hh) ?_
      refine xp_load (i := 4) rfl (fun W hW => r_load hW 1 rfl Try.isAgg3 es gc2) rfl (fun _ _ _ hh => by first | exact bodyR_np hh | exact bodyY_np hh | exact hh) ?_
      refine xp_load (i := 5) rfl (fun W hW => r_loadAgg hW 1 rfl Try.isAgg28 Try.sizeOf28 (en rfl (en rfl (en rfl (en rfl (en rfl s4))))) (by exact Nat.le_refl _) (ext_full rfl)) rfl (fun _ _ _ hh => by first | exact bodyR_np hh | exact bodyY_np hh | exact hh) ?_
      refine xp_read (i := 6) rfl (fun W => r_func (.cons es .nil) .nil) rfl (fun _ _ _ hh => by first | exact bodyR_np hh | exact bodyY_np hh | exact hh) ?_
      refine xp_read (i := 8) rfl (fun W => r_move (en rfl (en rfl (en rfl (en rfl (en rfl (en rfl (en rfl s7)))))))) rfl (fun _ _ _ hh => by first | exact bodyR_np hh | exact bodyY_np hh | exact hh) ?_
      refine xp_read (i := 9) rfl (fun W => r_fieldAddr (o' := 1) Try.underlying28 rfl Try.sizeOf3 rfl (en rfl (en rfl (en rfl (en rfl (en rfl (en rfl (en rfl (en rfl s4)))))))) rfl) rfl (fun _ _ _ hh => by first | exact bodyR_np hh | exact bodyY_np hh | exact hh) ?_
      refine xp_load (i := 10) rfl (fun W hW => r_load hW 1 rfl Try.isAgg3 es gc1) rfl (fun _ _ _ hh => by first | exact bodyR_np hh | exact bodyY_np hh | exact hh) ?_
      refine xp_read (i := 11) rfl (fun W => r_fieldAddr (o' := 2) Try.underlying28 rfl Try.sizeOf3 rfl (en rfl (en rfl (en rfl (en rfl (en rfl (en rfl (en rfl (en rfl (en rfl (en rfl s4)))))))))) rfl) rfl (fun _ _ _ hh => by first | exact bodyR_np hh | exact bodyY_np hh | exact hh) ?_
      refine xp_load (i := 12) rfl (fun W hW => r_load hW 1 rfl Try.isAgg3 es gc2) rfl (fun _ _ _ hh => by first | exact bodyR_np hh | exact bodyY_np hh | exact hh) ?_
      refine xp_load (i := 13) rfl (fun W hW => r_loadAgg hW 0 rfl Try.isAgg28 Try.sizeOf28 (en rfl (en rfl (en rfl (en rfl (en rfl (en rfl (en rfl (en rfl (en rfl (en rfl (en rfl (en rfl s5)))))))))))) (by exact Nat.le_refl _) (ext_full rfl)) rfl (fun _ _ _ hh => by first | exact bodyR_np hh | exact bodyY_np hh | exact hh) ?_
      refine xp_read (i := 14) rfl (fun W => r_func (.cons es .nil) .nil) rfl (fun _ _ _ hh => by first | exact bodyR_np hh | exact bodyY_np hh | exact hh) ?_
      have h := h.f1
      refine xp_enter (i := 7) rfl (r_call Try.call17 (.cons (en rfl (en rfl (en rfl (en rfl (en rfl (en rfl (en rfl (en rfl (en rfl (en rfl (en rfl (en rfl (en rfl es))))))))))))) (.cons (en rfl (en rfl (en rfl (en rfl (en rfl (en rfl (en rfl (en rfl (en rfl (en rfl (en rfl es))))))))))) (.cons (en rfl (en rfl (en rfl (en rfl (en rfl (en rfl (en rfl (en rfl (en rfl es))))))))) (.cons (en rfl (en rfl (en rfl (en rfl (en rfl (en rfl (en rfl es))))))) .nil))))) rfl (map_yes (B' := 104 * (2 * n + 1)) (gg := ga) (ega ▸ mapped_fn) hp hins (by omega) (by omega) (by omega) h) ?_
      rintro _ w ⟨rfl, h⟩
      refine ⟨(fun _ => ((h.f0).drop.f0).drop), ?_⟩
      rw [← hms] at h
      refine xp_enter (i := 15) rfl (r_call Try.call17 (.cons (en rfl (en rfl (en rfl (en rfl (en rfl (en rfl (en rfl es))))))) (.cons (en rfl (en rfl (en rfl (en rfl (en rfl es))))) (.cons (en rfl (en rfl (en rfl es))) (.cons (en rfl es) .nil))))) rfl (map_yes (B' := 104 * (8 * n + 1)) (gg := gb) (egb ▸ mapped_fn) hp1 (by omega) (by omega) (by omega) (by omega) h) ?_
      rintro _ w ⟨rfl, h⟩
      refine ⟨(fun _ => ((h.f0).drop.f0).drop), ?_⟩
      refine xp_read (i := 16) rfl (fun W => r_assign (en rfl es)) rfl (fun _ _ _ hh => by first | exact bodyR_np hh | exact bodyY_np hh | exact hh) ?_
      refine xp_read (i := 17) rfl (fun W => r_assign (en rfl es)) rfl (fun _ _ _ hh => by first | exact bodyR_np hh | exact bodyY_np hh | exact hh) ?_
      refine xp_nil ?_
      refine hK15 _ _ ?_
      refine xc_gen (fun g hg => ?_)
      have s0 := (hg 0).trans (en rfl (en rfl (en rfl (en rfl (en rfl (en rfl (en rfl (en rfl (en rfl (en rfl (en rfl (en rfl (en rfl (en rfl (en rfl (en rfl (en rfl (en rfl s0))))))))))))))))))
      have s1 := (hg 1).trans (en rfl (en rfl (en rfl (en rfl (en rfl (en rfl (en rfl (en rfl (en rfl (en rfl (en rfl (en rfl (en rfl (en rfl (en rfl (en rfl (en rfl (en rfl s1))))))))))))))))))
      have s2 := (hg 2).trans (en rfl (en rfl (en rfl (en rfl (en rfl (en rfl (en rfl (en rfl (en rfl (en rfl (en rfl (en rfl (en rfl (en rfl (en rfl (en rfl (en rfl (en rfl s2))))))))))))))))))
      have s4 := (hg 4).trans (en rfl (en rfl (en rfl (en rfl (en rfl (en rfl (en rfl (en rfl (en rfl (en rfl (en rfl (en rfl (en rfl (en rfl (en rfl (en rfl (en rfl (en rfl s4))))))))))))))))))
      have s5 := (hg 5).trans (en rfl (en rfl (en rfl (en rfl (en rfl (en rfl (en rfl (en rfl (en rfl (en rfl (en rfl (en rfl (en rfl (en rfl (en rfl (en rfl (en rfl (en rfl s5))))))))))))))))))
      have s6 := (hg 6).trans (en rfl (en rfl (en rfl (en rfl (en rfl (en rfl (en rfl (en rfl (en rfl (en rfl (en rfl (en rfl (en rfl (en rfl (en rfl (en rfl (en rfl (en rfl s6))))))))))))))))))
      have s7 := (hg 7).trans (en rfl (en rfl (en rfl (en rfl (en rfl (en rfl (en rfl (en rfl (en rfl (en rfl (en rfl (en rfl (en rfl (en rfl (en rfl (en rfl (en rfl (en rfl s7))))))))))))))))))
      have s8 := (hg 8).trans (en rfl (en rfl (en rfl (en rfl (en rfl (en rfl (en rfl (en rfl (en rfl (en rfl (en rfl (en rfl (en rfl (en rfl (en rfl (en rfl (en rfl (en rfl s8))))))))))))))))))
      have s10 := (hg 10).trans (en rfl (en rfl (en rfl (en rfl (en rfl (en rfl (en rfl (en rfl (en rfl (en rfl (en rfl (en rfl (en rfl (en rfl (en rfl (en rfl (en rfl (en rfl s10))))))))))))))))))
      have s11 := (hg 11).trans (en rfl es)
      have s12 := (hg 12).trans es
      have s30 := (hg 30).trans (en rfl (en rfl (en rfl (en rfl (en rfl (en rfl (en rfl (en rfl (en rfl (en rfl (en rfl (en rfl (en rfl (en rfl (en rfl (en rfl (en rfl (en rfl s30))))))))))))))))))
      have s41 := (hg 41).trans (en rfl (en rfl (en rfl (en rfl (en rfl (en rfl (en rfl (en rfl (en rfl (en rfl (en rfl (en rfl (en rfl (en rfl (en rfl (en rfl (en rfl (en rfl s41))))))))))))))))))
      have s42 := (hg 42).trans (en rfl (en rfl (en rfl (en rfl (en rfl (en rfl (en rfl (en rfl (en rfl (en rfl (en rfl (en rfl (en rfl (en rfl (en rfl (en rfl (en rfl (en rfl s42))))))))))))))))))
      have s43 := (hg 43).trans (en rfl (en rfl (en rfl (en rfl (en rfl (en rfl (en rfl (en rfl (en rfl (en rfl (en rfl (en rfl (en rfl (en rfl (en rfl (en rfl (en rfl (en rfl s43))))))))))))))))))
      clear hg
      rcases Decidable.em (spliceE xs oa.i oa.j (mapPs ga xs oa.i oa.j) = 0) with he1 | he1
      ·
        skip
        rcases Decidable.em (spliceE ms oa.i oa.j (mapPs gb ms oa.i oa.j) = 0) with he2 | he2
        ·
          skip
          rcases Decidable.em (spliceE xs oa.i oa.j (mapPs (fun x => gb (ga x)) xs oa.i oa.j) = 0) with he3 | he3
          ·
            skip
            refine xc_seq (fun K hK16 => ?_)
            refine xc_seq (fun K hK17 => ?_)
            refine xc_region ?_
            refine x_val (r_move s11) (nd_of rfl) rfl ?_
            refine x_val (r_neq es ec (decide_eq_false (by exact fun hh => hh he1))) (nd_of rfl) rfl ?_
            refine x_val (r_move es) (nd_of rfl) rfl ?_
            refine x_take (d := 106) rfl rfl es ?_
            refine x_val (r_move (en rfl (en rfl (en rfl s12)))) (nd_of rfl) rfl ?_
            refine x_take (d := 106) rfl rfl (en rfl es) ?_
            refine x_val (r_neq es ec (decide_eq_false (by exact fun hh => hh he2))) (nd_of rfl) rfl ?_
            refine x_val (r_pick_f (en rfl (en rfl es)) es) (nd_of rfl) rfl ?_
            refine x_val (r_move es) (nd_of rfl) rfl ?_
            refine x_take (d := 110) rfl rfl es ?_
            refine x_val (r_move (en rfl (en rfl (en rfl (en rfl (en rfl (en rfl (en rfl s8)))))))) (nd_of rfl) rfl ?_
            refine x_take (d := 110) rfl rfl (en rfl es) ?_
            refine x_val (r_fieldAddr (o' := 1) Try.underlying28 rfl Try.sizeOf3 rfl (en rfl (en rfl (en rfl (en rfl (en rfl (en rfl (en rfl (en rfl s4)))))))) rfl) (nd_of rfl) rfl ?_
            refine x_take (d := 110) rfl rfl (en rfl (en rfl es)) ?_
            refine x_val (r_load h 3 rfl Try.isAgg3 es gc1) (nd_of rfl) rfl ?_
            refine x_take (d := 110) rfl rfl (en rfl (en rfl (en rfl es))) ?_
            refine x_val (r_fieldAddr (o' := 2) Try.underlying28 rfl Try.sizeOf3 rfl (en rfl (en rfl (en rfl (en rfl (en rfl (en rfl (en rfl (en rfl (en rfl (en rfl s4)))))))))) rfl) (nd_of rfl) rfl ?_
            refine x_take (d := 110) rfl rfl (en rfl (en rfl (en rfl (en rfl es)))) ?_
            refine x_val (r_load h 3 rfl Try.isAgg3 es gc2) (nd_of rfl) rfl ?_
            refine x_take (d := 110) rfl rfl (en rfl (en rfl (en rfl (en rfl (en rfl es))))) ?_
            refine x_val (r_move (en rfl (en rfl (en rfl (en rfl (en rfl (en rfl (en rfl (en rfl (en rfl (en rfl (en rfl (en rfl s10))))))))))))) (nd_of rfl) rfl ?_
            refine x_take (d := 110) rfl rfl (en rfl (en rfl (en rfl (en rfl (en rfl (en rfl es)))))) ?_
            have h := h.f1
            refine x_enter (r_call Try.call17 (.cons (en rfl (en rfl (en rfl (en rfl (en rfl es))))) (.cons (en rfl (en rfl (en rfl es))) (.cons (en rfl es) (.cons es .nil))))) (nd_of rfl) rfl (map_yes (B' := 104 * (2 * n + 1)) (gg := fun x => gb (ga x)) (by subst ega egb; exact (both_fn.swap).weak) hp hins (by omega) (by omega) (by omega) h) ?_
            rintro _ w ⟨rfl, h⟩
            refine x_take (d := 110) rfl rfl (en rfl (en rfl (en rfl (en rfl (en rfl (en rfl (en rfl es))))))) ?_
            refine x_val (r_neq es ec (decide_eq_false (by exact fun hh => hh he3))) (nd_of rfl) rfl ?_
            rw [← map_twice hinv.canon hms he1 he2 he3] at h
            obtain ⟨zs, hzs⟩ : ∃ zs, zs = spliceS ms oa.i oa.j (mapPs gb ms oa.i oa.j) := ⟨_, rfl⟩
            have hzz : sz zs = sz xs := by rw [hzs, sz_map hp1, hz1]
            rw [← hzs] at h
            refine x_val (r_pick_f (en rfl (en rfl (en rfl (en rfl (en rfl (en rfl (en rfl (en rfl es)))))))) es) (nd_of rfl) rfl ?_
            refine xw_nil ?_
            refine hK17 _ _ ?_
            refine xc_gen (fun g hg => ?_)
            have s0 := (hg 0).trans (en rfl (en rfl (en rfl (en rfl (en rfl (en rfl (en rfl (en rfl (en rfl (en rfl (en rfl (en rfl (en rfl (en rfl (en rfl (en rfl s0))))))))))))))))
            have s1 := (hg 1).trans (en rfl (en rfl (en rfl (en rfl (en rfl (en rfl (en rfl (en rfl (en rfl (en rfl (en rfl (en rfl (en rfl (en rfl (en rfl (en rfl s1))))))))))))))))
            have s2 := (hg 2).trans (en rfl (en rfl (en rfl (en rfl (en rfl (en rfl (en rfl (en rfl (en rfl (en rfl (en rfl (en rfl (en rfl (en rfl (en rfl (en rfl s2))))))))))))))))
            have s4 := (hg 4).trans (en rfl (en rfl (en rfl (en rfl (en rfl (en rfl (en rfl (en rfl (en rfl (en rfl (en rfl (en rfl (en rfl (en rfl (en rfl (en rfl s4))))))))))))))))
            have s5 := (hg 5).trans (en rfl (en rfl (en rfl (en rfl (en rfl (en rfl (en rfl (en rfl (en rfl (en rfl (en rfl (en rfl (en rfl (en rfl (en rfl (en rfl s5))))))))))))))))
            have s6 := (hg 6).trans (en rfl (en rfl (en rfl (en rfl (en rfl (en rfl (en rfl (en rfl (en rfl (en rfl (en rfl (en rfl (en rfl (en rfl (en rfl (en rfl s6))))))))))))))))
            have s7 := (hg 7).trans (en rfl (en rfl (en rfl (en rfl (en rfl (en rfl (en rfl (en rfl (en rfl (en rfl (en rfl (en rfl (en rfl (en rfl (en rfl (en rfl s7))))))))))))))))
            have s8 := (hg 8).trans (en rfl (en rfl (en rfl (en rfl (en rfl (en rfl (en rfl (en rfl (en rfl (en rfl (en rfl (en rfl (en rfl (en rfl (en rfl (en rfl s8))))))))))))))))
            have s10 := (hg 10).trans (en rfl (en rfl (en rfl (en rfl (en rfl (en rfl (en rfl (en rfl (en rfl (en rfl (en rfl (en rfl (en rfl (en rfl (en rfl (en rfl s10))))))))))))))))
            have s11 := (hg 11).trans (en rfl (en rfl (en rfl (en rfl (en rfl (en rfl (en rfl (en rfl (en rfl (en rfl (en rfl (en rfl (en rfl (en rfl (en rfl (en rfl s11))))))))))))))))
            have s12 := (hg 12).trans (en rfl (en rfl (en rfl (en rfl (en rfl (en rfl (en rfl (en rfl (en rfl (en rfl (en rfl (en rfl (en rfl (en rfl (en rfl (en rfl s12))))))))))))))))
            have s30 := (hg 30).trans (en rfl (en rfl (en rfl (en rfl (en rfl (en rfl (en rfl (en rfl (en rfl (en rfl (en rfl (en rfl (en rfl (en rfl (en rfl (en rfl s30))))))))))))))))
            have s41 := (hg 41).trans (en rfl (en rfl (en rfl (en rfl (en rfl (en rfl (en rfl (en rfl (en rfl (en rfl (en rfl (en rfl (en rfl (en rfl (en rfl (en rfl s41))))))))))))))))
            have s42 := (hg 42).trans (en rfl (en rfl (en rfl (en rfl (en rfl (en rfl (en rfl (en rfl (en rfl (en rfl (en rfl (en rfl (en rfl (en rfl (en rfl (en rfl s42))))))))))))))))
            have s43 := (hg 43).trans (en rfl (en rfl (en rfl (en rfl (en rfl (en rfl (en rfl (en rfl (en rfl (en rfl (en rfl (en rfl (en rfl (en rfl (en rfl (en rfl s43))))))))))))))))
            have s119 := (hg 119).trans es
            clear hg
            refine xc_cond s119 (fun hc => by cases hc) (fun _ => ?_)
            refine xc_skip ?_
            refine hK16 _ _ ?_
            refine xc_seq (fun K hK18 => ?_)
            refine xc_seq (fun K hK19 => ?_)
            refine xc_region ?_
            refine x_val (r_move s7) (nd_of rfl) rfl ?_
            have h := h.f1
            refine x_enter (r_call Try.call14 (.cons es .nil)) (nd_of rfl) rfl (len_o h) ?_
            rintro _ w ⟨rfl, h⟩
            refine x_val (r_move (en rfl (en rfl s8))) (nd_of rfl) rfl ?_
            have h := h.f1
            refine x_enter (r_call Try.call14 (.cons es .nil)) (nd_of rfl) rfl (len_o h) ?_
            rintro _ w ⟨rfl, h⟩
            refine x_val (r_neq (en rfl (en rfl es)) es (decide_eq_false (by simp))) (nd_of rfl) rfl ?_
            refine x_val (r_move es) (nd_of rfl) rfl ?_
            refine x_take (d := 126) rfl rfl es ?_
            refine x_val (r_move (en rfl (en rfl (en rfl (en rfl (en rfl (en rfl s7))))))) (nd_of rfl) rfl ?_
            refine x_take (d := 126) rfl rfl (en rfl es) ?_
            have h := h.f1
            refine x_enter (r_call Try.call18 (.cons es .nil)) (nd_of rfl) rfl (count_o (by omega) h) ?_
            rintro _ w ⟨rfl, h⟩
            refine x_take (d := 126) rfl rfl (en rfl (en rfl es)) ?_
            refine x_val (r_move (en rfl (en rfl (en rfl (en rfl (en rfl (en rfl (en rfl (en rfl s8))))))))) (nd_of rfl) rfl ?_
            refine x_take (d := 126) rfl rfl (en rfl (en rfl (en rfl es))) ?_
            have h := h.f1
            refine x_enter (r_call Try.call18 (.cons es .nil)) (nd_of rfl) rfl (count_o (by omega) h) ?_
            rintro _ w ⟨rfl, h⟩
            refine x_take (d := 126) rfl rfl (en rfl (en rfl (en rfl (en rfl es)))) ?_
            refine x_val (r_neq (en rfl (en rfl es)) es (decide_eq_false (by simp))) (nd_of rfl) rfl ?_
            refine x_val (r_pick_f (en rfl (en rfl (en rfl (en rfl (en rfl es))))) es) (nd_of rfl) rfl ?_
            refine xw_nil ?_
            refine hK19 _ _ ?_
            refine xc_gen (fun g hg => ?_)
            have s0 := (hg 0).trans (en rfl (en rfl (en rfl (en rfl (en rfl (en rfl (en rfl (en rfl (en rfl (en rfl (en rfl (en rfl s0))))))))))))
            have s1 := (hg 1).trans (en rfl (en rfl (en rfl (en rfl (en rfl (en rfl (en rfl (en rfl (en rfl (en rfl (en rfl (en rfl s1))))))))))))
            have s2 := (hg 2).trans (en rfl (en rfl (en rfl (en rfl (en rfl (en rfl (en rfl (en rfl (en rfl (en rfl (en rfl (en rfl s2))))))))))))
            have s4 := (hg 4).trans (en rfl (en rfl (en rfl (en rfl (en rfl (en rfl (en rfl (en rfl (en rfl (en rfl (en rfl (en rfl s4))))))))))))
            have s5 := (hg 5).trans (en rfl (en rfl (en rfl (en rfl (en rfl (en rfl (en rfl (en rfl (en rfl (en rfl (en rfl (en rfl s5))))))))))))
            have s6 := (hg 6).trans (en rfl (en rfl (en rfl (en rfl (en rfl (en rfl (en rfl (en rfl (en rfl (en rfl (en rfl (en rfl s6))))))))))))
            have s7 := (hg 7).trans (en rfl (en rfl (en rfl (en rfl (en rfl (en rfl (en rfl (en rfl (en rfl (en rfl (en rfl (en rfl s7))))))))))))
            have s8 := (hg 8).trans (en rfl (en rfl (en rfl (en rfl (en rfl (en rfl (en rfl (en rfl (en rfl (en rfl (en rfl (en rfl s8))))))))))))
            have s10 := (hg 10).trans (en rfl (en rfl (en rfl (en rfl (en rfl (en rfl (en rfl (en rfl (en rfl (en rfl (en rfl (en rfl s10))))))))))))
            have s11 := (hg 11).trans (en rfl (en rfl (en rfl (en rfl (en rfl (en rfl (en rfl (en rfl (en rfl (en rfl (en rfl (en rfl s11))))))))))))
            have s12 := (hg 12).trans (en rfl (en rfl (en rfl (en rfl (en rfl (en rfl (en rfl (en rfl (en rfl (en rfl (en rfl (en rfl s12))))))))))))
            have s30 := (hg 30).trans (en rfl (en rfl (en rfl (en rfl (en rfl (en rfl (en rfl (en rfl (en rfl (en rfl (en rfl (en rfl s30))))))))))))
            have s41 := (hg 41).trans (en rfl (en rfl (en rfl (en rfl (en rfl (en rfl (en rfl (en rfl (en rfl (en rfl (en rfl (en rfl s41))))))))))))
            have s42 := (hg 42).trans (en rfl (en rfl (en rfl (en rfl (en rfl (en rfl (en rfl (en rfl (en rfl (en rfl (en rfl (en rfl s42))))))))))))
            have s43 := (hg 43).trans (en rfl (en rfl (en rfl (en rfl (en rfl (en rfl (en rfl (en rfl (en rfl (en rfl (en rfl (en rfl s43))))))))))))
            have s119 := (hg 119).trans (en rfl (en rfl (en rfl (en rfl (en rfl (en rfl (en rfl (en rfl (en rfl (en rfl (en rfl (en rfl s119))))))))))))
            have s132 := (hg 132).trans es
            clear hg
            refine xc_cond s132 (fun hc => by cases hc) (fun _ => ?_)
            refine xc_skip ?_
            refine hK18 _ _ ?_
            refine xc_seq (fun K hK20 => ?_)
            refine xc_seq (fun K hK21 => ?_)
            refine xc_region ?_
            refine x_val (r_move s7) (nd_of rfl) rfl ?_
            have h := h.f1
            refine x_enter (r_call Try.call14 (.cons es .nil)) (nd_of rfl) rfl (len_o h) ?_
            rintro _ w ⟨rfl, h⟩
            refine x_val (r_min es ec (show _ = (((min (sz zs) 2000 : Nat) : Int) : Int) from by split <;> omega)) (nd_of rfl) rfl ?_
            refine x_val (r_move ec) (nd_of rfl) rfl ?_
            refine xw_nil ?_
            refine hK21 _ _ ?_
            refine xc_gen (fun g hg => ?_)
            have s0 := (hg 0).trans (en rfl (en rfl (en rfl (en rfl s0))))
            have s1 := (hg 1).trans (en rfl (en rfl (en rfl (en rfl s1))))
            have s2 := (hg 2).trans (en rfl (en rfl (en rfl (en rfl s2))))
            have s4 := (hg 4).trans (en rfl (en rfl (en rfl (en rfl s4))))
            have s5 := (hg 5).trans (en rfl (en rfl (en rfl (en rfl s5))))
            have s6 := (hg 6).trans (en rfl (en rfl (en rfl (en rfl s6))))
            have s7 := (hg 7).trans (en rfl (en rfl (en rfl (en rfl s7))))
            have s8 := (hg 8).trans (en rfl (en rfl (en rfl (en rfl s8))))
            have s10 := (hg 10).trans (en rfl (en rfl (en rfl (en rfl s10))))
            have s11 := (hg 11).trans (en rfl (en rfl (en rfl (en rfl s11))))
            have s12 := (hg 12).trans (en rfl (en rfl (en rfl (en rfl s12))))
            have s30 := (hg 30).trans (en rfl (en rfl (en rfl (en rfl s30))))
            have s41 := (hg 41).trans (en rfl (en rfl (en rfl (en rfl s41))))
            have s42 := (hg 42).trans (en rfl (en rfl (en rfl (en rfl s42))))
            have s43 := (hg 43).trans (en rfl (en rfl (en rfl (en rfl s43))))
            have s119 := (hg 119).trans (en rfl (en rfl (en rfl (en rfl s119))))
            have s132 := (hg 132).trans (en rfl (en rfl (en rfl (en rfl s132))))
            have s135 := (hg 135).trans (en rfl es)
            have s136 := (hg 136).trans es
            clear hg
            refine xc_block ?_
            obtain ⟨G22, hG22⟩ : ∃ g0 : Nat → Value, g0 = g := ⟨_, rfl⟩
            have zG22_0 : G22 0 = _ := (congrFun hG22 0).trans s0
            have zG22_1 : G22 1 = _ := (congrFun hG22 1).trans s1
            have zG22_2 : G22 2 = _ := (congrFun hG22 2).trans s2
            have zG22_4 : G22 4 = _ := (congrFun hG22 4).trans s4
            have zG22_5 : G22 5 = _ := (congrFun hG22 5).trans s5
            have zG22_7 : G22 7 = _ := (congrFun hG22 7).trans s7
            have zG22_8 : G22 8 = _ := (congrFun hG22 8).trans s8
            have zG22_10 : G22 10 = _ := (congrFun hG22 10).trans s10
            have zG22_11 : G22 11 = _ := (congrFun hG22 11).trans s11
            have zG22_12 : G22 12 = _ := (congrFun hG22 12).trans s12
            have zG22_30 : G22 30 = _ := (congrFun hG22 30).trans s30
            have zG22_41 : G22 41 = _ := (congrFun hG22 41).trans s41
            have zG22_42 : G22 42 = _ := (congrFun hG22 42).trans s42
            have zG22_43 : G22 43 = _ := (congrFun hG22 43).trans s43
            have zG22_119 : G22 119 = _ := (congrFun hG22 119).trans s119
            have zG22_132 : G22 132 = _ := (congrFun hG22 132).trans s132
            have zG22_135 : G22 135 = _ := (congrFun hG22 135).trans s135
            refine xc_loop (fun m f w => (∃ k : Nat, m = min (sz zs) 2000 - k ∧ k ≤ min (sz zs) 2000 ∧ f 136 = .int .i64 (k : Int) ∧ SatL E w (ObjO b zs (104 * (8 * n + 1)) :: ObjO q zs (104 * (2 * n + 1)) :: Cells b5 #[.int .i64 ob.kind, .int .i64 ob.i, .int .i64 ob.j, .slice bl ob.ls.length dl, .int .i64 ob.by_, .int .i64 ob.plus] 28 :: Cells b4 #[.int .i64 oa.kind, .int .i64 oa.i, .int .i64 oa.j, .slice al oa.ls.length cl, .int .i64 oa.by_, .int .i64 oa.plus] 28 :: Old W :: R)) ∧ (f 0 = G22 0 ∧ f 1 = G22 1 ∧ f 2 = G22 2 ∧ f 4 = G22 4 ∧ f 5 = G22 5 ∧ f 7 = G22 7 ∧ f 8 = G22 8 ∧ f 10 = G22 10 ∧ f 11 = G22 11 ∧ f 12 = G22 12 ∧ f 30 = G22 30 ∧ f 41 = G22 41 ∧ f 42 = G22 42 ∧ f 43 = G22 43 ∧ f 119 = G22 119 ∧ f 132 = G22 132 ∧ f 135 = G22 135)) (min (sz zs) 2000) ⟨⟨0, by omega, by omega, s136, h⟩, ⟨congrFun hG22.symm 0, congrFun hG22.symm 1, congrFun hG22.symm 2, congrFun hG22.symm 4, congrFun hG22.symm 5, congrFun hG22.symm 7, congrFun hG22.symm 8, congrFun hG22.symm 10, congrFun hG22.symm 11, congrFun hG22.symm 12, congrFun hG22.symm 30, congrFun hG22.symm 41, congrFun hG22.symm 42, congrFun hG22.symm 43, congrFun hG22.symm 119, congrFun hG22.symm 132, congrFun hG22.symm 135⟩⟩ ?_
            rintro m g w ⟨⟨k, hm, hk, s136, h⟩, ⟨y0, y1, y2, y4, y5, y7, y8, y10, y11, y12, y30, y41, y42, y43, y119, y132, y135⟩⟩
            have s0 := y0.trans zG22_0
            have s1 := y1.trans zG22_1
            have s2 := y2.trans zG22_2
            have s4 := y4.trans zG22_4
            have s5 := y5.trans zG22_5
            have s7 := y7.trans zG22_7
            have s8 := y8.trans zG22_8
            have s10 := y10.trans zG22_10
            have s11 := y11.trans zG22_11
            have s12 := y12.trans zG22_12
            have s30 := y30.trans zG22_30
            have s41 := y41.trans zG22_41
            have s42 := y42.trans zG22_42
            have s43 := y43.trans zG22_43
            have s119 := y119.trans zG22_119
            have s132 := y132.trans zG22_132
            have s135 := y135.trans zG22_135
            refine xc_seq (fun K hK23 => ?_)
            refine xc_region ?_
            refine x_val (r_lss s136 s135 rfl) (nd_of rfl) rfl ?_
            refine xw_nil ?_
            refine hK23 _ _ ?_
            refine xc_gen (fun g hg => ?_)
            have s0 := (hg 0).trans (en rfl s0)
            have s1 := (hg 1).trans (en rfl s1)
            have s2 := (hg 2).trans (en rfl s2)
            have s4 := (hg 4).trans (en rfl s4)
            have s5 := (hg 5).trans (en rfl s5)
            have s7 := (hg 7).trans (en rfl s7)
            have s8 := (hg 8).trans (en rfl s8)
            have s10 := (hg 10).trans (en rfl s10)
            have s11 := (hg 11).trans (en rfl s11)
            have s12 := (hg 12).trans (en rfl s12)
            have s30 := (hg 30).trans (en rfl s30)
            have s41 := (hg 41).trans (en rfl s41)
            have s42 := (hg 42).trans (en rfl s42)
            have s43 := (hg 43).trans (en rfl s43)
            have s119 := (hg 119).trans (en rfl s119)
            have s132 := (hg 132).trans (en rfl s132)
            have s135 := (hg 135).trans (en rfl s135)
            have s136 := (hg 136).trans (en rfl s136)
            have s137 := (hg 137).trans es
            clear hg
            refine xc_seq (fun K hK24 => ?_)
            refine xc_cond s137 (fun hc => ?_) (fun hc => ?_)
            ·
              refine xc_skip ?_
              refine hK24 _ _ ?_
              refine xc_seq (fun K hK25 => ?_)
              refine xc_block ?_
              refine xc_seq (fun K hK26 => ?_)
              have hki : k < min (sz zs) 2000 := by have := of_decide_eq_true hc; omega
              have hil := ids_len zs
              obtain ⟨iv, hiv⟩ : ∃ iv, (ids zs)[k]? = some iv := ⟨_, List.getElem?_eq_getElem (by omega)⟩
              refine xc_region ?_
              refine x_val (r_move s136) (nd_of rfl) rfl ?_
              refine x_val (r_assign es) (nd_of rfl) rfl ?_
              refine xw_nil ?_
              refine hK26 _ _ ?_
              refine xc_gen (fun g hg => ?_)
              have s0 := (hg 0).trans (en rfl (en rfl s0))
              have s1 := (hg 1).trans (en rfl (en rfl s1))
              have s2 := (hg 2).trans (en rfl (en rfl s2))
              have s4 := (hg 4).trans (en rfl (en rfl s4))
              have s5 := (hg 5).trans (en rfl (en rfl s5))
              have s7 := (hg 7).trans (en rfl (en rfl s7))
              have s8 := (hg 8).trans (en rfl (en rfl s8))
              have s10 := (hg 10).trans (en rfl (en rfl s10))
              have s11 := (hg 11).trans (en rfl (en rfl s11))
              have s12 := (hg 12).trans (en rfl (en rfl s12))
              have s13 := (hg 13).trans es
              have s30 := (hg 30).trans (en rfl (en rfl s30))
              have s41 := (hg 41).trans (en rfl (en rfl s41))
              have s42 := (hg 42).trans (en rfl (en rfl s42))
              have s43 := (hg 43).trans (en rfl (en rfl s43))
              have s119 := (hg 119).trans (en rfl (en rfl s119))
              have s132 := (hg 132).trans (en rfl (en rfl s132))
              have s135 := (hg 135).trans (en rfl (en rfl s135))
              have s136 := (hg 136).trans (en rfl (en rfl s136))
              have s137 := (hg 137).trans (en rfl (en rfl s137))
              clear hg
              refine xc_seq (fun K hK27 => ?_)
              refine xc_region ?_
              refine x_val (r_move s7) (nd_of rfl) rfl ?_
              refine x_val (r_move (en rfl s13)) (nd_of rfl) rfl ?_
              refine x_enter (r_call Try.call12 (.cons (en rfl es) (.cons es .nil))) (nd_of rfl) rfl (sat_eq (at_ids hiv) (by unfold I64; omega) h) ?_
              rintro _ w ⟨rfl, h⟩
              refine x_val (r_move es) (nd_of rfl) rfl ?_
              refine x_val (r_extract es gc0) (nd_of rfl) rfl ?_
              refine x_val (r_extract (en rfl es) gc1) (nd_of rfl) rfl ?_
              refine x_val (r_assign (en rfl es)) (nd_of rfl) rfl ?_
              refine x_val (r_assign (en rfl es)) (nd_of rfl) rfl ?_
              refine xw_nil ?_
              refine hK27 _ _ ?_
              refine xc_gen (fun g hg => ?_)
              have s0 := (hg 0).trans (en rfl (en rfl (en rfl (en rfl (en rfl (en rfl (en rfl (en rfl s0))))))))
              have s1 := (hg 1).trans (en rfl (en rfl (en rfl (en rfl (en rfl (en rfl (en rfl (en rfl s1))))))))
              have s2 := (hg 2).trans (en rfl (en rfl (en rfl (en rfl (en rfl (en rfl (en rfl (en rfl s2))))))))
              have s4 := (hg 4).trans (en rfl (en rfl (en rfl (en rfl (en rfl (en rfl (en rfl (en rfl s4))))))))
              have s5 := (hg 5).trans (en rfl (en rfl (en rfl (en rfl (en rfl (en rfl (en rfl (en rfl s5))))))))
              have s7 := (hg 7).trans (en rfl (en rfl (en rfl (en rfl (en rfl (en rfl (en rfl (en rfl s7))))))))
              have s8 := (hg 8).trans (en rfl (en rfl (en rfl (en rfl (en rfl (en rfl (en rfl (en rfl s8))))))))
              have s10 := (hg 10).trans (en rfl (en rfl (en rfl (en rfl (en rfl (en rfl (en rfl (en rfl s10))))))))
              have s11 := (hg 11).trans (en rfl (en rfl (en rfl (en rfl (en rfl (en rfl (en rfl (en rfl s11))))))))
              have s12 := (hg 12).trans (en rfl (en rfl (en rfl (en rfl (en rfl (en rfl (en rfl (en rfl s12))))))))
              have s13 := (hg 13).trans (en rfl (en rfl (en rfl (en rfl (en rfl (en rfl (en rfl (en rfl s13))))))))
              have s14 := (hg 14).trans (en rfl es)
              have s15 := (hg 15).trans es
              have s30 := (hg 30).trans (en rfl (en rfl (en rfl (en rfl (en rfl (en rfl (en rfl (en rfl s30))))))))
              have s41 := (hg 41).trans (en rfl (en rfl (en rfl (en rfl (en rfl (en rfl (en rfl (en rfl s41))))))))
              have s42 := (hg 42).trans (en rfl (en rfl (en rfl (en rfl (en rfl (en rfl (en rfl (en rfl s42))))))))
              have s43 := (hg 43).trans (en rfl (en rfl (en rfl (en rfl (en rfl (en rfl (en rfl (en rfl s43))))))))
              have s119 := (hg 119).trans (en rfl (en rfl (en rfl (en rfl (en rfl (en rfl (en rfl (en rfl s119))))))))
              have s132 := (hg 132).trans (en rfl (en rfl (en rfl (en rfl (en rfl (en rfl (en rfl (en rfl s132))))))))
              have s135 := (hg 135).trans (en rfl (en rfl (en rfl (en rfl (en rfl (en rfl (en rfl (en rfl s135))))))))
              have s136 := (hg 136).trans (en rfl (en rfl (en rfl (en rfl (en rfl (en rfl (en rfl (en rfl s136))))))))
              have s137 := (hg 137).trans (en rfl (en rfl (en rfl (en rfl (en rfl (en rfl (en rfl (en rfl s137))))))))
              clear hg
              refine xc_seq (fun K hK28 => ?_)
              refine xc_region ?_
              refine x_val (r_move s8) (nd_of rfl) rfl ?_
              refine x_val (r_move (en rfl s13)) (nd_of rfl) rfl ?_
              have h := h.f1
              refine x_enter (r_call Try.call12 (.cons (en rfl es) (.cons es .nil))) (nd_of rfl) rfl (sat_eq (at_ids hiv) (by unfold I64; omega) h) ?_
              rintro _ w ⟨rfl, h⟩
              refine x_val (r_move es) (nd_of rfl) rfl ?_
              refine x_val (r_extract es gc0) (nd_of rfl) rfl ?_
              refine x_val (r_extract (en rfl es) gc1) (nd_of rfl) rfl ?_
              refine x_val (r_assign (en rfl es)) (nd_of rfl) rfl ?_
              refine x_val (r_assign (en rfl es)) (nd_of rfl) rfl ?_
              refine xw_nil ?_
              refine hK28 _ _ ?_
              refine xc_gen (fun g hg => ?_)
              have s0 := (hg 0).trans (en rfl (en rfl (en rfl (en rfl (en rfl (en rfl (en rfl (en rfl s0))))))))
              have s1 := (hg 1).trans (en rfl (en rfl (en rfl (en rfl (en rfl (en rfl (en rfl (en rfl s1))))))))
              have s2 := (hg 2).trans (en rfl (en rfl (en rfl (en rfl (en rfl (en rfl (en rfl (en rfl s2))))))))
              have s4 := (hg 4).trans (en rfl (en rfl (en rfl (en rfl (en rfl (en rfl (en rfl (en rfl s4))))))))
              have s5 := (hg 5).trans (en rfl (en rfl (en rfl (en rfl (en rfl (en rfl (en rfl (en rfl s5))))))))
              have s7 := (hg 7).trans (en rfl (en rfl (en rfl (en rfl (en rfl (en rfl (en rfl (en rfl s7))))))))
              have s8 := (hg 8).trans (en rfl (en rfl (en rfl (en rfl (en rfl (en rfl (en rfl (en rfl s8))))))))
              have s10 := (hg 10).trans (en rfl (en rfl (en rfl (en rfl (en rfl (en rfl (en rfl (en rfl s10))))))))
              have s11 := (hg 11).trans (en rfl (en rfl (en rfl (en rfl (en rfl (en rfl (en rfl (en rfl s11))))))))
              have s12 := (hg 12).trans (en rfl (en rfl (en rfl (en rfl (en rfl (en rfl (en rfl (en rfl s12))))))))
              have s13 := (hg 13).trans (en rfl (en rfl (en rfl (en rfl (en rfl (en rfl (en rfl (en rfl s13))))))))
              have s14 := (hg 14).trans (en rfl (en rfl (en rfl (en rfl (en rfl (en rfl (en rfl (en rfl s14))))))))
              have s15 := (hg 15).trans (en rfl (en rfl (en rfl (en rfl (en rfl (en rfl (en rfl (en rfl s15))))))))
              have s16 := (hg 16).trans (en rfl es)
              have s17 := (hg 17).trans es
              have s30 := (hg 30).trans (en rfl (en rfl (en rfl (en rfl (en rfl (en rfl (en rfl (en rfl s30))))))))
              have s41 := (hg 41).trans (en rfl (en rfl (en rfl (en rfl (en rfl (en rfl (en rfl (en rfl s41))))))))
              have s42 := (hg 42).trans (en rfl (en rfl (en rfl (en rfl (en rfl (en rfl (en rfl (en rfl s42))))))))
              have s43 := (hg 43).trans (en rfl (en rfl (en rfl (en rfl (en rfl (en rfl (en rfl (en rfl s43))))))))
              have s119 := (hg 119).trans (en rfl (en rfl (en rfl (en rfl (en rfl (en rfl (en rfl (en rfl s119))))))))
              have s132 := (hg 132).trans (en rfl (en rfl (en rfl (en rfl (en rfl (en rfl (en rfl (en rfl s132))))))))
              have s135 := (hg 135).trans (en rfl (en rfl (en rfl (en rfl (en rfl (en rfl (en rfl (en rfl s135))))))))
              have s136 := (hg 136).trans (en rfl (en rfl (en rfl (en rfl (en rfl (en rfl (en rfl (en rfl s136))))))))
              have s137 := (hg 137).trans (en rfl (en rfl (en rfl (en rfl (en rfl (en rfl (en rfl (en rfl s137))))))))
              clear hg
              refine xc_seq (fun K hK29 => ?_)
              refine xc_region ?_
              refine x_val (r_move s15) (nd_of rfl) rfl ?_
              refine x_val (r_neq es ec (r := false) rfl) (nd_of rfl) rfl ?_
              refine x_val (r_move es) (nd_of rfl) rfl ?_
              refine x_take (d := 153) rfl rfl es ?_
              refine x_val (r_move (en rfl (en rfl (en rfl s17)))) (nd_of rfl) rfl ?_
              refine x_take (d := 153) rfl rfl (en rfl es) ?_
              refine x_val (r_neq es ec (r := false) rfl) (nd_of rfl) rfl ?_
              refine x_val (r_pick_f (en rfl (en rfl es)) es) (nd_of rfl) rfl ?_
              refine x_val (r_move es) (nd_of rfl) rfl ?_
              refine x_take (d := 157) rfl rfl es ?_
              refine x_val (r_move (en rfl (en rfl (en rfl (en rfl (en rfl (en rfl (en rfl s14)))))))) (nd_of rfl) rfl ?_
              refine x_take (d := 157) rfl rfl (en rfl es) ?_
              refine x_val (r_move (en rfl (en rfl (en rfl (en rfl (en rfl (en rfl (en rfl (en rfl s16))))))))) (nd_of rfl) rfl ?_
              refine x_take (d := 157) rfl rfl (en rfl (en rfl es)) ?_
              refine x_val (r_neq (en rfl es) es (decide_eq_false (by simp))) (nd_of rfl) rfl ?_
              refine x_val (r_pick_f (en rfl (en rfl (en rfl es))) es) (nd_of rfl) rfl ?_
              refine xw_nil ?_
              refine hK29 _ _ ?_
              refine xc_gen (fun g hg => ?_)
              have s0 := (hg 0).trans (en rfl (en rfl (en rfl (en rfl (en rfl (en rfl (en rfl (en rfl (en rfl (en rfl (en rfl s0)))))))))))
              have s1 := (hg 1).trans (en rfl (en rfl (en rfl (en rfl (en rfl (en rfl (en rfl (en rfl (en rfl (en rfl (en rfl s1)))))))))))
              have s2 := (hg 2).trans (en rfl (en rfl (en rfl (en rfl (en rfl (en rfl (en rfl (en rfl (en rfl (en rfl (en rfl s2)))))))))))
              have s4 := (hg 4).trans (en rfl (en rfl (en rfl (en rfl (en rfl (en rfl (en rfl (en rfl (en rfl (en rfl (en rfl s4)))))))))))
              have s5 := (hg 5).trans (en rfl (en rfl (en rfl (en rfl (en rfl (en rfl (en rfl (en rfl (en rfl (en rfl (en rfl s5)))))))))))
              have s7 := (hg 7).trans (en rfl (en rfl (en rfl (en rfl (en rfl (en rfl (en rfl (en rfl (en rfl (en rfl (en rfl s7)))))))))))
              have s8 := (hg 8).trans (en rfl (en rfl (en rfl (en rfl (en rfl (en rfl (en rfl (en rfl (en rfl (en rfl (en rfl s8)))))))))))
              have s10 := (hg 10).trans (en rfl (en rfl (en rfl (en rfl (en rfl (en rfl (en rfl (en rfl (en rfl (en rfl (en rfl s10)))))))))))
              have s11 := (hg 11).trans (en rfl (en rfl (en rfl (en rfl (en rfl (en rfl (en rfl (en rfl (en rfl (en rfl (en rfl s11)))))))))))
              have s12 := (hg 12).trans (en rfl (en rfl (en rfl (en rfl (en rfl (en rfl (en rfl (en rfl (en rfl (en rfl (en rfl s12)))))))))))
              have s13 := (hg 13).trans (en rfl (en rfl (en rfl (en rfl (en rfl (en rfl (en rfl (en rfl (en rfl (en rfl (en rfl s13)))))))))))
              have s14 := (hg 14).trans (en rfl (en rfl (en rfl (en rfl (en rfl (en rfl (en rfl (en rfl (en rfl (en rfl (en rfl s14)))))))))))
              have s15 := (hg 15).trans (en rfl (en rfl (en rfl (en rfl (en rfl (en rfl (en rfl (en rfl (en rfl (en rfl (en rfl s15)))))))))))
              have s16 := (hg 16).trans (en rfl (en rfl (en rfl (en rfl (en rfl (en rfl (en rfl (en rfl (en rfl (en rfl (en rfl s16)))))))))))
              have s17 := (hg 17).trans (en rfl (en rfl (en rfl (en rfl (en rfl (en rfl (en rfl (en rfl (en rfl (en rfl (en rfl s17)))))))))))
              have s30 := (hg 30).trans (en rfl (en rfl (en rfl (en rfl (en rfl (en rfl (en rfl (en rfl (en rfl (en rfl (en rfl s30)))))))))))
              have s41 := (hg 41).trans (en rfl (en rfl (en rfl (en rfl (en rfl (en rfl (en rfl (en rfl (en rfl (en rfl (en rfl s41)))))))))))
              have s42 := (hg 42).trans (en rfl (en rfl (en rfl (en rfl (en rfl (en rfl (en rfl (en rfl (en rfl (en rfl (en rfl s42)))))))))))
              have s43 := (hg 43).trans (en rfl (en rfl (en rfl (en rfl (en rfl (en rfl (en rfl (en rfl (en rfl (en rfl (en rfl s43)))))))))))
              have s119 := (hg 119).trans (en rfl (en rfl (en rfl (en rfl (en rfl (en rfl (en rfl (en rfl (en rfl (en rfl (en rfl s119)))))))))))
              have s132 := (hg 132).trans (en rfl (en rfl (en rfl (en rfl (en rfl (en rfl (en rfl (en rfl (en rfl (en rfl (en rfl s132)))))))))))
              have s135 := (hg 135).trans (en rfl (en rfl (en rfl (en rfl (en rfl (en rfl (en rfl (en rfl (en rfl (en rfl (en rfl s135)))))))))))
              have s136 := (hg 136).trans (en rfl (en rfl (en rfl (en rfl (en rfl (en rfl (en rfl (en rfl (en rfl (en rfl (en rfl s136)))))))))))
              have s137 := (hg 137).trans (en rfl (en rfl (en rfl (en rfl (en rfl (en rfl (en rfl (en rfl (en rfl (en rfl (en rfl s137)))))))))))
              have s161 := (hg 161).trans es
              clear hg
              refine xc_cond s161 (fun hc => by cases hc) (fun _ => ?_)
              refine xc_skip ?_
              refine hK25 _ _ ?_
              refine xc_region ?_
              refine x_val (r_add s136 ec (show _ = (((k + 1 : Nat) : Int) : Int) from by omega) (by unfold I64; omega)) (nd_of rfl) rfl ?_
              refine x_val (r_move es) (nd_of rfl) rfl ?_
              refine xw_nil ?_
              have h := h.f1
              exact ⟨min (sz zs) 2000 - (k + 1), by omega, ⟨k + 1, rfl, by omega, es, h⟩, ⟨((en rfl (en rfl s0))).trans zG22_0.symm, ((en rfl (en rfl s1))).trans zG22_1.symm, ((en rfl (en rfl s2))).trans zG22_2.symm, ((en rfl (en rfl s4))).trans zG22_4.symm, ((en rfl (en rfl s5))).trans zG22_5.symm, ((en rfl (en rfl s7))).trans zG22_7.symm, ((en rfl (en rfl s8))).trans zG22_8.symm, ((en rfl (en rfl s10))).trans zG22_10.symm, ((en rfl (en rfl s11))).trans zG22_11.symm, ((en rfl (en rfl s12))).trans zG22_12.symm, ((en rfl (en rfl s30))).trans zG22_30.symm, ((en rfl (en rfl s41))).trans zG22_41.symm, ((en rfl (en rfl s42))).trans zG22_42.symm, ((en rfl (en rfl s43))).trans zG22_43.symm, ((en rfl (en rfl s119))).trans zG22_119.symm, ((en rfl (en rfl s132))).trans zG22_132.symm, ((en rfl (en rfl s135))).trans zG22_135.symm⟩⟩
            ·
              refine xc_exit ?_
              refine hK20 _ _ ?_
              refine xc_seq (fun K hK30 => ?_)
              refine xc_region ?_
              refine x_enter (r_call Try.call9 .nil) (nd_of rfl) rfl (known_ok h) ?_
              rintro _ w ⟨rfl, h⟩
              refine x_val (r_assign es) (nd_of rfl) rfl ?_
              refine xw_nil ?_
              refine hK30 _ _ ?_
              refine xc_gen (fun g hg => ?_)
              have s0 := (hg 0).trans (en rfl (en rfl s0))
              have s1 := (hg 1).trans (en rfl (en rfl s1))
              have s2 := (hg 2).trans (en rfl (en rfl s2))
              have s4 := (hg 4).trans (en rfl (en rfl s4))
              have s5 := (hg 5).trans (en rfl (en rfl s5))
              have s6 := (hg 6).trans es
              have s7 := (hg 7).trans (en rfl (en rfl s7))
              have s8 := (hg 8).trans (en rfl (en rfl s8))
              have s10 := (hg 10).trans (en rfl (en rfl s10))
              have s11 := (hg 11).trans (en rfl (en rfl s11))
              have s12 := (hg 12).trans (en rfl (en rfl s12))
              have s30 := (hg 30).trans (en rfl (en rfl s30))
              have s41 := (hg 41).trans (en rfl (en rfl s41))
              have s42 := (hg 42).trans (en rfl (en rfl s42))
              have s43 := (hg 43).trans (en rfl (en rfl s43))
              have s119 := (hg 119).trans (en rfl (en rfl s119))
              have s132 := (hg 132).trans (en rfl (en rfl s132))
              have s135 := (hg 135).trans (en rfl (en rfl s135))
              have s136 := (hg 136).trans (en rfl (en rfl s136))
              have s137 := (hg 137).trans (en rfl (en rfl s137))
              clear hg
              refine xc_ret ?_
              refine bodyR_1 rfl s6 ?_
              exact ⟨rfl, h.drop.drop.drop.drop⟩
          ·
            skip
            refine xc_seq (fun K hK31 => ?_)
            refine xc_seq (fun K hK32 => ?_)
            refine xc_region ?_
            refine x_val (r_move s11) (nd_of rfl) rfl ?_
            refine x_val (r_neq es ec (decide_eq_false (by exact fun hh => hh he1))) (nd_of rfl) rfl ?_
            refine x_val (r_move es) (nd_of rfl) rfl ?_
            refine x_take (d := 106) rfl rfl es ?_
            refine x_val (r_move (en rfl (en rfl (en rfl s12)))) (nd_of rfl) rfl ?_
            refine x_take (d := 106) rfl rfl (en rfl es) ?_
            refine x_val (r_neq es ec (decide_eq_false (by exact fun hh => hh he2))) (nd_of rfl) rfl ?_
            refine x_val (r_pick_f (en rfl (en rfl es)) es) (nd_of rfl) rfl ?_
            refine x_val (r_move es) (nd_of rfl) rfl ?_
            refine x_take (d := 110) rfl rfl es ?_
            refine x_val (r_move (en rfl (en rfl (en rfl (en rfl (en rfl (en rfl (en rfl s8)))))))) (nd_of rfl) rfl ?_
            refine x_take (d := 110) rfl rfl (en rfl es) ?_
            refine x_val (r_fieldAddr (o' := 1) Try.underlying28 rfl Try.sizeOf3 rfl (en rfl (en rfl (en rfl (en rfl (en rfl (en rfl (en rfl (en rfl s4)))))))) rfl) (nd_of rfl) rfl ?_
            refine x_take (d := 110) rfl rfl (en rfl (en rfl es)) ?_
            refine x_val (r_load h 3 rfl Try.isAgg3 es gc1) (nd_of rfl) rfl ?_
            refine x_take (d := 110) rfl rfl (en rfl (en rfl (en rfl es))) ?_
            refine x_val (r_fieldAddr (o' := 2) Try.underlying28 rfl Try.sizeOf3 rfl (en rfl (en rfl (en rfl (en rfl (en rfl (en rfl (en rfl (en rfl (en rfl (en rfl s4)))))))))) rfl) (nd_of rfl) rfl ?_
            refine x_take (d := 110) rfl rfl (en rfl (en rfl (en rfl (en rfl es)))) ?_
            refine x_val (r_load h 3 rfl Try.isAgg3 es gc2) (nd_of rfl) rfl ?_
            refine x_take (d := 110) rfl rfl (en rfl (en rfl (en rfl (en rfl (en rfl es))))) ?_
            refine x_val (r_move (en rfl (en rfl (en rfl (en rfl (en rfl (en rfl (en rfl (en rfl (en rfl (en rfl (en rfl (en rfl s10))))))))))))) (nd_of rfl) rfl ?_
            refine x_take (d := 110) rfl rfl (en rfl (en rfl (en rfl (en rfl (en rfl (en rfl es)))))) ?_
            have h := h.f1
            refine x_enter (r_call Try.call17 (.cons (en rfl (en rfl (en rfl (en rfl (en rfl es))))) (.cons (en rfl (en rfl (en rfl es))) (.cons (en rfl es) (.cons es .nil))))) (nd_of rfl) rfl (map_yes (B' := 104 * (2 * n + 1)) (gg := fun x => gb (ga x)) (by subst ega egb; exact (both_fn.swap).weak) hp hins (by omega) (by omega) (by omega) h) ?_
            rintro _ w ⟨rfl, h⟩
            refine x_take (d := 110) rfl rfl (en rfl (en rfl (en rfl (en rfl (en rfl (en rfl (en rfl es))))))) ?_
            refine x_val (r_neq es ec (decide_eq_true (by exact he3))) (nd_of rfl) rfl ?_
            refine x_val (r_pick_f (en rfl (en rfl (en rfl (en rfl (en rfl (en rfl (en rfl (en rfl es)))))))) es) (nd_of rfl) rfl ?_
            refine xw_nil ?_
            refine hK32 _ _ ?_
            refine xc_gen (fun g hg => ?_)
            have s0 := (hg 0).trans (en rfl (en rfl (en rfl (en rfl (en rfl (en rfl (en rfl (en rfl (en rfl (en rfl (en rfl (en rfl (en rfl (en rfl (en rfl (en rfl s0))))))))))))))))
            have s1 := (hg 1).trans (en rfl (en rfl (en rfl (en rfl (en rfl (en rfl (en rfl (en rfl (en rfl (en rfl (en rfl (en rfl (en rfl (en rfl (en rfl (en rfl s1))))))))))))))))
            have s2 := (hg 2).trans (en rfl (en rfl (en rfl (en rfl (en rfl (en rfl (en rfl (en rfl (en rfl (en rfl (en rfl (en rfl (en rfl (en rfl (en rfl (en rfl s2))))))))))))))))
            have s4 := (hg 4).trans (en rfl (en rfl (en rfl (en rfl (en rfl (en rfl (en rfl (en rfl (en rfl (en rfl (en rfl (en rfl (en rfl (en rfl (en rfl (en rfl s4))))))))))))))))
            have s5 := (hg 5).trans (en rfl (en rfl (en rfl (en rfl (en rfl (en rfl (en rfl (en rfl (en rfl (en rfl (en rfl (en rfl (en rfl (en rfl (en rfl (en rfl s5))))))))))))))))
            have s6 := (hg 6).trans (en rfl (en rfl (en rfl (en rfl (en rfl (en rfl (en rfl (en rfl (en rfl (en rfl (en rfl (en rfl (en rfl (en rfl (en rfl (en rfl s6))))))))))))))))
            have s7 := (hg 7).trans (en rfl (en rfl (en rfl (en rfl (en rfl (en rfl (en rfl (en rfl (en rfl (en rfl (en rfl (en rfl (en rfl (en rfl (en rfl (en rfl s7))))))))))))))))
            have s8 := (hg 8).trans (en rfl (en rfl (en rfl (en rfl (en rfl (en rfl (en rfl (en rfl (en rfl (en rfl (en rfl (en rfl (en rfl (en rfl (en rfl (en rfl s8))))))))))))))))
            have s10 := (hg 10).trans (en rfl (en rfl (en rfl (en rfl (en rfl (en rfl (en rfl (en rfl (en rfl (en rfl (en rfl (en rfl (en rfl (en rfl (en rfl (en rfl s10))))))))))))))))
            have s11 := (hg 11).trans (en rfl (en rfl (en rfl (en rfl (en rfl (en rfl (en rfl (en rfl (en rfl (en rfl (en rfl (en rfl (en rfl (en rfl (en rfl (en rfl s11))))))))))))))))
            have s12 := (hg 12).trans (en rfl (en rfl (en rfl (en rfl (en rfl (en rfl (en rfl (en rfl (en rfl (en rfl (en rfl (en rfl (en rfl (en rfl (en rfl (en rfl s12))))))))))))))))
            have s30 := (hg 30).trans (en rfl (en rfl (en rfl (en rfl (en rfl (en rfl (en rfl (en rfl (en rfl (en rfl (en rfl (en rfl (en rfl (en rfl (en rfl (en rfl s30))))))))))))))))
            have s41 := (hg 41).trans (en rfl (en rfl (en rfl (en rfl (en rfl (en rfl (en rfl (en rfl (en rfl (en rfl (en rfl (en rfl (en rfl (en rfl (en rfl (en rfl s41))))))))))))))))
            have s42 := (hg 42).trans (en rfl (en rfl (en rfl (en rfl (en rfl (en rfl (en rfl (en rfl (en rfl (en rfl (en rfl (en rfl (en rfl (en rfl (en rfl (en rfl s42))))))))))))))))
            have s43 := (hg 43).trans (en rfl (en rfl (en rfl (en rfl (en rfl (en rfl (en rfl (en rfl (en rfl (en rfl (en rfl (en rfl (en rfl (en rfl (en rfl (en rfl s43))))))))))))))))
            have s119 := (hg 119).trans es
            clear hg
            refine xc_cond s119 (fun _ => ?_) (fun hc => by cases hc)
            refine xc_seq (fun K hK33 => ?_)
            refine xc_region ?_
            refine x_enter (r_call Try.call9 .nil) (nd_of rfl) rfl (known_ok h) ?_
            rintro _ w ⟨rfl, h⟩
            refine x_val (r_assign es) (nd_of rfl) rfl ?_
            refine xw_nil ?_
            refine hK33 _ _ ?_
            refine xc_gen (fun g hg => ?_)
            have s0 := (hg 0).trans (en rfl (en rfl s0))
            have s1 := (hg 1).trans (en rfl (en rfl s1))
            have s2 := (hg 2).trans (en rfl (en rfl s2))
            have s4 := (hg 4).trans (en rfl (en rfl s4))
            have s5 := (hg 5).trans (en rfl (en rfl s5))
            have s6 := (hg 6).trans es
            have s7 := (hg 7).trans (en rfl (en rfl s7))
            have s8 := (hg 8).trans (en rfl (en rfl s8))
            have s10 := (hg 10).trans (en rfl (en rfl s10))
            have s11 := (hg 11).trans (en rfl (en rfl s11))
            have s12 := (hg 12).trans (en rfl (en rfl s12))
            have s30 := (hg 30).trans (en rfl (en rfl s30))
            have s41 := (hg 41).trans (en rfl (en rfl s41))
            have s42 := (hg 42).trans (en rfl (en rfl s42))
            have s43 := (hg 43).trans (en rfl (en rfl s43))
            have s119 := (hg 119).trans (en rfl (en rfl s119))
            clear hg
            refine xc_ret ?_
            refine bodyR_1 rfl s6 ?_
            exact ⟨rfl, h.drop.drop.drop.drop⟩
        ·
          skip
          refine xc_seq (fun K hK34 => ?_)
          refine xc_seq (fun K hK35 => ?_)
          refine xc_region ?_
          refine x_val (r_move s11) (nd_of rfl) rfl ?_
          refine x_val (r_neq es ec (decide_eq_false (by exact fun hh => hh he1))) (nd_of rfl) rfl ?_
          refine x_val (r_move es) (nd_of rfl) rfl ?_
          refine x_take (d := 106) rfl rfl es ?_
          refine x_val (r_move (en rfl (en rfl (en rfl s12)))) (nd_of rfl) rfl ?_
          refine x_take (d := 106) rfl rfl (en rfl es) ?_
          refine x_val (r_neq es ec (decide_eq_true (by exact he2))) (nd_of rfl) rfl ?_
          refine x_val (r_pick_f (en rfl (en rfl es)) es) (nd_of rfl) rfl ?_
          refine x_val (r_move es) (nd_of rfl) rfl ?_
          refine x_pass (d := 110) rfl rfl es rfl ?_
          refine x_pass (d := 110) rfl rfl (en rfl es) rfl ?_
          refine x_pass (d := 110) rfl rfl (en rfl (en rfl es)) rfl ?_
          refine x_pass (d := 110) rfl rfl (en rfl (en rfl (en rfl es))) rfl ?_
          refine x_pass (d := 110) rfl rfl (en rfl (en rfl (en rfl (en rfl es)))) rfl ?_
          refine x_pass (d := 110) rfl rfl (en rfl (en rfl (en rfl (en rfl (en rfl es))))) rfl ?_
          refine x_pass (d := 110) rfl rfl (en rfl (en rfl (en rfl (en rfl (en rfl (en rfl es)))))) rfl ?_
          refine x_pass (d := 110) rfl rfl (en rfl (en rfl (en rfl (en rfl (en rfl (en rfl (en rfl es))))))) rfl ?_
          refine x_val (r_pick_t (en rfl (en rfl (en rfl (en rfl (en rfl (en rfl (en rfl (en rfl es)))))))) ec) (nd_of rfl) rfl ?_
          refine xw_nil ?_
          refine hK35 _ _ ?_
          refine xc_gen (fun g hg => ?_)
          have s0 := (hg 0).trans (en rfl (en rfl (en rfl (en rfl (en rfl (en rfl (en rfl (en rfl (en rfl (en rfl (en rfl (en rfl (en rfl (en rfl (en rfl (en rfl s0))))))))))))))))
          have s1 := (hg 1).trans (en rfl (en rfl (en rfl (en rfl (en rfl (en rfl (en rfl (en rfl (en rfl (en rfl (en rfl (en rfl (en rfl (en rfl (en rfl (en rfl s1))))))))))))))))
          have s2 := (hg 2).trans (en rfl (en rfl (en rfl (en rfl (en rfl (en rfl (en rfl (en rfl (en rfl (en rfl (en rfl (en rfl (en rfl (en rfl (en rfl (en rfl s2))))))))))))))))
          have s4 := (hg 4).trans (en rfl (en rfl (en rfl (en rfl (en rfl (en rfl (en rfl (en rfl (en rfl (en rfl (en rfl (en rfl (en rfl (en rfl (en rfl (en rfl s4))))))))))))))))
          have s5 := (hg 5).trans (en rfl (en rfl (en rfl (en rfl (en rfl (en rfl (en rfl (en rfl (en rfl (en rfl (en rfl (en rfl (en rfl (en rfl (en rfl (en rfl s5))))))))))))))))
          have s6 := (hg 6).trans (en rfl (en rfl (en rfl (en rfl (en rfl (en rfl (en rfl (en rfl (en rfl (en rfl (en rfl (en rfl (en rfl (en rfl (en rfl (en rfl s6))))))))))))))))
          have s7 := (hg 7).trans (en rfl (en rfl (en rfl (en rfl (en rfl (en rfl (en rfl (en rfl (en rfl (en rfl (en rfl (en rfl (en rfl (en rfl (en rfl (en rfl s7))))))))))))))))
          have s8 := (hg 8).trans (en rfl (en rfl (en rfl (en rfl (en rfl (en rfl (en rfl (en rfl (en rfl (en rfl (en rfl (en rfl (en rfl (en rfl (en rfl (en rfl s8))))))))))))))))
          have s10 := (hg 10).trans (en rfl (en rfl (en rfl (en rfl (en rfl (en rfl (en rfl (en rfl (en rfl (en rfl (en rfl (en rfl (en rfl (en rfl (en rfl (en rfl s10))))))))))))))))
          have s11 := (hg 11).trans (en rfl (en rfl (en rfl (en rfl (en rfl (en rfl (en rfl (en rfl (en rfl (en rfl (en rfl (en rfl (en rfl (en rfl (en rfl (en rfl s11))))))))))))))))
          have s12 := (hg 12).trans (en rfl (en rfl (en rfl (en rfl (en rfl (en rfl (en rfl (en rfl (en rfl (en rfl (en rfl (en rfl (en rfl (en rfl (en rfl (en rfl s12))))))))))))))))
          have s30 := (hg 30).trans (en rfl (en rfl (en rfl (en rfl (en rfl (en rfl (en rfl (en rfl (en rfl (en rfl (en rfl (en rfl (en rfl (en rfl (en rfl (en rfl s30))))))))))))))))
          have s41 := (hg 41).trans (en rfl (en rfl (en rfl (en rfl (en rfl (en rfl (en rfl (en rfl (en rfl (en rfl (en rfl (en rfl (en rfl (en rfl (en rfl (en rfl s41))))))))))))))))
          have s42 := (hg 42).trans (en rfl (en rfl (en rfl (en rfl (en rfl (en rfl (en rfl (en rfl (en rfl (en rfl (en rfl (en rfl (en rfl (en rfl (en rfl (en rfl s42))))))))))))))))
          have s43 := (hg 43).trans (en rfl (en rfl (en rfl (en rfl (en rfl (en rfl (en rfl (en rfl (en rfl (en rfl (en rfl (en rfl (en rfl (en rfl (en rfl (en rfl s43))))))))))))))))
          have s119 := (hg 119).trans es
          clear hg
          refine xc_cond s119 (fun _ => ?_) (fun hc => by cases hc)
          refine xc_seq (fun K hK36 => ?_)
          refine xc_region ?_
          refine x_enter (r_call Try.call9 .nil) (nd_of rfl) rfl (known_ok h) ?_
          rintro _ w ⟨rfl, h⟩
          refine x_val (r_assign es) (nd_of rfl) rfl ?_
          refine xw_nil ?_
          refine hK36 _ _ ?_
          refine xc_gen (fun g hg => ?_)
          have s0 := (hg 0).trans (en rfl (en rfl s0))
          have s1 := (hg 1).trans (en rfl (en rfl s1))
          have s2 := (hg 2).trans (en rfl (en rfl s2))
          have s4 := (hg 4).trans (en rfl (en rfl s4))
          have s5 := (hg 5).trans (en rfl (en rfl s5))
          have s6 := (hg 6).trans es
          have s7 := (hg 7).trans (en rfl (en rfl s7))
          have s8 := (hg 8).trans (en rfl (en rfl s8))
          have s10 := (hg 10).trans (en rfl (en rfl s10))
          have s11 := (hg 11).trans (en rfl (en rfl s11))
          have s12 := (hg 12).trans (en rfl (en rfl s12))
          have s30 := (hg 30).trans (en rfl (en rfl s30))
          have s41 := (hg 41).trans (en rfl (en rfl s41))
          have s42 := (hg 42).trans (en rfl (en rfl s42))
          have s43 := (hg 43).trans (en rfl (en rfl s43))
          have s119 := (hg 119).trans (en rfl (en rfl s119))
          clear hg
          refine xc_ret ?_
          refine bodyR_1 rfl s6 ?_
          exact ⟨rfl, h.drop.drop.drop.drop⟩
      ·
        skip
        refine xc_seq (fun K hK37 => ?_)
        refine xc_seq (fun K hK38 => ?_)
        refine xc_region ?_
        refine x_val (r_move s11) (nd_of rfl) rfl ?_
        refine x_val (r_neq es ec (decide_eq_true (by exact he1))) (nd_of rfl) rfl ?_
        refine x_val (r_move es) (nd_of rfl) rfl ?_
        refine x_pass (d := 106) rfl rfl es rfl ?_
        refine x_pass (d := 106) rfl rfl (en rfl es) rfl ?_
        refine x_val (r_pick_t (en rfl (en rfl es)) ec) (nd_of rfl) rfl ?_
        refine x_val (r_move es) (nd_of rfl) rfl ?_
        refine x_pass (d := 110) rfl rfl es rfl ?_
        refine x_pass (d := 110) rfl rfl (en rfl es) rfl ?_
        refine x_pass (d := 110) rfl rfl (en rfl (en rfl es)) rfl ?_
        refine x_pass (d := 110) rfl rfl (en rfl (en rfl (en rfl es))) rfl ?_
        refine x_pass (d := 110) rfl rfl (en rfl (en rfl (en rfl (en rfl es)))) rfl ?_
        refine x_pass (d := 110) rfl rfl (en rfl (en rfl (en rfl (en rfl (en rfl es))))) rfl ?_
        refine x_pass (d := 110) rfl rfl (en rfl (en rfl (en rfl (en rfl (en rfl (en rfl es)))))) rfl ?_
        refine x_pass (d := 110) rfl rfl (en rfl (en rfl (en rfl (en rfl (en rfl (en rfl (en rfl es))))))) rfl ?_
        refine x_val (r_pick_t (en rfl (en rfl (en rfl (en rfl (en rfl (en rfl (en rfl (en rfl es)))))))) ec) (nd_of rfl) rfl ?_
        refine xw_nil ?_
        refine hK38 _ _ ?_
        refine xc_gen (fun g hg => ?_)
        have s0 := (hg 0).trans (en rfl (en rfl (en rfl (en rfl (en rfl (en rfl (en rfl (en rfl (en rfl (en rfl (en rfl (en rfl (en rfl (en rfl (en rfl (en rfl s0))))))))))))))))
        have s1 := (hg 1).trans (en rfl (en rfl (en rfl (en rfl (en rfl (en rfl (en rfl (en rfl (en rfl (en rfl (en rfl (en rfl (en rfl (en rfl (en rfl (en rfl s1))))))))))))))))
        have s2 := (hg 2).trans (en rfl (en rfl (en rfl (en rfl (en rfl (en rfl (en rfl (en rfl (en rfl (en rfl (en rfl (en rfl (en rfl (en rfl (en rfl (en rfl s2))))))))))))))))
        have s4 := (hg 4).trans (en rfl (en rfl (en rfl (en rfl (en rfl (en rfl (en rfl (en rfl (en rfl (en rfl (en rfl (en rfl (en rfl (en rfl (en rfl (en rfl s4))))))))))))))))
        have s5 := (hg 5).trans (en rfl (en rfl (en rfl (en rfl (en rfl (en rfl (en rfl (en rfl (en rfl (en rfl (en rfl (en rfl (en rfl (en rfl (en rfl (en rfl s5))))))))))))))))
        have s6 := (hg 6).trans (en rfl (en rfl (en rfl (en rfl (en rfl (en rfl (en rfl (en rfl (en rfl (en rfl (en rfl (en rfl (en rfl (en rfl (en rfl (en rfl s6))))))))))))))))
        have s7 := (hg 7).trans (en rfl (en rfl (en rfl (en rfl (en rfl (en rfl (en rfl (en rfl (en rfl (en rfl (en rfl (en rfl (en rfl (en rfl (en rfl (en rfl s7))))))))))))))))
        have s8 := (hg 8).trans (en rfl (en rfl (en rfl (en rfl (en rfl (en rfl (en rfl (en rfl (en rfl (en rfl (en rfl (en rfl (en rfl (en rfl (en rfl (en rfl s8))))))))))))))))
        have s10 := (hg 10).trans (en rfl (en rfl (en rfl (en rfl (en rfl (en rfl (en rfl (en rfl (en rfl (en rfl (en rfl (en rfl (en rfl (en rfl (en rfl (en rfl s10))))))))))))))))
        have s11 := (hg 11).trans (en rfl (en rfl (en rfl (en rfl (en rfl (en rfl (en rfl (en rfl (en rfl (en rfl (en rfl (en rfl (en rfl (en rfl (en rfl (en rfl s11))))))))))))))))
        have s12 := (hg 12).trans (en rfl (en rfl (en rfl (en rfl (en rfl (en rfl (en rfl (en rfl (en rfl (en rfl (en rfl (en rfl (en rfl (en rfl (en rfl (en rfl s12))))))))))))))))
        have s30 := (hg 30).trans (en rfl (en rfl (en rfl (en rfl (en rfl (en rfl (en rfl (en rfl (en rfl (en rfl (en rfl (en rfl (en rfl (en rfl (en rfl (en rfl s30))))))))))))))))
        have s41 := (hg 41).trans (en rfl (en rfl (en rfl (en rfl (en rfl (en rfl (en rfl (en rfl (en rfl (en rfl (en rfl (en rfl (en rfl (en rfl (en rfl (en rfl s41))))))))))))))))
        have s42 := (hg 42).trans (en rfl (en rfl (en rfl (en rfl (en rfl (en rfl (en rfl (en rfl (en rfl (en rfl (en rfl (en rfl (en rfl (en rfl (en rfl (en rfl s42))))))))))))))))
        have s43 := (hg 43).trans (en rfl (en rfl (en rfl (en rfl (en rfl (en rfl (en rfl (en rfl (en rfl (en rfl (en rfl (en rfl (en rfl (en rfl (en rfl (en rfl s43))))))))))))))))
        have s119 := (hg 119).trans es
        clear hg
        refine xc_cond s119 (fun _ => ?_) (fun hc => by cases hc)
        refine xc_seq (fun K hK39 => ?_)
        refine xc_region ?_
        refine x_enter (r_call Try.call9 .nil) (nd_of rfl) rfl (known_ok h) ?_
        rintro _ w ⟨rfl, h⟩
        refine x_val (r_assign es) (nd_of rfl) rfl ?_
        refine xw_nil ?_
        refine hK39 _ _ ?_
        refine xc_gen (fun g hg => ?_)
        have s0 := (hg 0).trans (en rfl (en rfl s0))
        have s1 := (hg 1).trans (en rfl (en rfl s1))
        have s2 := (hg 2).trans (en rfl (en rfl s2))
        have s4 := (hg 4).trans (en rfl (en rfl s4))
        have s5 := (hg 5).trans (en rfl (en rfl s5))
        have s6 := (hg 6).trans es
        have s7 := (hg 7).trans (en rfl (en rfl s7))
        have s8 := (hg 8).trans (en rfl (en rfl s8))
        have s10 := (hg 10).trans (en rfl (en rfl s10))
        have s11 := (hg 11).trans (en rfl (en rfl s11))
        have s12 := (hg 12).trans (en rfl (en rfl s12))
        have s30 := (hg 30).trans (en rfl (en rfl s30))
        have s41 := (hg 41).trans (en rfl (en rfl s41))
        have s42 := (hg 42).trans (en rfl (en rfl s42))
        have s43 := (hg 43).trans (en rfl (en rfl s43))
        have s119 := (hg 119).trans (en rfl (en rfl s119))
        clear hg
        refine xc_ret ?_
        refine bodyR_1 rfl s6 ?_
        exact ⟨rfl, h.drop.drop.drop.drop⟩
    ·
      skip
      refine xc_exit ?_
      refine hK5 _ _ ?_
      refine xc_seq (fun K hK40 => ?_)
      refine xc_region ?_
      refine x_val (r_func .nil (.cons s5 (.cons s4 .nil))) (nd_of rfl) rfl ?_
      refine x_val (r_assign es) (nd_of rfl) rfl ?_
      refine xw_nil ?_
      refine hK40 _ _ ?_
      refine xc_gen (fun g hg => ?_)
      have s0 := (hg 0).trans (en rfl (en rfl s0))
      have s1 := (hg 1).trans (en rfl (en rfl s1))
      have s2 := (hg 2).trans (en rfl (en rfl s2))
      have s4 := (hg 4).trans (en rfl (en rfl s4))
      have s5 := (hg 5).trans (en rfl (en rfl s5))
      have s6 := (hg 6).trans (en rfl (en rfl s6))
      have s7 := (hg 7).trans (en rfl (en rfl s7))
      have s8 := (hg 8).trans (en rfl (en rfl s8))
      have s10 := (hg 10).trans es
      have s30 := (hg 30).trans (en rfl (en rfl s30))
      have s41 := (hg 41).trans (en rfl (en rfl s41))
      have s42 := (hg 42).trans (en rfl (en rfl s42))
      have s43 := (hg 43).trans (en rfl (en rfl s43))
      clear hg
      refine xc_seq (fun K hK41 => ?_)
      have hS := h
      have hS := (hS.f0).drop
      have hS := (hS.f0).drop
      refine xc_plan 18 [(0, 2), (1, 2), (2, 1), (3, 2), (4, 1), (5, 1), (6, 2), (8, 2), (9, 2), (10, 1), (11, 2), (12, 1), (13, 1), (14, 2), (7, 0), (15, 0), (16, 2), (17, 2)] (by kernel_rfl) rfl (by kernel_rfl) hS ?_
      have h := h.drew
      refine xp_read (i := 0) rfl (fun W => r_move s7) rfl (fun _ _ _ hh => by first | exact bodyR_np hh | exact bodyY_np hh | exact hh) ?_
      refine xp_read (i := 1) rfl (fun W => r_fieldAddr (o' := 1) Try.underlying28 rfl Try.sizeOf3 rfl (en rfl s4) rfl) rfl (fun _ _ _ hh => by first | exact bodyR_np hh | exact bodyY_np hh | exact hh) ?_
      refine xp_load (i := 2) rfl (fun W hW => r_load hW 1 rfl Try.isAgg3 es gc1) rfl (fun _ _ _ hh => by first | exact bodyR_np hh | exact bodyY_np hh | exact hh) ?_
      refine xp_read (i := 3) rfl (fun W => r_fieldAddr (o' := 2) Try.underlying28 rfl Try.sizeOf3 rfl (en rfl (en rfl (en rfl s4))) rfl) rfl (fun _ _ _ hh => by first | exact bodyR_np hh | exact bodyY_np hh | exact hh) ?_
      refine xp_load (i := 4) rfl (fun W hW => r_load hW 1 rfl Try.isAgg3 es gc2) rfl (fun _ _ _ hh => by first | exact bodyR_np hh | exact bodyY_np hh | exact hh) ?_
      refine xp_load (i := 5) rfl (fun W hW => r_loadAgg hW 1 rfl Try.isAgg28 Try.sizeOf28 (en rfl (en rfl (en rfl (en rfl (en rfl s4))))) (by exact Nat.le_refl _) (ext_full rfl)) rfl (fun _ _ _ hh => by first | exact bodyR_np hh | exact bodyY_np hh | exact hh) ?_
      refine xp_read (i := 6) rfl (fun W => r_func (.cons es .nil) .nil) rfl (fun _ _ _ hh => by first | exact bodyR_np hh | exact bodyY_np hh | exact hh) ?_
      refine xp_read (i := 8) rfl (fun W => r_move (en rfl (en rfl (en rfl (en rfl (en rfl (en rfl (en rfl s7)))))))) rfl (fun _ _ _ hh => by first | exact bodyR_np hh | exact bodyY_np hh | exact hh) ?_
      refine xp_read (i := 9) rfl (fun W => r_fieldAddr (o' := 1) Try.underlying28 rfl Try.sizeOf3 rfl (en rfl (en rfl (en rfl (en rfl (en rfl (en rfl (en rfl (en rfl s4)))))))) rfl) rfl (fun _ _ _ hh => by first | exact bodyR_np hh | exact bodyY_np hh | exact hh) ?_
      refine xp_load (i := 10) rfl (fun W hW => r_load hW 1 rfl Try.isAgg3 es gc1) rfl (fun _ _ _ hh => by first | exact bodyR_np hh | exact bodyY_np hh | exact hh) ?_
      refine xp_read (i := 11) rfl (fun W => r_fieldAddr (o' := 2) Try.underlying28 rfl Try.sizeOf3 rfl (en rfl (en rfl (en rfl (en rfl (en rfl (en rfl (en rfl (en rfl (en rfl (en rfl s4)))))))))) rfl) rfl (fun _ _ _ hh => by first | exact bodyR_np hh | exact bodyY_np hh | exact hh) ?_
      refine xp_load (i := 12) rfl (fun W hW => r_load hW 1 rfl Try.isAgg3 es gc2) rfl (fun _ _ _ hh => by first | exact bodyR_np hh | exact bodyY_np hh | exact hh) ?_
      refine xp_load (i := 13) rfl (fun W hW => r_loadAgg hW 0 rfl Try.isAgg28 Try.sizeOf28 (en rfl (en rfl (en rfl (en rfl (en rfl (en rfl (en rfl (en rfl (en rfl (en rfl (en rfl (en rfl s5)))))))))))) (by exact Nat.le_refl _) (ext_full rfl)) rfl (fun _ _ _ hh => by first | exact bodyR_np hh | exact bodyY_np hh | exact hh) ?_
      refine xp_read (i := 14) rfl (fun W => r_func (.cons es .nil) .nil) rfl (fun _ _ _ hh => by first | exact bodyR_np hh | exact bodyY_np hh | exact hh) ?_
      have h := h.f1
      refine xp_enter (i := 7) rfl (r_call Try.call17 (.cons (en rfl (en rfl (en rfl (en rfl (en rfl (en rfl (en rfl (en rfl (en rfl (en rfl (en rfl (en rfl (en rfl es))))))))))))) (.cons (en rfl (en rfl (en rfl (en rfl (en rfl (en rfl (en rfl (en rfl (en rfl (en rfl (en rfl es))))))))))) (.cons (en rfl (en rfl (en rfl (en rfl (en rfl (en rfl (en rfl (en rfl (en rfl es))))))))) (.cons (en rfl (en rfl (en rfl (en rfl (en rfl (en rfl (en rfl es))))))) .nil))))) rfl (map_no hp h) ?_
      rintro _ w ⟨rfl, h⟩
      refine ⟨(fun _ => ((h.f0).drop.f0).drop), ?_⟩
      refine xp_enter (i := 15) rfl (r_call Try.call17 (.cons (en rfl (en rfl (en rfl (en rfl (en rfl (en rfl (en rfl es))))))) (.cons (en rfl (en rfl (en rfl (en rfl (en rfl es))))) (.cons (en rfl (en rfl (en rfl es))) (.cons (en rfl es) .nil))))) rfl (map_no hp h) ?_
      rintro _ w ⟨rfl, h⟩
      refine ⟨(fun _ => ((h.f0).drop.f0).drop), ?_⟩
      refine xp_read (i := 16) rfl (fun W => r_assign (en rfl es)) rfl (fun _ _ _ hh => by first | exact bodyR_np hh | exact bodyY_np hh | exact hh) ?_
      refine xp_read (i := 17) rfl (fun W => r_assign (en rfl es)) rfl (fun _ _ _ hh => by first | exact bodyR_np hh | exact bodyY_np hh | exact hh) ?_
      refine xp_nil ?_
      refine hK41 _ _ ?_
      refine xc_gen (fun g hg => ?_)
      have s0 := (hg 0).trans (en rfl (en rfl (en rfl (en rfl (en rfl (en rfl (en rfl (en rfl (en rfl (en rfl (en rfl (en rfl (en rfl (en rfl (en rfl (en rfl (en rfl (en rfl s0))))))))))))))))))
      have s1 := (hg 1).trans (en rfl (en rfl (en rfl (en rfl (en rfl (en rfl (en rfl (en rfl (en rfl (en rfl (en rfl (en rfl (en rfl (en rfl (en rfl (en rfl (en rfl (en rfl s1))))))))))))))))))
      have s2 := (hg 2).trans (en rfl (en rfl (en rfl (en rfl (en rfl (en rfl (en rfl (en rfl (en rfl (en rfl (en rfl (en rfl (en rfl (en rfl (en rfl (en rfl (en rfl (en rfl s2))))))))))))))))))
      have s4 := (hg 4).trans (en rfl (en rfl (en rfl (en rfl (en rfl (en rfl (en rfl (en rfl (en rfl (en rfl (en rfl (en rfl (en rfl (en rfl (en rfl (en rfl (en rfl (en rfl s4))))))))))))))))))
      have s5 := (hg 5).trans (en rfl (en rfl (en rfl (en rfl (en rfl (en rfl (en rfl (en rfl (en rfl (en rfl (en rfl (en rfl (en rfl (en rfl (en rfl (en rfl (en rfl (en rfl s5))))))))))))))))))
      have s6 := (hg 6).trans (en rfl (en rfl (en rfl (en rfl (en rfl (en rfl (en rfl (en rfl (en rfl (en rfl (en rfl (en rfl (en rfl (en rfl (en rfl (en rfl (en rfl (en rfl s6))))))))))))))))))
      have s7 := (hg 7).trans (en rfl (en rfl (en rfl (en rfl (en rfl (en rfl (en rfl (en rfl (en rfl (en rfl (en rfl (en rfl (en rfl (en rfl (en rfl (en rfl (en rfl (en rfl s7))))))))))))))))))
      have s8 := (hg 8).trans (en rfl (en rfl (en rfl (en rfl (en rfl (en rfl (en rfl (en rfl (en rfl (en rfl (en rfl (en rfl (en rfl (en rfl (en rfl (en rfl (en rfl (en rfl s8))))))))))))))))))
      have s10 := (hg 10).trans (en rfl (en rfl (en rfl (en rfl (en rfl (en rfl (en rfl (en rfl (en rfl (en rfl (en rfl (en rfl (en rfl (en rfl (en rfl (en rfl (en rfl (en rfl s10))))))))))))))))))
      have s11 := (hg 11).trans (en rfl es)
      have s12 := (hg 12).trans es
      have s30 := (hg 30).trans (en rfl (en rfl (en rfl (en rfl (en rfl (en rfl (en rfl (en rfl (en rfl (en rfl (en rfl (en rfl (en rfl (en rfl (en rfl (en rfl (en rfl (en rfl s30))))))))))))))))))
      have s41 := (hg 41).trans (en rfl (en rfl (en rfl (en rfl (en rfl (en rfl (en rfl (en rfl (en rfl (en rfl (en rfl (en rfl (en rfl (en rfl (en rfl (en rfl (en rfl (en rfl s41))))))))))))))))))
      have s42 := (hg 42).trans (en rfl (en rfl (en rfl (en rfl (en rfl (en rfl (en rfl (en rfl (en rfl (en rfl (en rfl (en rfl (en rfl (en rfl (en rfl (en rfl (en rfl (en rfl s42))))))))))))))))))
      have s43 := (hg 43).trans (en rfl (en rfl (en rfl (en rfl (en rfl (en rfl (en rfl (en rfl (en rfl (en rfl (en rfl (en rfl (en rfl (en rfl (en rfl (en rfl (en rfl (en rfl s43))))))))))))))))))
      clear hg
      refine xc_seq (fun K hK42 => ?_)
      refine xc_seq (fun K hK43 => ?_)
      refine xc_region ?_
      refine x_val (r_move s11) (nd_of rfl) rfl ?_
      refine x_val (r_neq es ec (r := true) rfl) (nd_of rfl) rfl ?_
      refine x_val (r_move es) (nd_of rfl) rfl ?_
      refine x_pass (d := 106) rfl rfl es rfl ?_
      refine x_pass (d := 106) rfl rfl (en rfl es) rfl ?_
      refine x_val (r_pick_t (en rfl (en rfl es)) ec) (nd_of rfl) rfl ?_
      refine x_val (r_move es) (nd_of rfl) rfl ?_
      refine x_pass (d := 110) rfl rfl es rfl ?_
      refine x_pass (d := 110) rfl rfl (en rfl es) rfl ?_
      refine x_pass (d := 110) rfl rfl (en rfl (en rfl es)) rfl ?_
      refine x_pass (d := 110) rfl rfl (en rfl (en rfl (en rfl es))) rfl ?_
      refine x_pass (d := 110) rfl rfl (en rfl (en rfl (en rfl (en rfl es)))) rfl ?_
      refine x_pass (d := 110) rfl rfl (en rfl (en rfl (en rfl (en rfl (en rfl es))))) rfl ?_
      refine x_pass (d := 110) rfl rfl (en rfl (en rfl (en rfl (en rfl (en rfl (en rfl es)))))) rfl ?_
      refine x_pass (d := 110) rfl rfl (en rfl (en rfl (en rfl (en rfl (en rfl (en rfl (en rfl es))))))) rfl ?_
      refine x_val (r_pick_t (en rfl (en rfl (en rfl (en rfl (en rfl (en rfl (en rfl (en rfl es)))))))) ec) (nd_of rfl) rfl ?_
      refine xw_nil ?_
      refine hK43 _ _ ?_
      refine xc_gen (fun g hg => ?_)
      have s0 := (hg 0).trans (en rfl (en rfl (en rfl (en rfl (en rfl (en rfl (en rfl (en rfl (en rfl (en rfl (en rfl (en rfl (en rfl (en rfl (en rfl (en rfl s0))))))))))))))))
      have s1 := (hg 1).trans (en rfl (en rfl (en rfl (en rfl (en rfl (en rfl (en rfl (en rfl (en rfl (en rfl (en rfl (en rfl (en rfl (en rfl (en rfl (en rfl s1))))))))))))))))
      have s2 := (hg 2).trans (en rfl (en rfl (en rfl (en rfl (en rfl (en rfl (en rfl (en rfl (en rfl (en rfl (en rfl (en rfl (en rfl (en rfl (en rfl (en rfl s2))))))))))))))))
      have s4 := (hg 4).trans (en rfl (en rfl (en rfl (en rfl (en rfl (en rfl (en rfl (en rfl (en rfl (en rfl (en rfl (en rfl (en rfl (en rfl (en rfl (en rfl s4))))))))))))))))
      have s5 := (hg 5).trans (en rfl (en rfl (en rfl (en rfl (en rfl (en rfl (en rfl (en rfl (en rfl (en rfl (en rfl (en rfl (en rfl (en rfl (en rfl (en rfl s5))))))))))))))))
      have s6 := (hg 6).trans (en rfl (en rfl (en rfl (en rfl (en rfl (en rfl (en rfl (en rfl (en rfl (en rfl (en rfl (en rfl (en rfl (en rfl (en rfl (en rfl s6))))))))))))))))
      have s7 := (hg 7).trans (en rfl (en rfl (en rfl (en rfl (en rfl (en rfl (en rfl (en rfl (en rfl (en rfl (en rfl (en rfl (en rfl (en rfl (en rfl (en rfl s7))))))))))))))))
      have s8 := (hg 8).trans (en rfl (en rfl (en rfl (en rfl (en rfl (en rfl (en rfl (en rfl (en rfl (en rfl (en rfl (en rfl (en rfl (en rfl (en rfl (en rfl s8))))))))))))))))
      have s10 := (hg 10).trans (en rfl (en rfl (en rfl (en rfl (en rfl (en rfl (en rfl (en rfl (en rfl (en rfl (en rfl (en rfl (en rfl (en rfl (en rfl (en rfl s10))))))))))))))))
      have s11 := (hg 11).trans (en rfl (en rfl (en rfl (en rfl (en rfl (en rfl (en rfl (en rfl (en rfl (en rfl (en rfl (en rfl (en rfl (en rfl (en rfl (en rfl s11))))))))))))))))
      have s12 := (hg 12).trans (en rfl (en rfl (en rfl (en rfl (en rfl (en rfl (en rfl (en rfl (en rfl (en rfl (en rfl (en rfl (en rfl (en rfl (en rfl (en rfl s12))))))))))))))))
      have s30 := (hg 30).trans (en rfl (en rfl (en rfl (en rfl (en rfl (en rfl (en rfl (en rfl (en rfl (en rfl (en rfl (en rfl (en rfl (en rfl (en rfl (en rfl s30))))))))))))))))
      have s41 := (hg 41).trans (en rfl (en rfl (en rfl (en rfl (en rfl (en rfl (en rfl (en rfl (en rfl (en rfl (en rfl (en rfl (en rfl (en rfl (en rfl (en rfl s41))))))))))))))))
      have s42 := (hg 42).trans (en rfl (en rfl (en rfl (en rfl (en rfl (en rfl (en rfl (en rfl (en rfl (en rfl (en rfl (en rfl (en rfl (en rfl (en rfl (en rfl s42))))))))))))))))
      have s43 := (hg 43).trans (en rfl (en rfl (en rfl (en rfl (en rfl (en rfl (en rfl (en rfl (en rfl (en rfl (en rfl (en rfl (en rfl (en rfl (en rfl (en rfl s43))))))))))))))))
      have s119 := (hg 119).trans es
      clear hg
      refine xc_cond s119 (fun _ => ?_) (fun hc => by cases hc)
      refine xc_seq (fun K hK44 => ?_)
      refine xc_region ?_
      refine x_enter (r_call Try.call9 .nil) (nd_of rfl) rfl (known_ok h) ?_
      rintro _ w ⟨rfl, h⟩
      refine x_val (r_assign es) (nd_of rfl) rfl ?_
      refine xw_nil ?_
      refine hK44 _ _ ?_
      refine xc_gen (fun g hg => ?_)
      have s0 := (hg 0).trans (en rfl (en rfl s0))
      have s1 := (hg 1).trans (en rfl (en rfl s1))
      have s2 := (hg 2).trans (en rfl (en rfl s2))
      have s4 := (hg 4).trans (en rfl (en rfl s4))
      have s5 := (hg 5).trans (en rfl (en rfl s5))
      have s6 := (hg 6).trans es
      have s7 := (hg 7).trans (en rfl (en rfl s7))
      have s8 := (hg 8).trans (en rfl (en rfl s8))
      have s10 := (hg 10).trans (en rfl (en rfl s10))
      have s11 := (hg 11).trans (en rfl (en rfl s11))
      have s12 := (hg 12).trans (en rfl (en rfl s12))
      have s30 := (hg 30).trans (en rfl (en rfl s30))
      have s41 := (hg 41).trans (en rfl (en rfl s41))
      have s42 := (hg 42).trans (en rfl (en rfl s42))
      have s43 := (hg 43).trans (en rfl (en rfl s43))
      have s119 := (hg 119).trans (en rfl (en rfl s119))
      clear hg
      refine xc_ret ?_
      refine bodyR_1 rfl s6 ?_
      exact ⟨rfl, h.drop.drop.drop.drop⟩
theorem mapped_row (hv : OpsAt W v os) (hwa : OpWf W oa) (hwb : OpWf W ob) (h : SatL E w (Old W :: R)) : Calls Try.prog 5 #[v, .agg (opC oa).toArray, .agg (opC ob).toArray] w (Ret fun u w' => u = .bool true ∧ SatL E w' (Old W :: R)) := by
  rcases Nat.lt_or_ge 40 os.length with h1 | h1
  · exact mapped_long hv hwa hwb h1 h
  · exact mapped_all hv hwa hwb h1 h
end
end Go.Proofs.Ytbmdbjnkkbefmaa
