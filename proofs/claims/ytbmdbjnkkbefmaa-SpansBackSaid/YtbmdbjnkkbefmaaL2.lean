/-
SpansBack: the walk.
-/
import Derived.Test.YtbmdbjnkkbefmaaS9
import Derived.Test.YtbmdbjnkkbefmaaR12
namespace Go.Proofs.Ytbmdbjnkkbefmaa
open Go Go.RowKit
section
variable {E : Env} {R : List SProp} {w : World} {W : World} {v : Value} {os : List OpV} {o : OpV}
theorem back_long (hv : OpsAt W v os) (hw : OpWf W o) (hl : 40 < os.length ∨ 100 < o.ls.length) (h : SatL E w (Old W :: R)) : Calls Try.prog 4 #[v, .agg (opC o).toArray] w (Ret fun u w' => u = .bool true ∧ SatL E w' (Old W :: R)) := by
  obtain ⟨a, cap, rfl, _⟩ := hv
  obtain ⟨al, cl, hlv, hlsp⟩ := hw.sp
  unfold opC
  rw [hlv]
  rcases Nat.lt_or_ge 40 os.length with h1 | h1
  · skip
    refine calls_x Try.func4 rfl Try.ntmps4 rfl ?_
    refine xc_gen (fun g hg => ?_)
    have s0 := (hg 0).trans arg0
    have s1 := (hg 1).trans arg1
    clear hg
    refine xc_seq (fun K hK1 => ?_)
    refine xc_region ?_
    refine x_boxA h s1 rfl ?_
    intro b3 w h
    refine x_val (r_assign ec) (nd_of rfl) rfl ?_
    refine xw_nil ?_
    refine hK1 _ _ ?_
    refine xc_gen (fun g hg => ?_)
    have s0 := (hg 0).trans (en rfl (en rfl s0))
    have s1 := (hg 1).trans (en rfl (en rfl s1))
    have s3 := (hg 3).trans (en rfl es)
    have s4 := (hg 4).trans es
    clear hg
    refine xc_seq (fun K hK2 => ?_)
    refine xc_region ?_
    refine x_enter (r_call Try.call8 .nil) (nd_of rfl) rfl (new_o h) ?_
    rintro _ w ⟨b, rfl, h⟩
    refine x_val (r_assign es) (nd_of rfl) rfl ?_
    refine xw_nil ?_
    refine hK2 _ _ ?_
    refine xc_gen (fun g hg => ?_)
    have s0 := (hg 0).trans (en rfl (en rfl s0))
    have s1 := (hg 1).trans (en rfl (en rfl s1))
    have s3 := (hg 3).trans (en rfl (en rfl s3))
    have s4 := (hg 4).trans (en rfl (en rfl s4))
    have s5 := (hg 5).trans es
    clear hg
    refine xc_seq (fun K hK3 => ?_)
    refine xc_seq (fun K hK4 => ?_)
    refine xc_region ?_
    refine x_val (r_move s5) (nd_of rfl) rfl ?_
    refine x_val (r_eqnil Try.underlying23 es ec (r := false) rfl) (nd_of rfl) rfl ?_
    refine x_val (r_move es) (nd_of rfl) rfl ?_
    refine x_take (d := 19) rfl rfl es ?_
    refine x_val (r_move (en rfl (en rfl (en rfl s0)))) (nd_of rfl) rfl ?_
    refine x_take (d := 19) rfl rfl (en rfl es) ?_
    refine x_val (r_len Try.underlying22 es) (nd_of rfl) rfl ?_
    refine x_take (d := 19) rfl rfl (en rfl (en rfl es)) ?_
    refine x_val (r_gtr es ec (decide_eq_true (by omega))) (nd_of rfl) rfl ?_
    refine x_val (r_pick_f (en rfl (en rfl (en rfl es))) es) (nd_of rfl) rfl ?_
    refine x_val (r_move es) (nd_of rfl) rfl ?_
    refine x_pass (d := 24) rfl rfl es rfl ?_
    refine x_pass (d := 24) rfl rfl (en rfl es) rfl ?_
    refine x_pass (d := 24) rfl rfl (en rfl (en rfl es)) rfl ?_
    refine x_pass (d := 24) rfl rfl (en rfl (en rfl (en rfl es))) rfl ?_
    refine x_val (r_pick_t (en rfl (en rfl (en rfl (en rfl es)))) ec) (nd_of rfl) rfl ?_
    refine xw_nil ?_
    refine hK4 _ _ ?_
    refine xc_gen (fun g hg => ?_)
    have s0 := (hg 0).trans (en rfl (en rfl (en rfl (en rfl (en rfl (en rfl (en rfl (en rfl (en rfl (en rfl (en rfl (en rfl (en rfl s0)))))))))))))
    have s1 := (hg 1).trans (en rfl (en rfl (en rfl (en rfl (en rfl (en rfl (en rfl (en rfl (en rfl (en rfl (en rfl (en rfl (en rfl s1)))))))))))))
    have s3 := (hg 3).trans (en rfl (en rfl (en rfl (en rfl (en rfl (en rfl (en rfl (en rfl (en rfl (en rfl (en rfl (en rfl (en rfl s3)))))))))))))
    have s4 := (hg 4).trans (en rfl (en rfl (en rfl (en rfl (en rfl (en rfl (en rfl (en rfl (en rfl (en rfl (en rfl (en rfl (en rfl s4)))))))))))))
    have s5 := (hg 5).trans (en rfl (en rfl (en rfl (en rfl (en rfl (en rfl (en rfl (en rfl (en rfl (en rfl (en rfl (en rfl (en rfl s5)))))))))))))
    have s29 := (hg 29).trans es
    clear hg
    refine xc_cond s29 (fun _ => ?_) (fun hc => by cases hc)
    refine xc_seq (fun K hK5 => ?_)
    refine xc_region ?_
    refine x_val (r_move s5) (nd_of rfl) rfl ?_
    refine x_val (r_nenil Try.underlying23 es ec (r := true) rfl) (nd_of rfl) rfl ?_
    refine x_val (r_move es) (nd_of rfl) rfl ?_
    refine x_take (d := 32) rfl rfl es ?_
    refine x_enter (r_call Try.call9 .nil) (nd_of rfl) rfl (known_ok h) ?_
    rintro _ w ⟨rfl, h⟩
    refine x_val (r_pick_t (en rfl es) es) (nd_of rfl) rfl ?_
    refine x_val (r_assign es) (nd_of rfl) rfl ?_
    refine xw_nil ?_
    refine hK5 _ _ ?_
    refine xc_gen (fun g hg => ?_)
    have s0 := (hg 0).trans (en rfl (en rfl (en rfl (en rfl (en rfl (en rfl s0))))))
    have s1 := (hg 1).trans (en rfl (en rfl (en rfl (en rfl (en rfl (en rfl s1))))))
    have s3 := (hg 3).trans (en rfl (en rfl (en rfl (en rfl (en rfl (en rfl s3))))))
    have s4 := (hg 4).trans es
    have s5 := (hg 5).trans (en rfl (en rfl (en rfl (en rfl (en rfl (en rfl s5))))))
    have s29 := (hg 29).trans (en rfl (en rfl (en rfl (en rfl (en rfl (en rfl s29))))))
    clear hg
    refine xc_ret ?_
    refine bodyR_1 rfl s4 ?_
    exact ⟨rfl, h.drop.drop⟩
  · have h2 : 100 < o.ls.length := by omega
    refine calls_x Try.func4 rfl Try.ntmps4 rfl ?_
    refine xc_gen (fun g hg => ?_)
    have s0 := (hg 0).trans arg0
    have s1 := (hg 1).trans arg1
    clear hg
    refine xc_seq (fun K hK1 => ?_)
    refine xc_region ?_
    refine x_boxA h s1 rfl ?_
    intro b3 w h
    refine x_val (r_assign ec) (nd_of rfl) rfl ?_
    refine xw_nil ?_
    refine hK1 _ _ ?_
    refine xc_gen (fun g hg => ?_)
    have s0 := (hg 0).trans (en rfl (en rfl s0))
    have s1 := (hg 1).trans (en rfl (en rfl s1))
    have s3 := (hg 3).trans (en rfl es)
    have s4 := (hg 4).trans es
    clear hg
    refine xc_seq (fun K hK2 => ?_)
    refine xc_region ?_
    refine x_enter (r_call Try.call8 .nil) (nd_of rfl) rfl (new_o h) ?_
    rintro _ w ⟨b, rfl, h⟩
    refine x_val (r_assign es) (nd_of rfl) rfl ?_
    refine xw_nil ?_
    refine hK2 _ _ ?_
    refine xc_gen (fun g hg => ?_)
    have s0 := (hg 0).trans (en rfl (en rfl s0))
    have s1 := (hg 1).trans (en rfl (en rfl s1))
    have s3 := (hg 3).trans (en rfl (en rfl s3))
    have s4 := (hg 4).trans (en rfl (en rfl s4))
    have s5 := (hg 5).trans es
    clear hg
    refine xc_seq (fun K hK3 => ?_)
    refine xc_seq (fun K hK4 => ?_)
    refine xc_region ?_
    refine x_val (r_move s5) (nd_of rfl) rfl ?_
    refine x_val (r_eqnil Try.underlying23 es ec (r := false) rfl) (nd_of rfl) rfl ?_
    refine x_val (r_move es) (nd_of rfl) rfl ?_
    refine x_take (d := 19) rfl rfl es ?_
    refine x_val (r_move (en rfl (en rfl (en rfl s0)))) (nd_of rfl) rfl ?_
    refine x_take (d := 19) rfl rfl (en rfl es) ?_
    refine x_val (r_len Try.underlying22 es) (nd_of rfl) rfl ?_
    refine x_take (d := 19) rfl rfl (en rfl (en rfl es)) ?_
    refine x_val (r_gtr es ec (decide_eq_false (by omega))) (nd_of rfl) rfl ?_
    refine x_val (r_pick_f (en rfl (en rfl (en rfl es))) es) (nd_of rfl) rfl ?_
    refine x_val (r_move es) (nd_of rfl) rfl ?_
    refine x_take (d := 24) rfl rfl es ?_
    refine x_val (r_fieldAddr (o' := 3) Try.underlying28 rfl Try.sizeOf26 rfl (en rfl (en rfl (en rfl (en rfl (en rfl (en rfl (en rfl (en rfl s3)))))))) rfl) (nd_of rfl) rfl ?_
    refine x_take (d := 24) rfl rfl (en rfl es) ?_
    refine x_val (r_load h 1 rfl Try.isAgg26 es gc3) (nd_of rfl) rfl ?_
    refine x_take (d := 24) rfl rfl (en rfl (en rfl es)) ?_
    refine x_val (r_len Try.underlying26 es) (nd_of rfl) rfl ?_
    refine x_take (d := 24) rfl rfl (en rfl (en rfl (en rfl es))) ?_
    refine x_val (r_gtr es ec (decide_eq_true (by omega))) (nd_of rfl) rfl ?_
    refine x_val (r_pick_f (en rfl (en rfl (en rfl (en rfl es)))) es) (nd_of rfl) rfl ?_
    refine xw_nil ?_
    refine hK4 _ _ ?_
    refine xc_gen (fun g hg => ?_)
    have s0 := (hg 0).trans (en rfl (en rfl (en rfl (en rfl (en rfl (en rfl (en rfl (en rfl (en rfl (en rfl (en rfl (en rfl (en rfl s0)))))))))))))
    have s1 := (hg 1).trans (en rfl (en rfl (en rfl (en rfl (en rfl (en rfl (en rfl (en rfl (en rfl (en rfl (en rfl (en rfl (en rfl s1)))))))))))))
    have s3 := (hg 3).trans (en rfl (en rfl (en rfl (en rfl (en rfl (en rfl (en rfl (en rfl (en rfl (en rfl (en rfl (en rfl (en rfl s3)))))))))))))
    have s4 := (hg 4).trans (en rfl (en rfl (en rfl (en rfl (en rfl (en rfl (en rfl (en rfl (en rfl (en rfl (en rfl (en rfl (en rfl s4)))))))))))))
    have s5 := (hg 5).trans (en rfl (en rfl (en rfl (en rfl (en rfl (en rfl (en rfl (en rfl (en rfl (en rfl (en rfl (en rfl (en rfl s5)))))))))))))
    have s29 := (hg 29).trans es
    clear hg
    refine xc_cond s29 (fun _ => ?_) (fun hc => by cases hc)
    refine xc_seq (fun K hK5 => ?_)
    refine xc_region ?_
    refine x_val (r_move s5) (nd_of rfl) rfl ?_
    refine x_val (r_nenil Try.underlying23 es ec (r := true) rfl) (nd_of rfl) rfl ?_
    refine x_val (r_move es) (nd_of rfl) rfl ?_
    refine x_take (d := 32) rfl rfl es ?_
    refine x_enter (r_call Try.call9 .nil) (nd_of rfl) rfl (known_ok h) ?_
    rintro _ w ⟨rfl, h⟩
    refine x_val (r_pick_t (en rfl es) es) (nd_of rfl) rfl ?_
    refine x_val (r_assign es) (nd_of rfl) rfl ?_
    refine xw_nil ?_
    refine hK5 _ _ ?_
    refine xc_gen (fun g hg => ?_)
    have s0 := (hg 0).trans (en rfl (en rfl (en rfl (en rfl (en rfl (en rfl s0))))))
    have s1 := (hg 1).trans (en rfl (en rfl (en rfl (en rfl (en rfl (en rfl s1))))))
    have s3 := (hg 3).trans (en rfl (en rfl (en rfl (en rfl (en rfl (en rfl s3))))))
    have s4 := (hg 4).trans es
    have s5 := (hg 5).trans (en rfl (en rfl (en rfl (en rfl (en rfl (en rfl s5))))))
    have s29 := (hg 29).trans (en rfl (en rfl (en rfl (en rfl (en rfl (en rfl s29))))))
    clear hg
    refine xc_ret ?_
    refine bodyR_1 rfl s4 ?_
    exact ⟨rfl, h.drop.drop⟩
theorem back_ok (hv : OpsAt W v os) (hw : OpWf W o) (hl : os.length ≤ 40) (hl2 : o.ls.length ≤ 100) (h : SatL E w (Old W :: R)) : Calls Try.prog 4 #[v, .agg (opC o).toArray] w (Ret fun u w' => u = .bool true ∧ SatL E w' (Old W :: R)) := by
  obtain ⟨a, cap, rfl, hread⟩ := hv
  obtain ⟨al, cl, hlv, hlsp⟩ := hw.sp
  have hsp0 := hw.sp
  rw [hlv] at hsp0
  unfold opC
  rw [hlv]
  have hoi := hw.i
  have hoj := hw.j
  refine calls_y Try.func4 rfl Try.ntmps4 rfl ?_
  refine yc_gen (fun g hg => ?_)
  have s0 := (hg 0).trans arg0
  have s1 := (hg 1).trans arg1
  clear hg
  refine yc_seq (fun K hK1 => ?_)
  refine yc_region ?_
  refine x_boxA h s1 rfl ?_
  intro b3 w h
  refine x_val (r_assign ec) (nd_of rfl) rfl ?_
  refine xw_nil ?_
  refine hK1 _ _ _ ?_
  refine yc_gen (fun g hg => ?_)
  have s0 := (hg 0).trans (en rfl (en rfl s0))
  have s1 := (hg 1).trans (en rfl (en rfl s1))
  have s3 := (hg 3).trans (en rfl es)
  have s4 := (hg 4).trans es
  clear hg
  refine yc_seq (fun K hK2 => ?_)
  refine yc_region ?_
  refine x_enter (r_call Try.call8 .nil) (nd_of rfl) rfl (new_o h) ?_
  rintro _ w ⟨b, rfl, h⟩
  refine x_val (r_assign es) (nd_of rfl) rfl ?_
  refine xw_nil ?_
  refine hK2 _ _ _ ?_
  refine yc_gen (fun g hg => ?_)
  have s0 := (hg 0).trans (en rfl (en rfl s0))
  have s1 := (hg 1).trans (en rfl (en rfl s1))
  have s3 := (hg 3).trans (en rfl (en rfl s3))
  have s4 := (hg 4).trans (en rfl (en rfl s4))
  have s5 := (hg 5).trans es
  clear hg
  refine yc_seq (fun K hK3 => ?_)
  refine yc_seq (fun K hK4 => ?_)
  refine yc_region ?_
  refine x_val (r_move s5) (nd_of rfl) rfl ?_
  refine x_val (r_eqnil Try.underlying23 es ec (r := false) rfl) (nd_of rfl) rfl ?_
  refine x_val (r_move es) (nd_of rfl) rfl ?_
  refine x_take (d := 19) rfl rfl es ?_
  refine x_val (r_move (en rfl (en rfl (en rfl s0)))) (nd_of rfl) rfl ?_
  refine x_take (d := 19) rfl rfl (en rfl es) ?_
  refine x_val (r_len Try.underlying22 es) (nd_of rfl) rfl ?_
  refine x_take (d := 19) rfl rfl (en rfl (en rfl es)) ?_
  refine x_val (r_gtr es ec (decide_eq_false (by omega))) (nd_of rfl) rfl ?_
  refine x_val (r_pick_f (en rfl (en rfl (en rfl es))) es) (nd_of rfl) rfl ?_
  refine x_val (r_move es) (nd_of rfl) rfl ?_
  refine x_take (d := 24) rfl rfl es ?_
  refine x_val (r_fieldAddr (o' := 3) Try.underlying28 rfl Try.sizeOf26 rfl (en rfl (en rfl (en rfl (en rfl (en rfl (en rfl (en rfl (en rfl s3)))))))) rfl) (nd_of rfl) rfl ?_
  refine x_take (d := 24) rfl rfl (en rfl es) ?_
  refine x_val (r_load h 1 rfl Try.isAgg26 es gc3) (nd_of rfl) rfl ?_
  refine x_take (d := 24) rfl rfl (en rfl (en rfl es)) ?_
  refine x_val (r_len Try.underlying26 es) (nd_of rfl) rfl ?_
  refine x_take (d := 24) rfl rfl (en rfl (en rfl (en rfl es))) ?_
  refine x_val (r_gtr es ec (decide_eq_false (by omega))) (nd_of rfl) rfl ?_
  refine x_val (r_pick_f (en rfl (en rfl (en rfl (en rfl es)))) es) (nd_of rfl) rfl ?_
  refine xw_nil ?_
  refine hK4 _ _ _ ?_
  refine yc_gen (fun g hg => ?_)
  have s0 := (hg 0).trans (en rfl (en rfl (en rfl (en rfl (en rfl (en rfl (en rfl (en rfl (en rfl (en rfl (en rfl (en rfl (en rfl s0)))))))))))))
  have s1 := (hg 1).trans (en rfl (en rfl (en rfl (en rfl (en rfl (en rfl (en rfl (en rfl (en rfl (en rfl (en rfl (en rfl (en rfl s1)))))))))))))
  have s3 := (hg 3).trans (en rfl (en rfl (en rfl (en rfl (en rfl (en rfl (en rfl (en rfl (en rfl (en rfl (en rfl (en rfl (en rfl s3)))))))))))))
  have s4 := (hg 4).trans (en rfl (en rfl (en rfl (en rfl (en rfl (en rfl (en rfl (en rfl (en rfl (en rfl (en rfl (en rfl (en rfl s4)))))))))))))
  have s5 := (hg 5).trans (en rfl (en rfl (en rfl (en rfl (en rfl (en rfl (en rfl (en rfl (en rfl (en rfl (en rfl (en rfl (en rfl s5)))))))))))))
  have s29 := (hg 29).trans es
  clear hg
  refine yc_cond s29 (fun hc => by cases hc) (fun _ => ?_)
  refine yc_skip ?_
  refine hK3 _ _ _ ?_
  refine yc_seq (fun K hK5 => ?_)
  refine yc_seq (fun K hK6 => ?_)
  refine yc_region ?_
  refine x_val (r_move s0) (nd_of rfl) rfl ?_
  refine x_val (r_len Try.underlying22 es) (nd_of rfl) rfl ?_
  refine x_val (r_move ec) (nd_of rfl) rfl ?_
  refine xw_nil ?_
  refine hK6 _ _ _ ?_
  refine yc_gen (fun g hg => ?_)
  have s0 := (hg 0).trans (en rfl (en rfl (en rfl s0)))
  have s1 := (hg 1).trans (en rfl (en rfl (en rfl s1)))
  have s3 := (hg 3).trans (en rfl (en rfl (en rfl s3)))
  have s4 := (hg 4).trans (en rfl (en rfl (en rfl s4)))
  have s5 := (hg 5).trans (en rfl (en rfl (en rfl s5)))
  have s29 := (hg 29).trans (en rfl (en rfl (en rfl s29)))
  have s36 := (hg 36).trans (en rfl es)
  have s37 := (hg 37).trans es
  clear hg
  refine yc_block ?_
  obtain ⟨G7, hG7⟩ : ∃ g0 : Nat → Value, g0 = g := ⟨_, rfl⟩
  have zG7_0 : G7 0 = _ := (congrFun hG7 0).trans s0
  have zG7_1 : G7 1 = _ := (congrFun hG7 1).trans s1
  have zG7_3 : G7 3 = _ := (congrFun hG7 3).trans s3
  have zG7_4 : G7 4 = _ := (congrFun hG7 4).trans s4
  have zG7_5 : G7 5 = _ := (congrFun hG7 5).trans s5
  have zG7_29 : G7 29 = _ := (congrFun hG7 29).trans s29
  have zG7_36 : G7 36 = _ := (congrFun hG7 36).trans s36
  refine yc_loop (fun m ds f w => (∃ (k n : Nat) (xs : List X), m = os.length - k ∧ k ≤ os.length ∧ n ≤ k ∧ Inv xs n ∧ ds = [] ∧ f 37 = .int .i64 (k : Int) ∧ SatL E w (ObjO b xs (104 * n) :: Cells b3 #[.int .i64 o.kind, .int .i64 o.i, .int .i64 o.j, .slice al o.ls.length cl, .int .i64 o.by_, .int .i64 o.plus] 28 :: Old W :: R)) ∧ (f 0 = G7 0 ∧ f 1 = G7 1 ∧ f 3 = G7 3 ∧ f 4 = G7 4 ∧ f 5 = G7 5 ∧ f 29 = G7 29 ∧ f 36 = G7 36)) (os.length) ⟨⟨0, 0, [], by omega, by omega, by omega, Inv.nil, rfl, s37, h⟩, ⟨congrFun hG7.symm 0, congrFun hG7.symm 1, congrFun hG7.symm 3, congrFun hG7.symm 4, congrFun hG7.symm 5, congrFun hG7.symm 29, congrFun hG7.symm 36⟩⟩ ?_
  rintro m ds g w ⟨⟨k, n, xs, hm, hk, hn, hinv, rfl, s37, h⟩, ⟨y0, y1, y3, y4, y5, y29, y36⟩⟩
  have s0 := y0.trans zG7_0
  have s1 := y1.trans zG7_1
  have s3 := y3.trans zG7_3
  have s4 := y4.trans zG7_4
  have s5 := y5.trans zG7_5
  have s29 := y29.trans zG7_29
  have s36 := y36.trans zG7_36
  refine yc_seq (fun K hK8 => ?_)
  refine yc_region ?_
  refine x_val (r_lss s37 s36 rfl) (nd_of rfl) rfl ?_
  refine xw_nil ?_
  refine hK8 _ _ _ ?_
  refine yc_gen (fun g hg => ?_)
  have s0 := (hg 0).trans (en rfl s0)
  have s1 := (hg 1).trans (en rfl s1)
  have s3 := (hg 3).trans (en rfl s3)
  have s4 := (hg 4).trans (en rfl s4)
  have s5 := (hg 5).trans (en rfl s5)
  have s29 := (hg 29).trans (en rfl s29)
  have s36 := (hg 36).trans (en rfl s36)
  have s37 := (hg 37).trans (en rfl s37)
  have s38 := (hg 38).trans es
  clear hg
  refine yc_seq (fun K hK9 => ?_)
  refine yc_cond s38 (fun hc => ?_) (fun hc => ?_)
  ·
    refine yc_skip ?_
    refine hK9 _ _ _ ?_
    refine yc_seq (fun K hK10 => ?_)
    refine yc_block ?_
    refine yc_seq (fun K hK11 => ?_)
    have hk2 : k < os.length := by have := of_decide_eq_true hc; omega
    obtain ⟨o2, ho⟩ : ∃ o2, os[k]? = some o2 := ⟨_, List.getElem?_eq_getElem hk2⟩
    obtain ⟨hwf, ad, rfl, hcell⟩ := hread k o2 ho
    obtain ⟨al2, cl2, hlv2, hlsp2⟩ := hwf.sp
    have hinl := hinv.len
    have hins := hinv.size
    have c3 : W.cell? ((ad.add (k * 6)).add 3) = some (.slice al2 o2.ls.length cl2) := by rw [← hlv2]; exact hcell 3 _ rfl
    refine yc_region ?_
    refine x_val (r_move s37) (nd_of rfl) rfl ?_
    refine x_val (r_assign es) (nd_of rfl) rfl ?_
    refine xw_nil ?_
    refine hK11 _ _ _ ?_
    refine yc_gen (fun g hg => ?_)
    have s0 := (hg 0).trans (en rfl (en rfl s0))
    have s1 := (hg 1).trans (en rfl (en rfl s1))
    have s3 := (hg 3).trans (en rfl (en rfl s3))
    have s4 := (hg 4).trans (en rfl (en rfl s4))
    have s5 := (hg 5).trans (en rfl (en rfl s5))
    have s6 := (hg 6).trans es
    have s29 := (hg 29).trans (en rfl (en rfl s29))
    have s36 := (hg 36).trans (en rfl (en rfl s36))
    have s37 := (hg 37).trans (en rfl (en rfl s37))
    have s38 := (hg 38).trans (en rfl (en rfl s38))
    clear hg
    refine yc_seq (fun K hK12 => ?_)
    refine yc_region ?_
    refine x_val (r_move s0) (nd_of rfl) rfl ?_
    refine x_val (r_move (en rfl s6)) (nd_of rfl) rfl ?_
    refine x_val (r_indexAny Try.underlying22 Try.sizeOf28 (en rfl es) es (by omega) (by omega)) (nd_of rfl) rfl ?_
    refine x_val (r_fieldAddrA Try.underlying28 rfl Try.sizeOf26 rfl es) (nd_of rfl) rfl ?_
    refine x_val (r_loadCell Try.isAgg26 es (h.oldCell 2 rfl c3)) (nd_of rfl) rfl ?_
    refine x_val (r_len Try.underlying26 es) (nd_of rfl) rfl ?_
    refine x_val (r_leq es ec rfl) (nd_of rfl) rfl ?_
    refine xw_nil ?_
    refine hK12 _ _ _ ?_
    refine yc_gen (fun g hg => ?_)
    have s0 := (hg 0).trans (en rfl (en rfl (en rfl (en rfl (en rfl (en rfl (en rfl s0)))))))
    have s1 := (hg 1).trans (en rfl (en rfl (en rfl (en rfl (en rfl (en rfl (en rfl s1)))))))
    have s3 := (hg 3).trans (en rfl (en rfl (en rfl (en rfl (en rfl (en rfl (en rfl s3)))))))
    have s4 := (hg 4).trans (en rfl (en rfl (en rfl (en rfl (en rfl (en rfl (en rfl s4)))))))
    have s5 := (hg 5).trans (en rfl (en rfl (en rfl (en rfl (en rfl (en rfl (en rfl s5)))))))
    have s6 := (hg 6).trans (en rfl (en rfl (en rfl (en rfl (en rfl (en rfl (en rfl s6)))))))
    have s29 := (hg 29).trans (en rfl (en rfl (en rfl (en rfl (en rfl (en rfl (en rfl s29)))))))
    have s36 := (hg 36).trans (en rfl (en rfl (en rfl (en rfl (en rfl (en rfl (en rfl s36)))))))
    have s37 := (hg 37).trans (en rfl (en rfl (en rfl (en rfl (en rfl (en rfl (en rfl s37)))))))
    have s38 := (hg 38).trans (en rfl (en rfl (en rfl (en rfl (en rfl (en rfl (en rfl s38)))))))
    have s46 := (hg 46).trans es
    clear hg
    refine yc_cond s46 (fun hc => ?_) (fun hc => ?_)
    ·
      have hle : o2.ls.length ≤ 100 := by have := of_decide_eq_true hc; omega
      refine yc_of_xc (xc_plan 16 [(0, 2), (1, 2), (2, 2), (3, 2), (4, 2), (5, 1), (6, 2), (7, 2), (8, 2), (9, 2), (10, 1), (11, 2), (12, 2), (13, 2), (14, 2), (15, 1), (16, 0)] (by kernel_rfl) rfl (by kernel_rfl) h ?_)
      have h := h.drew
      refine xp_read (i := 0) rfl (fun W => r_move s5) rfl (fun _ _ _ hh => by first | exact bodyR_np hh | exact bodyY_np hh | exact hh) ?_
      refine xp_read (i := 1) rfl (fun W => r_move (en rfl s0)) rfl (fun _ _ _ hh => by first | exact bodyR_np hh | exact bodyY_np hh | exact hh) ?_
      refine xp_read (i := 2) rfl (fun W => r_move (en rfl (en rfl s6))) rfl (fun _ _ _ hh => by first | exact bodyR_np hh | exact bodyY_np hh | exact hh) ?_
      refine xp_read (i := 3) rfl (fun W => r_indexAny Try.underlying22 Try.sizeOf28 (en rfl es) es (by omega) (by omega)) rfl (fun _ _ _ hh => by first | exact bodyR_np hh | exact bodyY_np hh | exact hh) ?_
      refine xp_read (i := 4) rfl (fun W => r_fieldAddrA Try.underlying28 rfl Try.sizeOf3 rfl es) rfl (fun _ _ _ hh => by first | exact bodyR_np hh | exact bodyY_np hh | exact hh) ?_
      refine xp_load (i := 5) rfl (fun W hW => r_loadCell Try.isAgg3 es (hW.oldCell 2 rfl (hcell 1 _ rfl))) rfl (fun _ _ _ hh => by first | exact bodyR_np hh | exact bodyY_np hh | exact hh) ?_
      refine xp_read (i := 6) rfl (fun W => r_move (en rfl (en rfl (en rfl (en rfl (en rfl (en rfl s0))))))) rfl (fun _ _ _ hh => by first | exact bodyR_np hh | exact bodyY_np hh | exact hh) ?_
      refine xp_read (i := 7) rfl (fun W => r_move (en rfl (en rfl (en rfl (en rfl (en rfl (en rfl (en rfl s6)))))))) rfl (fun _ _ _ hh => by first | exact bodyR_np hh | exact bodyY_np hh | exact hh) ?_
      refine xp_read (i := 8) rfl (fun W => r_indexAny Try.underlying22 Try.sizeOf28 (en rfl es) es (by omega) (by omega)) rfl (fun _ _ _ hh => by first | exact bodyR_np hh | exact bodyY_np hh | exact hh) ?_
      refine xp_read (i := 9) rfl (fun W => r_fieldAddrA Try.underlying28 rfl Try.sizeOf3 rfl es) rfl (fun _ _ _ hh => by first | exact bodyR_np hh | exact bodyY_np hh | exact hh) ?_
      refine xp_load (i := 10) rfl (fun W hW => r_loadCell Try.isAgg3 es (hW.oldCell 2 rfl (hcell 2 _ rfl))) rfl (fun _ _ _ hh => by first | exact bodyR_np hh | exact bodyY_np hh | exact hh) ?_
      refine xp_read (i := 11) rfl (fun W => r_move (en rfl (en rfl (en rfl (en rfl (en rfl (en rfl (en rfl (en rfl (en rfl (en rfl (en rfl s0)))))))))))) rfl (fun _ _ _ hh => by first | exact bodyR_np hh | exact bodyY_np hh | exact hh) ?_
      refine xp_read (i := 12) rfl (fun W => r_move (en rfl (en rfl (en rfl (en rfl (en rfl (en rfl (en rfl (en rfl (en rfl (en rfl (en rfl (en rfl s6))))))))))))) rfl (fun _ _ _ hh => by first | exact bodyR_np hh | exact bodyY_np hh | exact hh) ?_
      refine xp_read (i := 13) rfl (fun W => r_indexAny Try.underlying22 Try.sizeOf28 (en rfl es) es (by omega) (by omega)) rfl (fun _ _ _ hh => by first | exact bodyR_np hh | exact bodyY_np hh | exact hh) ?_
      refine xp_read (i := 14) rfl (fun W => r_fieldAddrA Try.underlying28 rfl Try.sizeOf26 rfl es) rfl (fun _ _ _ hh => by first | exact bodyR_np hh | exact bodyY_np hh | exact hh) ?_
      refine xp_load (i := 15) rfl (fun W hW => r_loadCell Try.isAgg26 es (hW.oldCell 2 rfl c3)) rfl (fun _ _ _ hh => by first | exact bodyR_np hh | exact bodyY_np hh | exact hh) ?_
      refine xp_enter (i := 16) rfl (r_call Try.call10 (.cons (en rfl (en rfl (en rfl (en rfl (en rfl (en rfl (en rfl (en rfl (en rfl (en rfl (en rfl (en rfl (en rfl (en rfl (en rfl es))))))))))))))) (.cons (en rfl (en rfl (en rfl (en rfl (en rfl (en rfl (en rfl (en rfl (en rfl (en rfl es)))))))))) (.cons (en rfl (en rfl (en rfl (en rfl (en rfl es))))) (.cons es .nil))))) rfl (splice_o (B' := 104 * (n + 1)) (hlv2 ▸ hwf.sp.rslc 1 rfl) hins (fun p hp => (hwf.sp.wf p hp).1) (by omega) (by omega) (by omega) h) ?_
      rintro _ w ⟨rfl, h⟩
      refine ⟨(fun hh => absurd rfl hh), ?_⟩
      refine xp_nil ?_
      refine hK10 _ _ _ ?_
      refine yc_gen (fun g hg => ?_)
      have s0 := (hg 0).trans (en rfl (en rfl (en rfl (en rfl (en rfl (en rfl (en rfl (en rfl (en rfl (en rfl (en rfl (en rfl (en rfl (en rfl (en rfl (en rfl (en rfl s0)))))))))))))))))
      have s1 := (hg 1).trans (en rfl (en rfl (en rfl (en rfl (en rfl (en rfl (en rfl (en rfl (en rfl (en rfl (en rfl (en rfl (en rfl (en rfl (en rfl (en rfl (en rfl s1)))))))))))))))))
      have s3 := (hg 3).trans (en rfl (en rfl (en rfl (en rfl (en rfl (en rfl (en rfl (en rfl (en rfl (en rfl (en rfl (en rfl (en rfl (en rfl (en rfl (en rfl (en rfl s3)))))))))))))))))
      have s4 := (hg 4).trans (en rfl (en rfl (en rfl (en rfl (en rfl (en rfl (en rfl (en rfl (en rfl (en rfl (en rfl (en rfl (en rfl (en rfl (en rfl (en rfl (en rfl s4)))))))))))))))))
      have s5 := (hg 5).trans (en rfl (en rfl (en rfl (en rfl (en rfl (en rfl (en rfl (en rfl (en rfl (en rfl (en rfl (en rfl (en rfl (en rfl (en rfl (en rfl (en rfl s5)))))))))))))))))
      have s6 := (hg 6).trans (en rfl (en rfl (en rfl (en rfl (en rfl (en rfl (en rfl (en rfl (en rfl (en rfl (en rfl (en rfl (en rfl (en rfl (en rfl (en rfl (en rfl s6)))))))))))))))))
      have s29 := (hg 29).trans (en rfl (en rfl (en rfl (en rfl (en rfl (en rfl (en rfl (en rfl (en rfl (en rfl (en rfl (en rfl (en rfl (en rfl (en rfl (en rfl (en rfl s29)))))))))))))))))
      have s36 := (hg 36).trans (en rfl (en rfl (en rfl (en rfl (en rfl (en rfl (en rfl (en rfl (en rfl (en rfl (en rfl (en rfl (en rfl (en rfl (en rfl (en rfl (en rfl s36)))))))))))))))))
      have s37 := (hg 37).trans (en rfl (en rfl (en rfl (en rfl (en rfl (en rfl (en rfl (en rfl (en rfl (en rfl (en rfl (en rfl (en rfl (en rfl (en rfl (en rfl (en rfl s37)))))))))))))))))
      have s38 := (hg 38).trans (en rfl (en rfl (en rfl (en rfl (en rfl (en rfl (en rfl (en rfl (en rfl (en rfl (en rfl (en rfl (en rfl (en rfl (en rfl (en rfl (en rfl s38)))))))))))))))))
      have s46 := (hg 46).trans (en rfl (en rfl (en rfl (en rfl (en rfl (en rfl (en rfl (en rfl (en rfl (en rfl (en rfl (en rfl (en rfl (en rfl (en rfl (en rfl (en rfl s46)))))))))))))))))
      clear hg
      refine yc_region ?_
      refine x_val (r_add s37 ec (show _ = (((k + 1 : Nat) : Int) : Int) from by omega) (by unfold I64; omega)) (nd_of rfl) rfl ?_
      refine x_val (r_move es) (nd_of rfl) rfl ?_
      refine xw_nil ?_
      exact ⟨os.length - (k + 1), by omega, ⟨k + 1, n + 1, _, rfl, by omega, by omega, hinv.splice hwf.sp.wf hle, rfl, es, h⟩, ⟨((en rfl (en rfl s0))).trans zG7_0.symm, ((en rfl (en rfl s1))).trans zG7_1.symm, ((en rfl (en rfl s3))).trans zG7_3.symm, ((en rfl (en rfl s4))).trans zG7_4.symm, ((en rfl (en rfl s5))).trans zG7_5.symm, ((en rfl (en rfl s29))).trans zG7_29.symm, ((en rfl (en rfl s36))).trans zG7_36.symm⟩⟩
    ·
      refine yc_skip ?_
      refine hK10 _ _ _ ?_
      refine yc_region ?_
      refine x_val (r_add s37 ec (show _ = (((k + 1 : Nat) : Int) : Int) from by omega) (by unfold I64; omega)) (nd_of rfl) rfl ?_
      refine x_val (r_move es) (nd_of rfl) rfl ?_
      refine xw_nil ?_
      exact ⟨os.length - (k + 1), by omega, ⟨k + 1, n, xs, rfl, by omega, by omega, hinv, rfl, es, h⟩, ⟨((en rfl (en rfl s0))).trans zG7_0.symm, ((en rfl (en rfl s1))).trans zG7_1.symm, ((en rfl (en rfl s3))).trans zG7_3.symm, ((en rfl (en rfl s4))).trans zG7_4.symm, ((en rfl (en rfl s5))).trans zG7_5.symm, ((en rfl (en rfl s29))).trans zG7_29.symm, ((en rfl (en rfl s36))).trans zG7_36.symm⟩⟩
  ·
    refine yc_exit ?_
    refine hK5 _ _ _ ?_
    refine yc_seq (fun K hK13 => ?_)
    have hinl := hinv.len
    have hins := hinv.size
    have hxok := h.objFacts.2.2
    refine yc_region ?_
    refine x_alloc1 h Try.zeroValue26 rfl rfl ?_
    intro b7 w h
    refine x_alloc1 h Try.zeroValue26 rfl rfl ?_
    intro b8 w h
    refine xw_nil ?_
    refine hK13 _ _ _ ?_
    refine yc_gen (fun g hg => ?_)
    have s0 := (hg 0).trans (en rfl (en rfl s0))
    have s1 := (hg 1).trans (en rfl (en rfl s1))
    have s3 := (hg 3).trans (en rfl (en rfl s3))
    have s4 := (hg 4).trans (en rfl (en rfl s4))
    have s5 := (hg 5).trans (en rfl (en rfl s5))
    have s7 := (hg 7).trans (en rfl es)
    have s8 := (hg 8).trans es
    have s29 := (hg 29).trans (en rfl (en rfl s29))
    have s36 := (hg 36).trans (en rfl (en rfl s36))
    have s37 := (hg 37).trans (en rfl (en rfl s37))
    have s38 := (hg 38).trans (en rfl (en rfl s38))
    clear hg
    refine yc_seq (fun K hK14 => ?_)
    refine yc_seq (fun K hK15 => ?_)
    refine yc_region ?_
    refine x_val (r_move s5) (nd_of rfl) rfl ?_
    have h := h.f2
    refine x_enter (r_call Try.call13 (.cons es .nil)) (nd_of rfl) rfl (all_o h) ?_
    rintro _ w ⟨c1, v1, rfl, h⟩
    refine xw_nil ?_
    refine hK15 _ _ _ ?_
    refine yc_gen (fun g hg => ?_)
    have s0 := (hg 0).trans (en rfl (en rfl s0))
    have s1 := (hg 1).trans (en rfl (en rfl s1))
    have s3 := (hg 3).trans (en rfl (en rfl s3))
    have s4 := (hg 4).trans (en rfl (en rfl s4))
    have s5 := (hg 5).trans (en rfl (en rfl s5))
    have s7 := (hg 7).trans (en rfl (en rfl s7))
    have s8 := (hg 8).trans (en rfl (en rfl s8))
    have s29 := (hg 29).trans (en rfl (en rfl s29))
    have s36 := (hg 36).trans (en rfl (en rfl s36))
    have s37 := (hg 37).trans (en rfl (en rfl s37))
    have s38 := (hg 38).trans (en rfl (en rfl s38))
    have s66 := (hg 66).trans es
    clear hg
    refine yc_block ?_
    refine yc_range s66 Try.call30 h ?_
    intro lp D fn tmps w htn htg h
    obtain ⟨lr, hlr, h⟩ := h.loopAbs
    have hR : ∀ (M : List SProp) (k2 : Nat) (x : X) (w : World), xs[k2]? = some x → SatL E w (M ++ (Acc b7 (xs.take k2) :: pt lp (.loop lr) :: pt D (.deferred (some [])) :: ObjO b xs (104 * n) :: Cells b8 #[.slice none 0 0] 26 :: Cells b3 #[.int .i64 o.kind, .int .i64 o.i, .int .i64 o.j, .slice al o.ls.length cl, .int .i64 o.by_, .int .i64 o.plus] 28 :: Old W :: R)) → FnOk Try.prog (.func (.yield lp) #[] #[]) [xV x] w (fun u w' => u = .bool true ∧ SatL E w' (M ++ (Acc b7 (xs.take (k2 + 1)) :: pt lp (.loop lr) :: pt D (.deferred (some [])) :: ObjO b xs (104 * n) :: Cells b8 #[.slice none 0 0] 26 :: Cells b3 #[.int .i64 o.kind, .int .i64 o.i, .int .i64 o.j, .slice al o.ls.length cl, .int .i64 o.by_, .int .i64 o.plus] 28 :: Old W :: R))) := by
      intro M k2 x w hx h; replace h := h.app; have hox := (hxok x (List.mem_of_getElem? hx)).cells; have htk : xs.take (k2 + 1) = xs.take k2 ++ [x] := (by rw [List.take_add_one, hx]; rfl); have hlk : (xs.take k2).length ≤ xs.length := (by rw [List.length_take]; omega); obtain ⟨u0, h⟩ := SatL.openAcc h; have h := h.f2
      subst hlr
      refine fnOk_round h rfl htn ?_
      refine xc_gen (fun g hg => ?_)
      have s0 := (hg 0).trans ((fold_get rfl).trans ((htg 0).trans s0))
      have s1 := (hg 1).trans ((fold_get rfl).trans ((htg 1).trans s1))
      have s3 := (hg 3).trans ((fold_get rfl).trans ((htg 3).trans s3))
      have s4 := (hg 4).trans ((fold_get rfl).trans ((htg 4).trans s4))
      have s5 := (hg 5).trans ((fold_get rfl).trans ((htg 5).trans s5))
      have s7 := (hg 7).trans ((fold_get rfl).trans ((htg 7).trans s7))
      have s8 := (hg 8).trans ((fold_get rfl).trans ((htg 8).trans s8))
      have s29 := (hg 29).trans ((fold_get rfl).trans ((htg 29).trans s29))
      have s36 := (hg 36).trans ((fold_get rfl).trans ((htg 36).trans s36))
      have s37 := (hg 37).trans ((fold_get rfl).trans ((htg 37).trans s37))
      have s38 := (hg 38).trans ((fold_get rfl).trans ((htg 38).trans s38))
      have s66 := (hg 66).trans ((fold_get rfl).trans ((htg 66).trans s66))
      have s67 := (hg 67).trans (fold1_0 (by rw [htn]; decide))
      clear hg
      refine xc_region ?_
      refine x_declA h Try.zeroValue34 Try.sizeOf34 rfl (en rfl s67) (by first | assumption | exact Ok.node (by assumption) | exact xOk.cells (by assumption) | exact ChOk.ok (by assumption)) rfl ?_
      intro b9 w h
      refine xw_nil ?_
      have h := h.f1
      refine thenR_mk ⟨_, _, rfl, h, fun w h => ?_⟩
      obtain ⟨lr2, hlr2, h⟩ := h.loopAbs
      refine xc_gen (fun g hg => ?_)
      have s0 := (hg 0).trans (en rfl s0)
      have s1 := (hg 1).trans (en rfl s1)
      have s3 := (hg 3).trans (en rfl s3)
      have s4 := (hg 4).trans (en rfl s4)
      have s5 := (hg 5).trans (en rfl s5)
      have s7 := (hg 7).trans (en rfl s7)
      have s8 := (hg 8).trans (en rfl s8)
      have s9 := (hg 9).trans es
      have s29 := (hg 29).trans (en rfl s29)
      have s36 := (hg 36).trans (en rfl s36)
      have s37 := (hg 37).trans (en rfl s37)
      have s38 := (hg 38).trans (en rfl s38)
      have s66 := (hg 66).trans (en rfl s66)
      have s67 := (hg 67).trans (en rfl s67)
      clear hg
      refine xc_block ?_
      refine xc_region ?_
      refine x_val (r_load h 2 rfl Try.isAgg26 s7 gc0) (nd_of rfl) rfl ?_
      refine x_val (r_loadAgg h 1 rfl Try.isAgg34 Try.sizeOf34 (en rfl s9) (Ok.le (by first | assumption | exact Ok.node (by assumption) | exact xOk.cells (by assumption) | exact ChOk.ok (by assumption))) (ext_full (Ok.size (by first | assumption | exact Ok.node (by assumption) | exact xOk.cells (by assumption) | exact ChOk.ok (by assumption))))) (nd_of rfl) rfl ?_
      refine x_bslice (c := xC x) h.f3 Try.underlying26 Try.sizeOf34 zX rfl rfl es rfl hox rfl ?_; intro bn w h; have h := h.f1
      refine x_append (bytes := 16) h Try.underlying26 (by kernel_rfl) (en rfl (en rfl es)) es ((Nat.one_mul _).symm ▸ hox) (by omega) (by omega) rfl ?_; intro u2 w h; have h := h.f1.drop; obtain ⟨au, cu, rfl, _, _⟩ := h.rowVal
      refine x_st (r_store h 3 rfl Try.sizeOf26 (en rfl (en rfl (en rfl (en rfl s7)))) es rfl gc0) rfl (h.u3 sc0) ?_
      intro w h
      refine xw_nil ?_
      have h := h.f2
      have h := h.f1
      have h := h.f3
      have h := h.f3
      subst hlr2; exact roundR_normal h fun w h => ⟨rfl, SatL.app (SatL.closeAcc (u := .slice au ((xs.take k2).length + 1) cu) (show SatL E w (_ :: Row _ KX (.slice au ((xs.take k2).length + 1) cu) (xs.take (k2 + 1)).length (flat (xs.take (k2 + 1))) :: _) by rw [htk, flat_app, xflat_one, List.length_append]; exact ((h.f3.drop.f1).f2).f1))⟩
    have h := h.f6
    have h := SatL.closeAcc (d := xs.take 0) (b := b7) (u := .slice none 0 0) ((h.rowNil (e := 34) (sz := KX)).f1)
    have h := h.f7
    have h := h.f7
    have h := h.f7
    have h := h.f5
    have h := h.f5
    have h := h.f5
    have h := h.f7
    have h := h.f7
    refine Calls.ret_mono (allit_t (IL := fun k2 => Acc b7 (xs.take k2) :: pt lp (.loop lr) :: pt D (.deferred (some [])) :: ObjO b xs (104 * n) :: Cells b8 #[.slice none 0 0] 26 :: Cells b3 #[.int .i64 o.kind, .int .i64 o.i, .int .i64 o.j, .slice al o.ls.length cl, .int .i64 o.by_, .int .i64 o.plus] 28 :: Old W :: R) hxok (by omega) hR h) ?_; rintro _ w h; subst hlr; refine ⟨_, _, (fun e => by cases e), ((h.f4).f4), ?_⟩; intro w h; rw [List.take_length] at h
    refine hK14 _ _ _ ?_
    refine yc_seq (fun K hK16 => ?_)
    have h := (h.f0).drop
    have h := (h.f1).drop
    have h := (h.f1).drop
    obtain ⟨u1, h⟩ := SatL.openAcc (h.f1)
    obtain ⟨au1, cu1, rfl, _, _⟩ := (h.f1).rowVal
    refine yc_region ?_
    refine x_val (r_move s5) (nd_of rfl) rfl ?_
    have h := h.f3
    refine x_enter (r_call Try.call14 (.cons es .nil)) (nd_of rfl) rfl (len_o h) ?_
    rintro _ w ⟨rfl, h⟩
    refine x_val (r_assign es) (nd_of rfl) rfl ?_
    refine xw_nil ?_
    refine hK16 _ _ _ ?_
    refine yc_gen (fun g hg => ?_)
    have s0 := (hg 0).trans (en rfl (en rfl (en rfl s0)))
    have s1 := (hg 1).trans (en rfl (en rfl (en rfl s1)))
    have s3 := (hg 3).trans (en rfl (en rfl (en rfl s3)))
    have s4 := (hg 4).trans (en rfl (en rfl (en rfl s4)))
    have s5 := (hg 5).trans (en rfl (en rfl (en rfl s5)))
    have s7 := (hg 7).trans (en rfl (en rfl (en rfl s7)))
    have s8 := (hg 8).trans (en rfl (en rfl (en rfl s8)))
    have s10 := (hg 10).trans es
    have s29 := (hg 29).trans (en rfl (en rfl (en rfl s29)))
    have s36 := (hg 36).trans (en rfl (en rfl (en rfl s36)))
    have s37 := (hg 37).trans (en rfl (en rfl (en rfl s37)))
    have s38 := (hg 38).trans (en rfl (en rfl (en rfl s38)))
    have s66 := (hg 66).trans (en rfl (en rfl (en rfl s66)))
    clear hg
    rcases Decidable.em (isPart (sz xs) o.i o.j) with hp | hp
    ·
      skip
      refine yc_seq (fun K hK17 => ?_)
      obtain ⟨PL, ePL⟩ : ∃ PL, PL = overL xs o.i.toNat o.j.toNat := ⟨_, rfl⟩
      have hol := over_len xs o.i.toNat o.j.toNat
      have how := over_wf (i := o.i.toNat) (j := o.j.toNat) hinv (by have := hp.1; have := hp.2.1; have := hp.2.2; omega)
      have hp3 := hp.2.2
      have hp1 := hp.1
      have hp2 := hp.2.1
      rw [← ePL] at hol how
      refine yc_region ?_
      refine x_val (r_move s5) (nd_of rfl) rfl ?_
      refine x_val (r_fieldAddr (o' := 1) Try.underlying28 rfl Try.sizeOf3 rfl (en rfl s3) rfl) (nd_of rfl) rfl ?_
      refine x_val (r_load h 5 rfl Try.isAgg3 es gc1) (nd_of rfl) rfl ?_
      refine x_val (r_fieldAddr (o' := 2) Try.underlying28 rfl Try.sizeOf3 rfl (en rfl (en rfl (en rfl s3))) rfl) (nd_of rfl) rfl ?_
      refine x_val (r_load h 5 rfl Try.isAgg3 es gc2) (nd_of rfl) rfl ?_
      refine x_enter (r_call Try.call11 (.cons (en rfl (en rfl (en rfl (en rfl es)))) (.cons (en rfl (en rfl es)) (.cons es .nil)))) (nd_of rfl) rfl (over_p hp h) ?_
      rintro _ w ⟨v2, rfl, h⟩
      rw [← ePL] at h
      obtain ⟨av2, cv2, rfl, _, _⟩ := h.rowVal
      refine x_val (r_move es) (nd_of rfl) rfl ?_
      refine x_val (r_extract es gc0) (nd_of rfl) rfl ?_
      refine x_val (r_extract (en rfl es) gc1) (nd_of rfl) rfl ?_
      refine x_val (r_assign (en rfl es)) (nd_of rfl) rfl ?_
      refine x_val (r_assign (en rfl es)) (nd_of rfl) rfl ?_
      refine xw_nil ?_
      refine hK17 _ _ _ ?_
      refine yc_gen (fun g hg => ?_)
      have s0 := (hg 0).trans (en rfl (en rfl (en rfl (en rfl (en rfl (en rfl (en rfl (en rfl (en rfl (en rfl (en rfl s0)))))))))))
      have s1 := (hg 1).trans (en rfl (en rfl (en rfl (en rfl (en rfl (en rfl (en rfl (en rfl (en rfl (en rfl (en rfl s1)))))))))))
      have s3 := (hg 3).trans (en rfl (en rfl (en rfl (en rfl (en rfl (en rfl (en rfl (en rfl (en rfl (en rfl (en rfl s3)))))))))))
      have s4 := (hg 4).trans (en rfl (en rfl (en rfl (en rfl (en rfl (en rfl (en rfl (en rfl (en rfl (en rfl (en rfl s4)))))))))))
      have s5 := (hg 5).trans (en rfl (en rfl (en rfl (en rfl (en rfl (en rfl (en rfl (en rfl (en rfl (en rfl (en rfl s5)))))))))))
      have s7 := (hg 7).trans (en rfl (en rfl (en rfl (en rfl (en rfl (en rfl (en rfl (en rfl (en rfl (en rfl (en rfl s7)))))))))))
      have s8 := (hg 8).trans (en rfl (en rfl (en rfl (en rfl (en rfl (en rfl (en rfl (en rfl (en rfl (en rfl (en rfl s8)))))))))))
      have s10 := (hg 10).trans (en rfl (en rfl (en rfl (en rfl (en rfl (en rfl (en rfl (en rfl (en rfl (en rfl (en rfl s10)))))))))))
      have s11 := (hg 11).trans (en rfl es)
      have s12 := (hg 12).trans es
      have s29 := (hg 29).trans (en rfl (en rfl (en rfl (en rfl (en rfl (en rfl (en rfl (en rfl (en rfl (en rfl (en rfl s29)))))))))))
      have s36 := (hg 36).trans (en rfl (en rfl (en rfl (en rfl (en rfl (en rfl (en rfl (en rfl (en rfl (en rfl (en rfl s36)))))))))))
      have s37 := (hg 37).trans (en rfl (en rfl (en rfl (en rfl (en rfl (en rfl (en rfl (en rfl (en rfl (en rfl (en rfl s37)))))))))))
      have s38 := (hg 38).trans (en rfl (en rfl (en rfl (en rfl (en rfl (en rfl (en rfl (en rfl (en rfl (en rfl (en rfl s38)))))))))))
      have s66 := (hg 66).trans (en rfl (en rfl (en rfl (en rfl (en rfl (en rfl (en rfl (en rfl (en rfl (en rfl (en rfl s66)))))))))))
      clear hg
      refine yc_seq (fun K hK18 => ?_)
      refine yc_seq (fun K hK19 => ?_)
      refine yc_region ?_
      refine x_val (r_move s12) (nd_of rfl) rfl ?_
      refine x_val (r_neq es ec (r := false) rfl) (nd_of rfl) rfl ?_
      refine x_val (r_move es) (nd_of rfl) rfl ?_
      refine x_take (d := 85) rfl rfl es ?_
      refine x_val (r_move (en rfl (en rfl (en rfl s5)))) (nd_of rfl) rfl ?_
      refine x_take (d := 85) rfl rfl (en rfl es) ?_
      refine x_val (r_fieldAddr (o' := 1) Try.underlying28 rfl Try.sizeOf3 rfl (en rfl (en rfl (en rfl (en rfl s3)))) rfl) (nd_of rfl) rfl ?_
      refine x_take (d := 85) rfl rfl (en rfl (en rfl es)) ?_
      refine x_val (r_load h 6 rfl Try.isAgg3 es gc1) (nd_of rfl) rfl ?_
      refine x_take (d := 85) rfl rfl (en rfl (en rfl (en rfl es))) ?_
      refine x_val (r_fieldAddr (o' := 2) Try.underlying28 rfl Try.sizeOf3 rfl (en rfl (en rfl (en rfl (en rfl (en rfl (en rfl s3)))))) rfl) (nd_of rfl) rfl ?_
      refine x_take (d := 85) rfl rfl (en rfl (en rfl (en rfl (en rfl es)))) ?_
      refine x_val (r_load h 6 rfl Try.isAgg3 es gc2) (nd_of rfl) rfl ?_
      refine x_take (d := 85) rfl rfl (en rfl (en rfl (en rfl (en rfl (en rfl es))))) ?_
      refine x_val (r_fieldAddr (o' := 3) Try.underlying28 rfl Try.sizeOf26 rfl (en rfl (en rfl (en rfl (en rfl (en rfl (en rfl (en rfl (en rfl s3)))))))) rfl) (nd_of rfl) rfl ?_
      refine x_take (d := 85) rfl rfl (en rfl (en rfl (en rfl (en rfl (en rfl (en rfl es)))))) ?_
      refine x_val (r_load h 6 rfl Try.isAgg26 es gc3) (nd_of rfl) rfl ?_
      refine x_take (d := 85) rfl rfl (en rfl (en rfl (en rfl (en rfl (en rfl (en rfl (en rfl es))))))) ?_
      have h := h.f1
      refine x_enter (r_call Try.call10 (.cons (en rfl (en rfl (en rfl (en rfl (en rfl (en rfl es)))))) (.cons (en rfl (en rfl (en rfl (en rfl es)))) (.cons (en rfl (en rfl es)) (.cons es .nil))))) (nd_of rfl) rfl (splice_o (B' := 104 * (n + 1)) (hsp0.rslc 6 rfl) hins (fun p hp => (hsp0.wf p hp).1) (by omega) (by omega) (by omega) h) ?_
      rintro _ w ⟨rfl, h⟩
      refine x_take (d := 85) rfl rfl (en rfl (en rfl (en rfl (en rfl (en rfl (en rfl (en rfl (en rfl es)))))))) ?_
      refine x_val (r_neq es ec rfl) (nd_of rfl) rfl ?_
      refine x_val (r_pick_f (en rfl (en rfl (en rfl (en rfl (en rfl (en rfl (en rfl (en rfl (en rfl es))))))))) es) (nd_of rfl) rfl ?_
      refine xw_nil ?_
      refine hK19 _ _ _ ?_
      refine yc_gen (fun g hg => ?_)
      have s0 := (hg 0).trans (en rfl (en rfl (en rfl (en rfl (en rfl (en rfl (en rfl (en rfl (en rfl (en rfl (en rfl (en rfl (en rfl s0)))))))))))))
      have s1 := (hg 1).trans (en rfl (en rfl (en rfl (en rfl (en rfl (en rfl (en rfl (en rfl (en rfl (en rfl (en rfl (en rfl (en rfl s1)))))))))))))
      have s3 := (hg 3).trans (en rfl (en rfl (en rfl (en rfl (en rfl (en rfl (en rfl (en rfl (en rfl (en rfl (en rfl (en rfl (en rfl s3)))))))))))))
      have s4 := (hg 4).trans (en rfl (en rfl (en rfl (en rfl (en rfl (en rfl (en rfl (en rfl (en rfl (en rfl (en rfl (en rfl (en rfl s4)))))))))))))
      have s5 := (hg 5).trans (en rfl (en rfl (en rfl (en rfl (en rfl (en rfl (en rfl (en rfl (en rfl (en rfl (en rfl (en rfl (en rfl s5)))))))))))))
      have s7 := (hg 7).trans (en rfl (en rfl (en rfl (en rfl (en rfl (en rfl (en rfl (en rfl (en rfl (en rfl (en rfl (en rfl (en rfl s7)))))))))))))
      have s8 := (hg 8).trans (en rfl (en rfl (en rfl (en rfl (en rfl (en rfl (en rfl (en rfl (en rfl (en rfl (en rfl (en rfl (en rfl s8)))))))))))))
      have s10 := (hg 10).trans (en rfl (en rfl (en rfl (en rfl (en rfl (en rfl (en rfl (en rfl (en rfl (en rfl (en rfl (en rfl (en rfl s10)))))))))))))
      have s11 := (hg 11).trans (en rfl (en rfl (en rfl (en rfl (en rfl (en rfl (en rfl (en rfl (en rfl (en rfl (en rfl (en rfl (en rfl s11)))))))))))))
      have s12 := (hg 12).trans (en rfl (en rfl (en rfl (en rfl (en rfl (en rfl (en rfl (en rfl (en rfl (en rfl (en rfl (en rfl (en rfl s12)))))))))))))
      have s29 := (hg 29).trans (en rfl (en rfl (en rfl (en rfl (en rfl (en rfl (en rfl (en rfl (en rfl (en rfl (en rfl (en rfl (en rfl s29)))))))))))))
      have s36 := (hg 36).trans (en rfl (en rfl (en rfl (en rfl (en rfl (en rfl (en rfl (en rfl (en rfl (en rfl (en rfl (en rfl (en rfl s36)))))))))))))
      have s37 := (hg 37).trans (en rfl (en rfl (en rfl (en rfl (en rfl (en rfl (en rfl (en rfl (en rfl (en rfl (en rfl (en rfl (en rfl s37)))))))))))))
      have s38 := (hg 38).trans (en rfl (en rfl (en rfl (en rfl (en rfl (en rfl (en rfl (en rfl (en rfl (en rfl (en rfl (en rfl (en rfl s38)))))))))))))
      have s66 := (hg 66).trans (en rfl (en rfl (en rfl (en rfl (en rfl (en rfl (en rfl (en rfl (en rfl (en rfl (en rfl (en rfl (en rfl s66)))))))))))))
      have s95 := (hg 95).trans es
      clear hg
      refine yc_cond s95 (fun hc => ?_) (fun hc => ?_)
      ·
        refine yc_seq (fun K hK20 => ?_)
        refine yc_region ?_
        refine x_enter (r_call Try.call9 .nil) (nd_of rfl) rfl (known_ok h) ?_
        rintro _ w ⟨rfl, h⟩
        have h := h.f4
        refine x_val (r_assign es) (nd_of rfl) rfl ?_
        refine xw_nil ?_
        refine hK20 _ _ _ ?_
        refine yc_gen (fun g hg => ?_)
        have s0 := (hg 0).trans (en rfl (en rfl s0))
        have s1 := (hg 1).trans (en rfl (en rfl s1))
        have s3 := (hg 3).trans (en rfl (en rfl s3))
        have s4 := (hg 4).trans es
        have s5 := (hg 5).trans (en rfl (en rfl s5))
        have s7 := (hg 7).trans (en rfl (en rfl s7))
        have s8 := (hg 8).trans (en rfl (en rfl s8))
        have s10 := (hg 10).trans (en rfl (en rfl s10))
        have s11 := (hg 11).trans (en rfl (en rfl s11))
        have s12 := (hg 12).trans (en rfl (en rfl s12))
        have s29 := (hg 29).trans (en rfl (en rfl s29))
        have s36 := (hg 36).trans (en rfl (en rfl s36))
        have s37 := (hg 37).trans (en rfl (en rfl s37))
        have s38 := (hg 38).trans (en rfl (en rfl s38))
        have s66 := (hg 66).trans (en rfl (en rfl s66))
        have s95 := (hg 95).trans (en rfl (en rfl s95))
        clear hg
        refine yc_ret ?_
        refine bodyY_mark h ?_; intro w h; refine bodyY_nil ?_
        refine bodyR_1 rfl s4 ?_
        exact ⟨rfl, h.drop.drop.drop.drop.drop.drop.drop⟩
      ·
        refine yc_skip ?_
        refine hK18 _ _ _ ?_
        refine yc_seq (fun K hK21 => ?_)
        have he0 : spliceE xs o.i o.j o.ls = 0 := by have := of_decide_eq_false hc; omega
        have hbl := back_lawZ hinv hp he0
        have hi2 := hinv.splice (i := o.i) (j := o.j) hsp0.wf hl2
        have hi2s := hi2.size
        have hi2l := hi2.len
        rw [← ePL] at hbl
        refine yc_region ?_
        refine x_val (r_move s5) (nd_of rfl) rfl ?_
        refine x_enter (r_call Try.call14 (.cons es .nil)) (nd_of rfl) rfl (len_o h) ?_
        rintro _ w ⟨rfl, h⟩
        refine x_val (r_move (en rfl (en rfl s10))) (nd_of rfl) rfl ?_
        refine x_val (r_sub (en rfl es) es (show _ = ((sz (spliceS xs o.i o.j o.ls) : Int) - sz xs : Int) from by rfl) (by unfold I64; omega)) (nd_of rfl) rfl ?_
        refine x_val (r_assign es) (nd_of rfl) rfl ?_
        refine xw_nil ?_
        refine hK21 _ _ _ ?_
        refine yc_gen (fun g hg => ?_)
        have s0 := (hg 0).trans (en rfl (en rfl (en rfl (en rfl (en rfl s0)))))
        have s1 := (hg 1).trans (en rfl (en rfl (en rfl (en rfl (en rfl s1)))))
        have s3 := (hg 3).trans (en rfl (en rfl (en rfl (en rfl (en rfl s3)))))
        have s4 := (hg 4).trans (en rfl (en rfl (en rfl (en rfl (en rfl s4)))))
        have s5 := (hg 5).trans (en rfl (en rfl (en rfl (en rfl (en rfl s5)))))
        have s7 := (hg 7).trans (en rfl (en rfl (en rfl (en rfl (en rfl s7)))))
        have s8 := (hg 8).trans (en rfl (en rfl (en rfl (en rfl (en rfl s8)))))
        have s10 := (hg 10).trans (en rfl (en rfl (en rfl (en rfl (en rfl s10)))))
        have s11 := (hg 11).trans (en rfl (en rfl (en rfl (en rfl (en rfl s11)))))
        have s12 := (hg 12).trans (en rfl (en rfl (en rfl (en rfl (en rfl s12)))))
        have s13 := (hg 13).trans es
        have s29 := (hg 29).trans (en rfl (en rfl (en rfl (en rfl (en rfl s29)))))
        have s36 := (hg 36).trans (en rfl (en rfl (en rfl (en rfl (en rfl s36)))))
        have s37 := (hg 37).trans (en rfl (en rfl (en rfl (en rfl (en rfl s37)))))
        have s38 := (hg 38).trans (en rfl (en rfl (en rfl (en rfl (en rfl s38)))))
        have s66 := (hg 66).trans (en rfl (en rfl (en rfl (en rfl (en rfl s66)))))
        have s95 := (hg 95).trans (en rfl (en rfl (en rfl (en rfl (en rfl s95)))))
        clear hg
        refine yc_seq (fun K hK22 => ?_)
        refine yc_seq (fun K hK23 => ?_)
        refine yc_region ?_
        refine x_val (r_move s5) (nd_of rfl) rfl ?_
        refine x_val (r_fieldAddr (o' := 1) Try.underlying28 rfl Try.sizeOf3 rfl (en rfl s3) rfl) (nd_of rfl) rfl ?_
        refine x_val (r_load h 6 rfl Try.isAgg3 es gc1) (nd_of rfl) rfl ?_
        refine x_val (r_fieldAddr (o' := 2) Try.underlying28 rfl Try.sizeOf3 rfl (en rfl (en rfl (en rfl s3))) rfl) (nd_of rfl) rfl ?_
        refine x_val (r_load h 6 rfl Try.isAgg3 es gc2) (nd_of rfl) rfl ?_
        refine x_val (r_move (en rfl (en rfl (en rfl (en rfl (en rfl s13)))))) (nd_of rfl) rfl ?_
        refine x_val (r_add (en rfl es) es (show _ = (o.j + ((sz (spliceS xs o.i o.j o.ls) : Int) - sz xs) : Int) from by rfl) (by unfold I64; omega)) (nd_of rfl) rfl ?_
        refine x_val (r_move (en rfl (en rfl (en rfl (en rfl (en rfl (en rfl (en rfl s11)))))))) (nd_of rfl) rfl ?_
        have h := h.f1
        have h := h.f1
        refine x_enter (r_call Try.call10 (.cons (en rfl (en rfl (en rfl (en rfl (en rfl (en rfl (en rfl es))))))) (.cons (en rfl (en rfl (en rfl (en rfl (en rfl es))))) (.cons (en rfl es) (.cons es .nil))))) (nd_of rfl) rfl (splice_o (B' := 104 * (2 * n + 3)) (xrow_rslc h.drop) hi2s (fun p hp => (how.1 p hp).1) (by rw [List.length_map]; omega) (by omega) (by omega) h) ?_
        rintro _ w ⟨rfl, h⟩
        rw [hbl.2] at h
        refine x_val (r_neq es ec (decide_eq_false (by exact fun hh => hh hbl.1))) (nd_of rfl) rfl ?_
        refine x_val (r_move es) (nd_of rfl) rfl ?_
        refine x_take (d := 111) rfl rfl es ?_
        refine x_val (r_move (en rfl (en rfl (en rfl (en rfl (en rfl (en rfl (en rfl (en rfl (en rfl (en rfl (en rfl s5)))))))))))) (nd_of rfl) rfl ?_
        refine x_take (d := 111) rfl rfl (en rfl es) ?_
        refine x_enter (r_call Try.call14 (.cons es .nil)) (nd_of rfl) rfl (len_o h) ?_
        rintro _ w ⟨rfl, h⟩
        refine x_take (d := 111) rfl rfl (en rfl (en rfl es)) ?_
        refine x_val (r_move (en rfl (en rfl (en rfl (en rfl (en rfl (en rfl (en rfl (en rfl (en rfl (en rfl (en rfl (en rfl (en rfl s10)))))))))))))) (nd_of rfl) rfl ?_
        refine x_take (d := 111) rfl rfl (en rfl (en rfl (en rfl es))) ?_
        refine x_val (r_neq (en rfl es) es (decide_eq_false (by simp))) (nd_of rfl) rfl ?_
        refine x_val (r_pick_f (en rfl (en rfl (en rfl (en rfl es)))) es) (nd_of rfl) rfl ?_
        refine xw_nil ?_
        refine hK23 _ _ _ ?_
        refine yc_gen (fun g hg => ?_)
        have s0 := (hg 0).trans (en rfl (en rfl (en rfl (en rfl (en rfl (en rfl (en rfl (en rfl (en rfl (en rfl (en rfl (en rfl (en rfl (en rfl (en rfl (en rfl s0))))))))))))))))
        have s1 := (hg 1).trans (en rfl (en rfl (en rfl (en rfl (en rfl (en rfl (en rfl (en rfl (en rfl (en rfl (en rfl (en rfl (en rfl (en rfl (en rfl (en rfl s1))))))))))))))))
        have s3 := (hg 3).trans (en rfl (en rfl (en rfl (en rfl (en rfl (en rfl (en rfl (en rfl (en rfl (en rfl (en rfl (en rfl (en rfl (en rfl (en rfl (en rfl s3))))))))))))))))
        have s4 := (hg 4).trans (en rfl (en rfl (en rfl (en rfl (en rfl (en rfl (en rfl (en rfl (en rfl (en rfl (en rfl (en rfl (en rfl (en rfl (en rfl (en rfl s4))))))))))))))))
        have s5 := (hg 5).trans (en rfl (en rfl (en rfl (en rfl (en rfl (en rfl (en rfl (en rfl (en rfl (en rfl (en rfl (en rfl (en rfl (en rfl (en rfl (en rfl s5))))))))))))))))
        have s7 := (hg 7).trans (en rfl (en rfl (en rfl (en rfl (en rfl (en rfl (en rfl (en rfl (en rfl (en rfl (en rfl (en rfl (en rfl (en rfl (en rfl (en rfl s7))))))))))))))))
        have s8 := (hg 8).trans (en rfl (en rfl (en rfl (en rfl (en rfl (en rfl (en rfl (en rfl (en rfl (en rfl (en rfl (en rfl (en rfl (en rfl (en rfl (en rfl s8))))))))))))))))
        have s10 := (hg 10).trans (en rfl (en rfl (en rfl (en rfl (en rfl (en rfl (en rfl (en rfl (en rfl (en rfl (en rfl (en rfl (en rfl (en rfl (en rfl (en rfl s10))))))))))))))))
        have s11 := (hg 11).trans (en rfl (en rfl (en rfl (en rfl (en rfl (en rfl (en rfl (en rfl (en rfl (en rfl (en rfl (en rfl (en rfl (en rfl (en rfl (en rfl s11))))))))))))))))
        have s12 := (hg 12).trans (en rfl (en rfl (en rfl (en rfl (en rfl (en rfl (en rfl (en rfl (en rfl (en rfl (en rfl (en rfl (en rfl (en rfl (en rfl (en rfl s12))))))))))))))))
        have s13 := (hg 13).trans (en rfl (en rfl (en rfl (en rfl (en rfl (en rfl (en rfl (en rfl (en rfl (en rfl (en rfl (en rfl (en rfl (en rfl (en rfl (en rfl s13))))))))))))))))
        have s29 := (hg 29).trans (en rfl (en rfl (en rfl (en rfl (en rfl (en rfl (en rfl (en rfl (en rfl (en rfl (en rfl (en rfl (en rfl (en rfl (en rfl (en rfl s29))))))))))))))))
        have s36 := (hg 36).trans (en rfl (en rfl (en rfl (en rfl (en rfl (en rfl (en rfl (en rfl (en rfl (en rfl (en rfl (en rfl (en rfl (en rfl (en rfl (en rfl s36))))))))))))))))
        have s37 := (hg 37).trans (en rfl (en rfl (en rfl (en rfl (en rfl (en rfl (en rfl (en rfl (en rfl (en rfl (en rfl (en rfl (en rfl (en rfl (en rfl (en rfl s37))))))))))))))))
        have s38 := (hg 38).trans (en rfl (en rfl (en rfl (en rfl (en rfl (en rfl (en rfl (en rfl (en rfl (en rfl (en rfl (en rfl (en rfl (en rfl (en rfl (en rfl s38))))))))))))))))
        have s66 := (hg 66).trans (en rfl (en rfl (en rfl (en rfl (en rfl (en rfl (en rfl (en rfl (en rfl (en rfl (en rfl (en rfl (en rfl (en rfl (en rfl (en rfl s66))))))))))))))))
        have s95 := (hg 95).trans (en rfl (en rfl (en rfl (en rfl (en rfl (en rfl (en rfl (en rfl (en rfl (en rfl (en rfl (en rfl (en rfl (en rfl (en rfl (en rfl s95))))))))))))))))
        have s116 := (hg 116).trans es
        clear hg
        refine yc_cond s116 (fun hc => by cases hc) (fun _ => ?_)
        refine yc_skip ?_
        refine hK22 _ _ _ ?_
        refine yc_seq (fun K hK24 => ?_)
        refine yc_seq (fun K hK25 => ?_)
        refine yc_region ?_
        refine x_val (r_move s5) (nd_of rfl) rfl ?_
        refine x_enter (r_call Try.call13 (.cons es .nil)) (nd_of rfl) rfl (all_o h) ?_
        rintro _ w ⟨c2, v3, rfl, h⟩
        refine xw_nil ?_
        refine hK25 _ _ _ ?_
        refine yc_gen (fun g hg => ?_)
        have s0 := (hg 0).trans (en rfl (en rfl s0))
        have s1 := (hg 1).trans (en rfl (en rfl s1))
        have s3 := (hg 3).trans (en rfl (en rfl s3))
        have s4 := (hg 4).trans (en rfl (en rfl s4))
        have s5 := (hg 5).trans (en rfl (en rfl s5))
        have s7 := (hg 7).trans (en rfl (en rfl s7))
        have s8 := (hg 8).trans (en rfl (en rfl s8))
        have s10 := (hg 10).trans (en rfl (en rfl s10))
        have s11 := (hg 11).trans (en rfl (en rfl s11))
        have s12 := (hg 12).trans (en rfl (en rfl s12))
        have s13 := (hg 13).trans (en rfl (en rfl s13))
        have s29 := (hg 29).trans (en rfl (en rfl s29))
        have s36 := (hg 36).trans (en rfl (en rfl s36))
        have s37 := (hg 37).trans (en rfl (en rfl s37))
        have s38 := (hg 38).trans (en rfl (en rfl s38))
        have s66 := (hg 66).trans (en rfl (en rfl s66))
        have s95 := (hg 95).trans (en rfl (en rfl s95))
        have s116 := (hg 116).trans (en rfl (en rfl s116))
        have s118 := (hg 118).trans es
        clear hg
        refine yc_block ?_
        refine yc_range s118 Try.call30 h ?_
        intro lp D2 fn tmps w htn htg h
        obtain ⟨lr, hlr, h⟩ := h.loopAbs
        have hR : ∀ (M : List SProp) (k2 : Nat) (x : X) (w : World), xs[k2]? = some x → SatL E w (M ++ (Acc b8 (xs.take k2) :: pt lp (.loop lr) :: pt D2 (.deferred (some [])) :: ObjO b xs (104 * (2 * n + 3)) :: XRow (.slice av2 PL.length cv2) PL :: Cells b7 #[.slice au1 xs.length cu1] 26 :: XRow (.slice au1 xs.length cu1) xs :: pt D (.deferred (some [])) :: Cells b3 #[.int .i64 o.kind, .int .i64 o.i, .int .i64 o.j, .slice al o.ls.length cl, .int .i64 o.by_, .int .i64 o.plus] 28 :: Old W :: R)) → FnOk Try.prog (.func (.yield lp) #[] #[]) [xV x] w (fun u w' => u = .bool true ∧ SatL E w' (M ++ (Acc b8 (xs.take (k2 + 1)) :: pt lp (.loop lr) :: pt D2 (.deferred (some [])) :: ObjO b xs (104 * (2 * n + 3)) :: XRow (.slice av2 PL.length cv2) PL :: Cells b7 #[.slice au1 xs.length cu1] 26 :: XRow (.slice au1 xs.length cu1) xs :: pt D (.deferred (some [])) :: Cells b3 #[.int .i64 o.kind, .int .i64 o.i, .int .i64 o.j, .slice al o.ls.length cl, .int .i64 o.by_, .int .i64 o.plus] 28 :: Old W :: R))) := by
          intro M k2 x w hx h; replace h := h.app; have hox := (hxok x (List.mem_of_getElem? hx)).cells; have htk : xs.take (k2 + 1) = xs.take k2 ++ [x] := (by rw [List.take_add_one, hx]; rfl); have hlk : (xs.take k2).length ≤ xs.length := (by rw [List.length_take]; omega); obtain ⟨u0, h⟩ := SatL.openAcc h; have h := h.f2
          subst hlr
          refine fnOk_round h rfl htn ?_
          refine xc_gen (fun g hg => ?_)
          have s0 := (hg 0).trans ((fold_get rfl).trans ((htg 0).trans s0))
          have s1 := (hg 1).trans ((fold_get rfl).trans ((htg 1).trans s1))
          have s3 := (hg 3).trans ((fold_get rfl).trans ((htg 3).trans s3))
          have s4 := (hg 4).trans ((fold_get rfl).trans ((htg 4).trans s4))
          have s5 := (hg 5).trans ((fold_get rfl).trans ((htg 5).trans s5))
          have s7 := (hg 7).trans ((fold_get rfl).trans ((htg 7).trans s7))
          have s8 := (hg 8).trans ((fold_get rfl).trans ((htg 8).trans s8))
          have s10 := (hg 10).trans ((fold_get rfl).trans ((htg 10).trans s10))
          have s11 := (hg 11).trans ((fold_get rfl).trans ((htg 11).trans s11))
          have s12 := (hg 12).trans ((fold_get rfl).trans ((htg 12).trans s12))
          have s13 := (hg 13).trans ((fold_get rfl).trans ((htg 13).trans s13))
          have s29 := (hg 29).trans ((fold_get rfl).trans ((htg 29).trans s29))
          have s36 := (hg 36).trans ((fold_get rfl).trans ((htg 36).trans s36))
          have s37 := (hg 37).trans ((fold_get rfl).trans ((htg 37).trans s37))
          have s38 := (hg 38).trans ((fold_get rfl).trans ((htg 38).trans s38))
          have s66 := (hg 66).trans ((fold_get rfl).trans ((htg 66).trans s66))
          have s95 := (hg 95).trans ((fold_get rfl).trans ((htg 95).trans s95))
          have s116 := (hg 116).trans ((fold_get rfl).trans ((htg 116).trans s116))
          have s118 := (hg 118).trans ((fold_get rfl).trans ((htg 118).trans s118))
          have s119 := (hg 119).trans (fold1_0 (by rw [htn]; decide))
          clear hg
          refine xc_region ?_
          refine x_declA h Try.zeroValue34 Try.sizeOf34 rfl (en rfl s119) (by first | assumption | exact Ok.node (by assumption) | exact xOk.cells (by assumption) | exact ChOk.ok (by assumption)) rfl ?_
          intro b14 w h
          refine xw_nil ?_
          have h := h.f1
          refine thenR_mk ⟨_, _, rfl, h, fun w h => ?_⟩
          obtain ⟨lr2, hlr2, h⟩ := h.loopAbs
          refine xc_gen (fun g hg => ?_)
          have s0 := (hg 0).trans (en rfl s0)
          have s1 := (hg 1).trans (en rfl s1)
          have s3 := (hg 3).trans (en rfl s3)
          have s4 := (hg 4).trans (en rfl s4)
          have s5 := (hg 5).trans (en rfl s5)
          have s7 := (hg 7).trans (en rfl s7)
          have s8 := (hg 8).trans (en rfl s8)
          have s10 := (hg 10).trans (en rfl s10)
          have s11 := (hg 11).trans (en rfl s11)
          have s12 := (hg 12).trans (en rfl s12)
          have s13 := (hg 13).trans (en rfl s13)
          have s14 := (hg 14).trans es
          have s29 := (hg 29).trans (en rfl s29)
          have s36 := (hg 36).trans (en rfl s36)
          have s37 := (hg 37).trans (en rfl s37)
          have s38 := (hg 38).trans (en rfl s38)
          have s66 := (hg 66).trans (en rfl s66)
          have s95 := (hg 95).trans (en rfl s95)
          have s116 := (hg 116).trans (en rfl s116)
          have s118 := (hg 118).trans (en rfl s118)
          have s119 := (hg 119).trans (en rfl s119)
          clear hg
          refine xc_block ?_
          refine xc_region ?_
          refine x_val (r_load h 2 rfl Try.isAgg26 s8 gc0) (nd_of rfl) rfl ?_
          refine x_val (r_loadAgg h 1 rfl Try.isAgg34 Try.sizeOf34 (en rfl s14) (Ok.le (by first | assumption | exact Ok.node (by assumption) | exact xOk.cells (by assumption) | exact ChOk.ok (by assumption))) (ext_full (Ok.size (by first | assumption | exact Ok.node (by assumption) | exact xOk.cells (by assumption) | exact ChOk.ok (by assumption))))) (nd_of rfl) rfl ?_
          refine x_bslice (c := xC x) h.f3 Try.underlying26 Try.sizeOf34 zX rfl rfl es rfl hox rfl ?_; intro bn w h; have h := h.f1
          refine x_append (bytes := 16) h Try.underlying26 (by kernel_rfl) (en rfl (en rfl es)) es ((Nat.one_mul _).symm ▸ hox) (by omega) (by omega) rfl ?_; intro u2 w h; have h := h.f1.drop; obtain ⟨au, cu, rfl, _, _⟩ := h.rowVal
          refine x_st (r_store h 3 rfl Try.sizeOf26 (en rfl (en rfl (en rfl (en rfl s8)))) es rfl gc0) rfl (h.u3 sc0) ?_
          intro w h
          refine xw_nil ?_
          have h := h.f2
          have h := h.f1
          have h := h.f3
          have h := h.f3
          subst hlr2; exact roundR_normal h fun w h => ⟨rfl, SatL.app (SatL.closeAcc (u := .slice au ((xs.take k2).length + 1) cu) (show SatL E w (_ :: Row _ KX (.slice au ((xs.take k2).length + 1) cu) (xs.take (k2 + 1)).length (flat (xs.take (k2 + 1))) :: _) by rw [htk, flat_app, xflat_one, List.length_append]; exact ((h.f3.drop.f1).f2).f1))⟩
        have h := h.f9
        have h := SatL.closeAcc (d := xs.take 0) (b := b8) (u := .slice none 0 0) ((h.rowNil (e := 34) (sz := KX)).f1)
        have h := h.f8
        have h := h.f8
        have h := h.f8
        have h := h.f8
        have h := h.f6
        have h := h.f6
        have h := h.f6
        have h := h.f8
        have h := h.f8
        refine Calls.ret_mono (allit_t (IL := fun k2 => Acc b8 (xs.take k2) :: pt lp (.loop lr) :: pt D2 (.deferred (some [])) :: ObjO b xs (104 * (2 * n + 3)) :: XRow (.slice av2 PL.length cv2) PL :: Cells b7 #[.slice au1 xs.length cu1] 26 :: XRow (.slice au1 xs.length cu1) xs :: pt D (.deferred (some [])) :: Cells b3 #[.int .i64 o.kind, .int .i64 o.i, .int .i64 o.j, .slice al o.ls.length cl, .int .i64 o.by_, .int .i64 o.plus] 28 :: Old W :: R) hxok (by omega) hR h) ?_; rintro _ w h; subst hlr; refine ⟨_, _, (fun e => by cases e), ((h.f4).f4), ?_⟩; intro w h; rw [List.take_length] at h
        refine hK24 _ _ _ ?_
        refine yc_seq (fun K hK26 => ?_)
        refine yc_seq (fun K hK27 => ?_)
        have h := (h.f0).drop
        have h := (h.f1).drop
        have h := (h.f1).drop
        obtain ⟨u2, h⟩ := SatL.openAcc (h.f1)
        obtain ⟨au2, cu2, rfl, _, _⟩ := (h.f1).rowVal
        refine yc_region ?_
        refine x_val (r_load h 5 rfl Try.isAgg26 s7 gc0) (nd_of rfl) rfl ?_
        refine x_val (r_len Try.underlying26 es) (nd_of rfl) rfl ?_
        refine x_val (r_load h 0 rfl Try.isAgg26 (en rfl (en rfl s8)) gc0) (nd_of rfl) rfl ?_
        refine x_val (r_len Try.underlying26 es) (nd_of rfl) rfl ?_
        refine x_val (r_neq (en rfl (en rfl es)) es (decide_eq_false (by simp))) (nd_of rfl) rfl ?_
        refine xw_nil ?_
        refine hK27 _ _ _ ?_
        refine yc_gen (fun g hg => ?_)
        have s0 := (hg 0).trans (en rfl (en rfl (en rfl (en rfl (en rfl s0)))))
        have s1 := (hg 1).trans (en rfl (en rfl (en rfl (en rfl (en rfl s1)))))
        have s3 := (hg 3).trans (en rfl (en rfl (en rfl (en rfl (en rfl s3)))))
        have s4 := (hg 4).trans (en rfl (en rfl (en rfl (en rfl (en rfl s4)))))
        have s5 := (hg 5).trans (en rfl (en rfl (en rfl (en rfl (en rfl s5)))))
        have s7 := (hg 7).trans (en rfl (en rfl (en rfl (en rfl (en rfl s7)))))
        have s8 := (hg 8).trans (en rfl (en rfl (en rfl (en rfl (en rfl s8)))))
        have s10 := (hg 10).trans (en rfl (en rfl (en rfl (en rfl (en rfl s10)))))
        have s11 := (hg 11).trans (en rfl (en rfl (en rfl (en rfl (en rfl s11)))))
        have s12 := (hg 12).trans (en rfl (en rfl (en rfl (en rfl (en rfl s12)))))
        have s13 := (hg 13).trans (en rfl (en rfl (en rfl (en rfl (en rfl s13)))))
        have s29 := (hg 29).trans (en rfl (en rfl (en rfl (en rfl (en rfl s29)))))
        have s36 := (hg 36).trans (en rfl (en rfl (en rfl (en rfl (en rfl s36)))))
        have s37 := (hg 37).trans (en rfl (en rfl (en rfl (en rfl (en rfl s37)))))
        have s38 := (hg 38).trans (en rfl (en rfl (en rfl (en rfl (en rfl s38)))))
        have s66 := (hg 66).trans (en rfl (en rfl (en rfl (en rfl (en rfl s66)))))
        have s95 := (hg 95).trans (en rfl (en rfl (en rfl (en rfl (en rfl s95)))))
        have s116 := (hg 116).trans (en rfl (en rfl (en rfl (en rfl (en rfl s116)))))
        have s118 := (hg 118).trans (en rfl (en rfl (en rfl (en rfl (en rfl s118)))))
        have s128 := (hg 128).trans es
        clear hg
        refine yc_cond s128 (fun hc => by cases hc) (fun _ => ?_)
        refine yc_skip ?_
        refine hK26 _ _ _ ?_
        refine yc_seq (fun K hK28 => ?_)
        refine yc_seq (fun K hK29 => ?_)
        refine yc_region ?_
        refine x_val (r_load h 5 rfl Try.isAgg26 s7 gc0) (nd_of rfl) rfl ?_
        refine x_val (r_len Try.underlying26 es) (nd_of rfl) rfl ?_
        refine x_val (r_move ec) (nd_of rfl) rfl ?_
        refine xw_nil ?_
        refine hK29 _ _ _ ?_
        refine yc_gen (fun g hg => ?_)
        have s0 := (hg 0).trans (en rfl (en rfl (en rfl s0)))
        have s1 := (hg 1).trans (en rfl (en rfl (en rfl s1)))
        have s3 := (hg 3).trans (en rfl (en rfl (en rfl s3)))
        have s4 := (hg 4).trans (en rfl (en rfl (en rfl s4)))
        have s5 := (hg 5).trans (en rfl (en rfl (en rfl s5)))
        have s7 := (hg 7).trans (en rfl (en rfl (en rfl s7)))
        have s8 := (hg 8).trans (en rfl (en rfl (en rfl s8)))
        have s10 := (hg 10).trans (en rfl (en rfl (en rfl s10)))
        have s11 := (hg 11).trans (en rfl (en rfl (en rfl s11)))
        have s12 := (hg 12).trans (en rfl (en rfl (en rfl s12)))
        have s13 := (hg 13).trans (en rfl (en rfl (en rfl s13)))
        have s29 := (hg 29).trans (en rfl (en rfl (en rfl s29)))
        have s36 := (hg 36).trans (en rfl (en rfl (en rfl s36)))
        have s37 := (hg 37).trans (en rfl (en rfl (en rfl s37)))
        have s38 := (hg 38).trans (en rfl (en rfl (en rfl s38)))
        have s66 := (hg 66).trans (en rfl (en rfl (en rfl s66)))
        have s95 := (hg 95).trans (en rfl (en rfl (en rfl s95)))
        have s116 := (hg 116).trans (en rfl (en rfl (en rfl s116)))
        have s118 := (hg 118).trans (en rfl (en rfl (en rfl s118)))
        have s128 := (hg 128).trans (en rfl (en rfl (en rfl s128)))
        have s130 := (hg 130).trans (en rfl es)
        have s131 := (hg 131).trans es
        clear hg
        refine yc_block ?_
        obtain ⟨G30, hG30⟩ : ∃ g0 : Nat → Value, g0 = g := ⟨_, rfl⟩
        have zG30_0 : G30 0 = _ := (congrFun hG30 0).trans s0
        have zG30_1 : G30 1 = _ := (congrFun hG30 1).trans s1
        have zG30_3 : G30 3 = _ := (congrFun hG30 3).trans s3
        have zG30_5 : G30 5 = _ := (congrFun hG30 5).trans s5
        have zG30_7 : G30 7 = _ := (congrFun hG30 7).trans s7
        have zG30_8 : G30 8 = _ := (congrFun hG30 8).trans s8
        have zG30_10 : G30 10 = _ := (congrFun hG30 10).trans s10
        have zG30_11 : G30 11 = _ := (congrFun hG30 11).trans s11
        have zG30_12 : G30 12 = _ := (congrFun hG30 12).trans s12
        have zG30_13 : G30 13 = _ := (congrFun hG30 13).trans s13
        have zG30_29 : G30 29 = _ := (congrFun hG30 29).trans s29
        have zG30_36 : G30 36 = _ := (congrFun hG30 36).trans s36
        have zG30_37 : G30 37 = _ := (congrFun hG30 37).trans s37
        have zG30_38 : G30 38 = _ := (congrFun hG30 38).trans s38
        have zG30_66 : G30 66 = _ := (congrFun hG30 66).trans s66
        have zG30_95 : G30 95 = _ := (congrFun hG30 95).trans s95
        have zG30_116 : G30 116 = _ := (congrFun hG30 116).trans s116
        have zG30_118 : G30 118 = _ := (congrFun hG30 118).trans s118
        have zG30_128 : G30 128 = _ := (congrFun hG30 128).trans s128
        have zG30_130 : G30 130 = _ := (congrFun hG30 130).trans s130
        refine yc_loop (fun m ds f w => (∃ k : Nat, m = xs.length - k ∧ k ≤ xs.length ∧ ds = [mark D2, mark D] ∧ f 131 = .int .i64 (k : Int) ∧ SatL E w (Cells b8 #[.slice au2 xs.length cu2] 26 :: XRow (.slice au2 xs.length cu2) xs :: pt D2 (.deferred (some [])) :: ObjO b xs (104 * (2 * n + 3)) :: XRow (.slice av2 PL.length cv2) PL :: Cells b7 #[.slice au1 xs.length cu1] 26 :: XRow (.slice au1 xs.length cu1) xs :: pt D (.deferred (some [])) :: Cells b3 #[.int .i64 o.kind, .int .i64 o.i, .int .i64 o.j, .slice al o.ls.length cl, .int .i64 o.by_, .int .i64 o.plus] 28 :: Old W :: R)) ∧ (f 0 = G30 0 ∧ f 1 = G30 1 ∧ f 3 = G30 3 ∧ f 5 = G30 5 ∧ f 7 = G30 7 ∧ f 8 = G30 8 ∧ f 10 = G30 10 ∧ f 11 = G30 11 ∧ f 12 = G30 12 ∧ f 13 = G30 13 ∧ f 29 = G30 29 ∧ f 36 = G30 36 ∧ f 37 = G30 37 ∧ f 38 = G30 38 ∧ f 66 = G30 66 ∧ f 95 = G30 95 ∧ f 116 = G30 116 ∧ f 118 = G30 118 ∧ f 128 = G30 128 ∧ f 130 = G30 130)) (xs.length) ⟨⟨0, by omega, by omega, rfl, s131, h⟩, ⟨congrFun hG30.symm 0, congrFun hG30.symm 1, congrFun hG30.symm 3, congrFun hG30.symm 5, congrFun hG30.symm 7, congrFun hG30.symm 8, congrFun hG30.symm 10, congrFun hG30.symm 11, congrFun hG30.symm 12, congrFun hG30.symm 13, congrFun hG30.symm 29, congrFun hG30.symm 36, congrFun hG30.symm 37, congrFun hG30.symm 38, congrFun hG30.symm 66, congrFun hG30.symm 95, congrFun hG30.symm 116, congrFun hG30.symm 118, congrFun hG30.symm 128, congrFun hG30.symm 130⟩⟩ ?_
        rintro m ds g w ⟨⟨k, hm, hk, rfl, s131, h⟩, ⟨y0, y1, y3, y5, y7, y8, y10, y11, y12, y13, y29, y36, y37, y38, y66, y95, y116, y118, y128, y130⟩⟩
        have s0 := y0.trans zG30_0
        have s1 := y1.trans zG30_1
        have s3 := y3.trans zG30_3
        have s5 := y5.trans zG30_5
        have s7 := y7.trans zG30_7
        have s8 := y8.trans zG30_8
        have s10 := y10.trans zG30_10
        have s11 := y11.trans zG30_11
        have s12 := y12.trans zG30_12
        have s13 := y13.trans zG30_13
        have s29 := y29.trans zG30_29
        have s36 := y36.trans zG30_36
        have s37 := y37.trans zG30_37
        have s38 := y38.trans zG30_38
        have s66 := y66.trans zG30_66
        have s95 := y95.trans zG30_95
        have s116 := y116.trans zG30_116
        have s118 := y118.trans zG30_118
        have s128 := y128.trans zG30_128
        have s130 := y130.trans zG30_130
        refine yc_seq (fun K hK31 => ?_)
        refine yc_region ?_
        refine x_val (r_lss s131 s130 rfl) (nd_of rfl) rfl ?_
        refine xw_nil ?_
        refine hK31 _ _ _ ?_
        refine yc_gen (fun g hg => ?_)
        have s0 := (hg 0).trans (en rfl s0)
        have s1 := (hg 1).trans (en rfl s1)
        have s3 := (hg 3).trans (en rfl s3)
        have s5 := (hg 5).trans (en rfl s5)
        have s7 := (hg 7).trans (en rfl s7)
        have s8 := (hg 8).trans (en rfl s8)
        have s10 := (hg 10).trans (en rfl s10)
        have s11 := (hg 11).trans (en rfl s11)
        have s12 := (hg 12).trans (en rfl s12)
        have s13 := (hg 13).trans (en rfl s13)
        have s29 := (hg 29).trans (en rfl s29)
        have s36 := (hg 36).trans (en rfl s36)
        have s37 := (hg 37).trans (en rfl s37)
        have s38 := (hg 38).trans (en rfl s38)
        have s66 := (hg 66).trans (en rfl s66)
        have s95 := (hg 95).trans (en rfl s95)
        have s116 := (hg 116).trans (en rfl s116)
        have s118 := (hg 118).trans (en rfl s118)
        have s128 := (hg 128).trans (en rfl s128)
        have s130 := (hg 130).trans (en rfl s130)
        have s131 := (hg 131).trans (en rfl s131)
        have s132 := (hg 132).trans es
        clear hg
        refine yc_seq (fun K hK32 => ?_)
        refine yc_cond s132 (fun hc => ?_) (fun hc => ?_)
        ·
          refine yc_skip ?_
          refine hK32 _ _ _ ?_
          refine yc_seq (fun K hK33 => ?_)
          refine yc_block ?_
          refine yc_seq (fun K hK34 => ?_)
          have hi : k < xs.length := by have := of_decide_eq_true hc; omega
          obtain ⟨x, hx⟩ : ∃ x, xs[k]? = some x := ⟨_, List.getElem?_eq_getElem hi⟩
          have hpx : (xs.map toR)[k]? = some (toR x) := by rw [List.getElem?_map, hx]; rfl
          have hwx : wfR (toR x) := (hinv.wf x (List.mem_of_getElem? hx)).1
          obtain ⟨a9, c9, e9, hrd⟩ := xrow_rslc h.f1
          rw [List.length_map] at e9
          cases e9
          obtain ⟨a8, c8, e8, hrd2⟩ := xrow_rslc h.f6
          rw [List.length_map] at e8
          cases e8
          obtain ⟨ad, rfl, hcell⟩ := hrd _ h.f1 k _ hpx
          obtain ⟨ad2, rfl, hcell2⟩ := hrd2 _ h.f6 k _ hpx
          refine yc_region ?_
          refine x_val (r_move s131) (nd_of rfl) rfl ?_
          refine x_val (r_assign es) (nd_of rfl) rfl ?_
          refine xw_nil ?_
          refine hK34 _ _ _ ?_
          refine yc_gen (fun g hg => ?_)
          have s0 := (hg 0).trans (en rfl (en rfl s0))
          have s1 := (hg 1).trans (en rfl (en rfl s1))
          have s3 := (hg 3).trans (en rfl (en rfl s3))
          have s5 := (hg 5).trans (en rfl (en rfl s5))
          have s7 := (hg 7).trans (en rfl (en rfl s7))
          have s8 := (hg 8).trans (en rfl (en rfl s8))
          have s10 := (hg 10).trans (en rfl (en rfl s10))
          have s11 := (hg 11).trans (en rfl (en rfl s11))
          have s12 := (hg 12).trans (en rfl (en rfl s12))
          have s13 := (hg 13).trans (en rfl (en rfl s13))
          have s15 := (hg 15).trans es
          have s29 := (hg 29).trans (en rfl (en rfl s29))
          have s36 := (hg 36).trans (en rfl (en rfl s36))
          have s37 := (hg 37).trans (en rfl (en rfl s37))
          have s38 := (hg 38).trans (en rfl (en rfl s38))
          have s66 := (hg 66).trans (en rfl (en rfl s66))
          have s95 := (hg 95).trans (en rfl (en rfl s95))
          have s116 := (hg 116).trans (en rfl (en rfl s116))
          have s118 := (hg 118).trans (en rfl (en rfl s118))
          have s128 := (hg 128).trans (en rfl (en rfl s128))
          have s130 := (hg 130).trans (en rfl (en rfl s130))
          have s131 := (hg 131).trans (en rfl (en rfl s131))
          have s132 := (hg 132).trans (en rfl (en rfl s132))
          clear hg
          refine yc_seq (fun K hK35 => ?_)
          refine yc_of_xc (xc_plan 9 [(0, 1), (1, 2), (2, 2), (3, 1), (4, 1), (5, 2), (6, 2), (7, 1), (8, 2)] (by kernel_rfl) rfl (by kernel_rfl) h ?_)
          have h := h.drew
          refine xp_load (i := 0) rfl (fun W hW => r_load hW 5 rfl Try.isAgg26 s7 gc0) rfl (fun _ _ _ hh => by first | exact bodyR_np hh | exact bodyY_np hh | exact hh) ?_
          refine xp_read (i := 1) rfl (fun W => r_move (en rfl s15)) rfl (fun _ _ _ hh => by first | exact bodyR_np hh | exact bodyY_np hh | exact hh) ?_
          refine xp_read (i := 2) rfl (fun W => r_indexAny Try.underlying26 Try.sizeOf34 (en rfl es) es (by omega) (by omega)) rfl (fun _ _ _ hh => by first | exact bodyR_np hh | exact bodyY_np hh | exact hh) ?_
          refine xp_load (i := 3) rfl (fun W hW => r_loadAggAt Try.isAgg34 Try.sizeOf34 es rfl (by obtain ⟨b1, e1, c1⟩ := hrd2 _ hW.f6 k _ hpx; cases e1; exact c1)) rfl (fun _ _ _ hh => by first | exact bodyR_np hh | exact bodyY_np hh | exact hh) ?_
          refine xp_load (i := 4) rfl (fun W hW => r_load hW 0 rfl Try.isAgg26 (en rfl (en rfl (en rfl (en rfl s8)))) gc0) rfl (fun _ _ _ hh => by first | exact bodyR_np hh | exact bodyY_np hh | exact hh) ?_
          refine xp_read (i := 5) rfl (fun W => r_move (en rfl (en rfl (en rfl (en rfl (en rfl s15)))))) rfl (fun _ _ _ hh => by first | exact bodyR_np hh | exact bodyY_np hh | exact hh) ?_
          refine xp_read (i := 6) rfl (fun W => r_indexAny Try.underlying26 Try.sizeOf34 (en rfl es) es (by omega) (by omega)) rfl (fun _ _ _ hh => by first | exact bodyR_np hh | exact bodyY_np hh | exact hh) ?_
          refine xp_load (i := 7) rfl (fun W hW => r_loadAggAt Try.isAgg34 Try.sizeOf34 es rfl (by obtain ⟨b1, e1, c1⟩ := hrd _ hW.f1 k _ hpx; cases e1; exact c1)) rfl (fun _ _ _ hh => by first | exact bodyR_np hh | exact bodyY_np hh | exact hh) ?_
          refine xp_read (i := 8) rfl (fun W => r_neqSp hwx hwx (en rfl (en rfl (en rfl (en rfl es)))) es Try.underlying34 Try.underlying3 Try.underlying3 (by kernel_rfl) (by kernel_rfl) (by kernel_rfl) rfl rfl (by decide) (by decide) (by kernel_rfl) (by kernel_rfl) (r := false) (by simp)) rfl (fun _ _ _ hh => by first | exact bodyR_np hh | exact bodyY_np hh | exact hh) ?_
          refine xp_nil ?_
          refine hK35 _ _ _ ?_
          refine yc_gen (fun g hg => ?_)
          have s0 := (hg 0).trans (en rfl (en rfl (en rfl (en rfl (en rfl (en rfl (en rfl (en rfl (en rfl s0)))))))))
          have s1 := (hg 1).trans (en rfl (en rfl (en rfl (en rfl (en rfl (en rfl (en rfl (en rfl (en rfl s1)))))))))
          have s3 := (hg 3).trans (en rfl (en rfl (en rfl (en rfl (en rfl (en rfl (en rfl (en rfl (en rfl s3)))))))))
          have s5 := (hg 5).trans (en rfl (en rfl (en rfl (en rfl (en rfl (en rfl (en rfl (en rfl (en rfl s5)))))))))
          have s7 := (hg 7).trans (en rfl (en rfl (en rfl (en rfl (en rfl (en rfl (en rfl (en rfl (en rfl s7)))))))))
          have s8 := (hg 8).trans (en rfl (en rfl (en rfl (en rfl (en rfl (en rfl (en rfl (en rfl (en rfl s8)))))))))
          have s10 := (hg 10).trans (en rfl (en rfl (en rfl (en rfl (en rfl (en rfl (en rfl (en rfl (en rfl s10)))))))))
          have s11 := (hg 11).trans (en rfl (en rfl (en rfl (en rfl (en rfl (en rfl (en rfl (en rfl (en rfl s11)))))))))
          have s12 := (hg 12).trans (en rfl (en rfl (en rfl (en rfl (en rfl (en rfl (en rfl (en rfl (en rfl s12)))))))))
          have s13 := (hg 13).trans (en rfl (en rfl (en rfl (en rfl (en rfl (en rfl (en rfl (en rfl (en rfl s13)))))))))
          have s15 := (hg 15).trans (en rfl (en rfl (en rfl (en rfl (en rfl (en rfl (en rfl (en rfl (en rfl s15)))))))))
          have s29 := (hg 29).trans (en rfl (en rfl (en rfl (en rfl (en rfl (en rfl (en rfl (en rfl (en rfl s29)))))))))
          have s36 := (hg 36).trans (en rfl (en rfl (en rfl (en rfl (en rfl (en rfl (en rfl (en rfl (en rfl s36)))))))))
          have s37 := (hg 37).trans (en rfl (en rfl (en rfl (en rfl (en rfl (en rfl (en rfl (en rfl (en rfl s37)))))))))
          have s38 := (hg 38).trans (en rfl (en rfl (en rfl (en rfl (en rfl (en rfl (en rfl (en rfl (en rfl s38)))))))))
          have s66 := (hg 66).trans (en rfl (en rfl (en rfl (en rfl (en rfl (en rfl (en rfl (en rfl (en rfl s66)))))))))
          have s95 := (hg 95).trans (en rfl (en rfl (en rfl (en rfl (en rfl (en rfl (en rfl (en rfl (en rfl s95)))))))))
          have s116 := (hg 116).trans (en rfl (en rfl (en rfl (en rfl (en rfl (en rfl (en rfl (en rfl (en rfl s116)))))))))
          have s118 := (hg 118).trans (en rfl (en rfl (en rfl (en rfl (en rfl (en rfl (en rfl (en rfl (en rfl s118)))))))))
          have s128 := (hg 128).trans (en rfl (en rfl (en rfl (en rfl (en rfl (en rfl (en rfl (en rfl (en rfl s128)))))))))
          have s130 := (hg 130).trans (en rfl (en rfl (en rfl (en rfl (en rfl (en rfl (en rfl (en rfl (en rfl s130)))))))))
          have s131 := (hg 131).trans (en rfl (en rfl (en rfl (en rfl (en rfl (en rfl (en rfl (en rfl (en rfl s131)))))))))
          have s132 := (hg 132).trans (en rfl (en rfl (en rfl (en rfl (en rfl (en rfl (en rfl (en rfl (en rfl s132)))))))))
          have s142 := (hg 142).trans es
          clear hg
          refine yc_cond s142 (fun hc => by cases hc) (fun _ => ?_)
          refine yc_skip ?_
          refine hK33 _ _ _ ?_
          refine yc_region ?_
          refine x_val (r_add s131 ec (show _ = (((k + 1 : Nat) : Int) : Int) from by omega) (by unfold I64; omega)) (nd_of rfl) rfl ?_
          refine x_val (r_move es) (nd_of rfl) rfl ?_
          refine xw_nil ?_
          exact ⟨xs.length - (k + 1), by omega, ⟨k + 1, rfl, by omega, rfl, es, h⟩, ⟨((en rfl (en rfl s0))).trans zG30_0.symm, ((en rfl (en rfl s1))).trans zG30_1.symm, ((en rfl (en rfl s3))).trans zG30_3.symm, ((en rfl (en rfl s5))).trans zG30_5.symm, ((en rfl (en rfl s7))).trans zG30_7.symm, ((en rfl (en rfl s8))).trans zG30_8.symm, ((en rfl (en rfl s10))).trans zG30_10.symm, ((en rfl (en rfl s11))).trans zG30_11.symm, ((en rfl (en rfl s12))).trans zG30_12.symm, ((en rfl (en rfl s13))).trans zG30_13.symm, ((en rfl (en rfl s29))).trans zG30_29.symm, ((en rfl (en rfl s36))).trans zG30_36.symm, ((en rfl (en rfl s37))).trans zG30_37.symm, ((en rfl (en rfl s38))).trans zG30_38.symm, ((en rfl (en rfl s66))).trans zG30_66.symm, ((en rfl (en rfl s95))).trans zG30_95.symm, ((en rfl (en rfl s116))).trans zG30_116.symm, ((en rfl (en rfl s118))).trans zG30_118.symm, ((en rfl (en rfl s128))).trans zG30_128.symm, ((en rfl (en rfl s130))).trans zG30_130.symm⟩⟩
        ·
          refine yc_exit ?_
          refine hK28 _ _ _ ?_
          refine yc_seq (fun K hK36 => ?_)
          refine yc_region ?_
          refine x_enter (r_call Try.call9 .nil) (nd_of rfl) rfl (known_ok h) ?_
          rintro _ w ⟨rfl, h⟩
          refine x_val (r_assign es) (nd_of rfl) rfl ?_
          refine xw_nil ?_
          refine hK36 _ _ _ ?_
          refine yc_gen (fun g hg => ?_)
          have s0 := (hg 0).trans (en rfl (en rfl s0))
          have s1 := (hg 1).trans (en rfl (en rfl s1))
          have s3 := (hg 3).trans (en rfl (en rfl s3))
          have s4 := (hg 4).trans es
          have s5 := (hg 5).trans (en rfl (en rfl s5))
          have s7 := (hg 7).trans (en rfl (en rfl s7))
          have s8 := (hg 8).trans (en rfl (en rfl s8))
          have s10 := (hg 10).trans (en rfl (en rfl s10))
          have s11 := (hg 11).trans (en rfl (en rfl s11))
          have s12 := (hg 12).trans (en rfl (en rfl s12))
          have s13 := (hg 13).trans (en rfl (en rfl s13))
          have s29 := (hg 29).trans (en rfl (en rfl s29))
          have s36 := (hg 36).trans (en rfl (en rfl s36))
          have s37 := (hg 37).trans (en rfl (en rfl s37))
          have s38 := (hg 38).trans (en rfl (en rfl s38))
          have s66 := (hg 66).trans (en rfl (en rfl s66))
          have s95 := (hg 95).trans (en rfl (en rfl s95))
          have s116 := (hg 116).trans (en rfl (en rfl s116))
          have s118 := (hg 118).trans (en rfl (en rfl s118))
          have s128 := (hg 128).trans (en rfl (en rfl s128))
          have s130 := (hg 130).trans (en rfl (en rfl s130))
          have s131 := (hg 131).trans (en rfl (en rfl s131))
          have s132 := (hg 132).trans (en rfl (en rfl s132))
          clear hg
          refine yc_ret ?_
          have h := h.f2; refine bodyY_mark h ?_; intro w h; have h := h.f7; refine bodyY_mark h ?_; intro w h; refine bodyY_nil ?_
          refine bodyR_1 rfl s4 ?_
          exact ⟨rfl, h.drop.drop.drop.drop.drop.drop.drop.drop.drop⟩
    ·
      skip
      refine yc_seq (fun K hK37 => ?_)
      refine yc_region ?_
      refine x_val (r_move s5) (nd_of rfl) rfl ?_
      refine x_val (r_fieldAddr (o' := 1) Try.underlying28 rfl Try.sizeOf3 rfl (en rfl s3) rfl) (nd_of rfl) rfl ?_
      refine x_val (r_load h 5 rfl Try.isAgg3 es gc1) (nd_of rfl) rfl ?_
      refine x_val (r_fieldAddr (o' := 2) Try.underlying28 rfl Try.sizeOf3 rfl (en rfl (en rfl (en rfl s3))) rfl) (nd_of rfl) rfl ?_
      refine x_val (r_load h 5 rfl Try.isAgg3 es gc2) (nd_of rfl) rfl ?_
      refine x_enter (r_call Try.call11 (.cons (en rfl (en rfl (en rfl (en rfl es)))) (.cons (en rfl (en rfl es)) (.cons es .nil)))) (nd_of rfl) rfl (over_no hp h) ?_
      rintro _ w ⟨rfl, h⟩
      refine x_val (r_move es) (nd_of rfl) rfl ?_
      refine x_val (r_extract es gc0) (nd_of rfl) rfl ?_
      refine x_val (r_extract (en rfl es) gc1) (nd_of rfl) rfl ?_
      refine x_val (r_assign (en rfl es)) (nd_of rfl) rfl ?_
      refine x_val (r_assign (en rfl es)) (nd_of rfl) rfl ?_
      refine xw_nil ?_
      refine hK37 _ _ _ ?_
      refine yc_gen (fun g hg => ?_)
      have s0 := (hg 0).trans (en rfl (en rfl (en rfl (en rfl (en rfl (en rfl (en rfl (en rfl (en rfl (en rfl (en rfl s0)))))))))))
      have s1 := (hg 1).trans (en rfl (en rfl (en rfl (en rfl (en rfl (en rfl (en rfl (en rfl (en rfl (en rfl (en rfl s1)))))))))))
      have s3 := (hg 3).trans (en rfl (en rfl (en rfl (en rfl (en rfl (en rfl (en rfl (en rfl (en rfl (en rfl (en rfl s3)))))))))))
      have s4 := (hg 4).trans (en rfl (en rfl (en rfl (en rfl (en rfl (en rfl (en rfl (en rfl (en rfl (en rfl (en rfl s4)))))))))))
      have s5 := (hg 5).trans (en rfl (en rfl (en rfl (en rfl (en rfl (en rfl (en rfl (en rfl (en rfl (en rfl (en rfl s5)))))))))))
      have s7 := (hg 7).trans (en rfl (en rfl (en rfl (en rfl (en rfl (en rfl (en rfl (en rfl (en rfl (en rfl (en rfl s7)))))))))))
      have s8 := (hg 8).trans (en rfl (en rfl (en rfl (en rfl (en rfl (en rfl (en rfl (en rfl (en rfl (en rfl (en rfl s8)))))))))))
      have s10 := (hg 10).trans (en rfl (en rfl (en rfl (en rfl (en rfl (en rfl (en rfl (en rfl (en rfl (en rfl (en rfl s10)))))))))))
      have s11 := (hg 11).trans (en rfl es)
      have s12 := (hg 12).trans es
      have s29 := (hg 29).trans (en rfl (en rfl (en rfl (en rfl (en rfl (en rfl (en rfl (en rfl (en rfl (en rfl (en rfl s29)))))))))))
      have s36 := (hg 36).trans (en rfl (en rfl (en rfl (en rfl (en rfl (en rfl (en rfl (en rfl (en rfl (en rfl (en rfl s36)))))))))))
      have s37 := (hg 37).trans (en rfl (en rfl (en rfl (en rfl (en rfl (en rfl (en rfl (en rfl (en rfl (en rfl (en rfl s37)))))))))))
      have s38 := (hg 38).trans (en rfl (en rfl (en rfl (en rfl (en rfl (en rfl (en rfl (en rfl (en rfl (en rfl (en rfl s38)))))))))))
      have s66 := (hg 66).trans (en rfl (en rfl (en rfl (en rfl (en rfl (en rfl (en rfl (en rfl (en rfl (en rfl (en rfl s66)))))))))))
      clear hg
      refine yc_seq (fun K hK38 => ?_)
      refine yc_seq (fun K hK39 => ?_)
      refine yc_region ?_
      refine x_val (r_move s12) (nd_of rfl) rfl ?_
      refine x_val (r_neq es ec (r := true) rfl) (nd_of rfl) rfl ?_
      refine x_val (r_move es) (nd_of rfl) rfl ?_
      refine x_pass (d := 85) rfl rfl es rfl ?_
      refine x_pass (d := 85) rfl rfl (en rfl es) rfl ?_
      refine x_pass (d := 85) rfl rfl (en rfl (en rfl es)) rfl ?_
      refine x_pass (d := 85) rfl rfl (en rfl (en rfl (en rfl es))) rfl ?_
      refine x_pass (d := 85) rfl rfl (en rfl (en rfl (en rfl (en rfl es)))) rfl ?_
      refine x_pass (d := 85) rfl rfl (en rfl (en rfl (en rfl (en rfl (en rfl es))))) rfl ?_
      refine x_pass (d := 85) rfl rfl (en rfl (en rfl (en rfl (en rfl (en rfl (en rfl es)))))) rfl ?_
      refine x_pass (d := 85) rfl rfl (en rfl (en rfl (en rfl (en rfl (en rfl (en rfl (en rfl es))))))) rfl ?_
      refine x_pass (d := 85) rfl rfl (en rfl (en rfl (en rfl (en rfl (en rfl (en rfl (en rfl (en rfl es)))))))) rfl ?_
      refine x_val (r_pick_t (en rfl (en rfl (en rfl (en rfl (en rfl (en rfl (en rfl (en rfl (en rfl es))))))))) ec) (nd_of rfl) rfl ?_
      refine xw_nil ?_
      refine hK39 _ _ _ ?_
      refine yc_gen (fun g hg => ?_)
      have s0 := (hg 0).trans (en rfl (en rfl (en rfl (en rfl (en rfl (en rfl (en rfl (en rfl (en rfl (en rfl (en rfl (en rfl (en rfl s0)))))))))))))
      have s1 := (hg 1).trans (en rfl (en rfl (en rfl (en rfl (en rfl (en rfl (en rfl (en rfl (en rfl (en rfl (en rfl (en rfl (en rfl s1)))))))))))))
      have s3 := (hg 3).trans (en rfl (en rfl (en rfl (en rfl (en rfl (en rfl (en rfl (en rfl (en rfl (en rfl (en rfl (en rfl (en rfl s3)))))))))))))
      have s4 := (hg 4).trans (en rfl (en rfl (en rfl (en rfl (en rfl (en rfl (en rfl (en rfl (en rfl (en rfl (en rfl (en rfl (en rfl s4)))))))))))))
      have s5 := (hg 5).trans (en rfl (en rfl (en rfl (en rfl (en rfl (en rfl (en rfl (en rfl (en rfl (en rfl (en rfl (en rfl (en rfl s5)))))))))))))
      have s7 := (hg 7).trans (en rfl (en rfl (en rfl (en rfl (en rfl (en rfl (en rfl (en rfl (en rfl (en rfl (en rfl (en rfl (en rfl s7)))))))))))))
      have s8 := (hg 8).trans (en rfl (en rfl (en rfl (en rfl (en rfl (en rfl (en rfl (en rfl (en rfl (en rfl (en rfl (en rfl (en rfl s8)))))))))))))
      have s10 := (hg 10).trans (en rfl (en rfl (en rfl (en rfl (en rfl (en rfl (en rfl (en rfl (en rfl (en rfl (en rfl (en rfl (en rfl s10)))))))))))))
      have s11 := (hg 11).trans (en rfl (en rfl (en rfl (en rfl (en rfl (en rfl (en rfl (en rfl (en rfl (en rfl (en rfl (en rfl (en rfl s11)))))))))))))
      have s12 := (hg 12).trans (en rfl (en rfl (en rfl (en rfl (en rfl (en rfl (en rfl (en rfl (en rfl (en rfl (en rfl (en rfl (en rfl s12)))))))))))))
      have s29 := (hg 29).trans (en rfl (en rfl (en rfl (en rfl (en rfl (en rfl (en rfl (en rfl (en rfl (en rfl (en rfl (en rfl (en rfl s29)))))))))))))
      have s36 := (hg 36).trans (en rfl (en rfl (en rfl (en rfl (en rfl (en rfl (en rfl (en rfl (en rfl (en rfl (en rfl (en rfl (en rfl s36)))))))))))))
      have s37 := (hg 37).trans (en rfl (en rfl (en rfl (en rfl (en rfl (en rfl (en rfl (en rfl (en rfl (en rfl (en rfl (en rfl (en rfl s37)))))))))))))
      have s38 := (hg 38).trans (en rfl (en rfl (en rfl (en rfl (en rfl (en rfl (en rfl (en rfl (en rfl (en rfl (en rfl (en rfl (en rfl s38)))))))))))))
      have s66 := (hg 66).trans (en rfl (en rfl (en rfl (en rfl (en rfl (en rfl (en rfl (en rfl (en rfl (en rfl (en rfl (en rfl (en rfl s66)))))))))))))
      have s95 := (hg 95).trans es
      clear hg
      refine yc_cond s95 (fun _ => ?_) (fun hc => by cases hc)
      refine yc_seq (fun K hK40 => ?_)
      refine yc_region ?_
      refine x_enter (r_call Try.call9 .nil) (nd_of rfl) rfl (known_ok h) ?_
      rintro _ w ⟨rfl, h⟩
      refine x_val (r_assign es) (nd_of rfl) rfl ?_
      refine xw_nil ?_
      refine hK40 _ _ _ ?_
      refine yc_gen (fun g hg => ?_)
      have s0 := (hg 0).trans (en rfl (en rfl s0))
      have s1 := (hg 1).trans (en rfl (en rfl s1))
      have s3 := (hg 3).trans (en rfl (en rfl s3))
      have s4 := (hg 4).trans es
      have s5 := (hg 5).trans (en rfl (en rfl s5))
      have s7 := (hg 7).trans (en rfl (en rfl s7))
      have s8 := (hg 8).trans (en rfl (en rfl s8))
      have s10 := (hg 10).trans (en rfl (en rfl s10))
      have s11 := (hg 11).trans (en rfl (en rfl s11))
      have s12 := (hg 12).trans (en rfl (en rfl s12))
      have s29 := (hg 29).trans (en rfl (en rfl s29))
      have s36 := (hg 36).trans (en rfl (en rfl s36))
      have s37 := (hg 37).trans (en rfl (en rfl s37))
      have s38 := (hg 38).trans (en rfl (en rfl s38))
      have s66 := (hg 66).trans (en rfl (en rfl s66))
      have s95 := (hg 95).trans (en rfl (en rfl s95))
      clear hg
      refine yc_ret ?_
      have h := h.f3; refine bodyY_mark h ?_; intro w h; refine bodyY_nil ?_
      refine bodyR_1 rfl s4 ?_
      exact ⟨rfl, h.drop.drop.drop.drop.drop.drop⟩
theorem back_all (hv : OpsAt W v os) (hw : OpWf W o) (h : SatL E w (Old W :: R)) : Calls Try.prog 4 #[v, .agg (opC o).toArray] w (Ret fun u w' => u = .bool true ∧ SatL E w' (Old W :: R)) := by
  rcases Nat.lt_or_ge 40 os.length with h1 | h1
  · exact back_long hv hw (.inl h1) h
  · rcases Nat.lt_or_ge 100 o.ls.length with h2 | h2
    · exact back_long hv hw (.inr h2) h
    · exact back_ok hv hw h1 h2 h
end
end Go.Proofs.Ytbmdbjnkkbefmaa
