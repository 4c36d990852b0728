/-
SpansOne: the walk.
-/
import Derived.Test.YtbmdbjnkkbefmaaS11
import Derived.Test.YtbmdbjnkkbefmaaR12
namespace Go.Proofs.Ytbmdbjnkkbefmaa
open Go Go.RowKit
section
variable {E : Env} {R : List SProp} {w : World} {W : World} {v : Value} {os : List OpV}
theorem one_long (hv : OpsAt W v os) (hl : 60 < os.length) (h : SatL E w (Old W :: R)) : Calls Try.prog 6 #[v] w (Ret fun u w' => u = .bool true ∧ SatL E w' (Old W :: R)) := by
  obtain ⟨a, cap, rfl, _⟩ := hv
  refine calls_x Try.func6 rfl Try.ntmps6 rfl ?_
  refine xc_gen (fun g hg => ?_)
  have s0 := (hg 0).trans arg0
  clear hg
  refine xc_seq (fun K hK1 => ?_)
  refine xc_region ?_
  refine x_alloc1 h Try.zeroValue4 rfl rfl ?_
  intro b2 w h
  refine xw_nil ?_
  refine hK1 _ _ ?_
  refine xc_gen (fun g hg => ?_)
  have s0 := (hg 0).trans (en rfl s0)
  have s2 := (hg 2).trans es
  clear hg
  refine xc_seq (fun K hK2 => ?_)
  refine xc_region ?_
  refine x_enter (r_call Try.call8 .nil) (nd_of rfl) rfl (new_o h) ?_
  rintro _ w ⟨b, rfl, h⟩
  refine x_enter (r_call Try.call8 .nil) (nd_of rfl) rfl (new_o h) ?_
  rintro _ w ⟨q, rfl, h⟩
  refine x_val (r_assign (en rfl es)) (nd_of rfl) rfl ?_
  refine x_val (r_assign (en rfl es)) (nd_of rfl) rfl ?_
  refine xw_nil ?_
  refine hK2 _ _ ?_
  refine xc_gen (fun g hg => ?_)
  have s0 := (hg 0).trans (en rfl (en rfl (en rfl (en rfl s0))))
  have s2 := (hg 2).trans (en rfl (en rfl (en rfl (en rfl s2))))
  have s3 := (hg 3).trans (en rfl es)
  have s4 := (hg 4).trans es
  clear hg
  refine xc_seq (fun K hK3 => ?_)
  refine xc_seq (fun K hK4 => ?_)
  refine xc_region ?_
  refine x_val (r_move s3) (nd_of rfl) rfl ?_
  refine x_val (r_eqnil Try.underlying23 es ec (r := false) rfl) (nd_of rfl) rfl ?_
  refine x_val (r_move es) (nd_of rfl) rfl ?_
  refine x_take (d := 20) rfl rfl es ?_
  refine x_val (r_move (en rfl (en rfl (en rfl s4)))) (nd_of rfl) rfl ?_
  refine x_take (d := 20) rfl rfl (en rfl es) ?_
  refine x_val (r_eqnil Try.underlying23 es ec (r := false) rfl) (nd_of rfl) rfl ?_
  refine x_val (r_pick_f (en rfl (en rfl es)) es) (nd_of rfl) rfl ?_
  refine x_val (r_move es) (nd_of rfl) rfl ?_
  refine x_take (d := 24) rfl rfl es ?_
  refine x_val (r_move (en rfl (en rfl (en rfl (en rfl (en rfl (en rfl (en rfl s0)))))))) (nd_of rfl) rfl ?_
  refine x_take (d := 24) rfl rfl (en rfl es) ?_
  refine x_val (r_len Try.underlying22 es) (nd_of rfl) rfl ?_
  refine x_take (d := 24) rfl rfl (en rfl (en rfl es)) ?_
  refine x_val (r_gtr es ec (decide_eq_true (by omega))) (nd_of rfl) rfl ?_
  refine x_val (r_pick_f (en rfl (en rfl (en rfl es))) es) (nd_of rfl) rfl ?_
  refine xw_nil ?_
  refine hK4 _ _ ?_
  refine xc_gen (fun g hg => ?_)
  have s0 := (hg 0).trans (en rfl (en rfl (en rfl (en rfl (en rfl (en rfl (en rfl (en rfl (en rfl (en rfl (en rfl s0)))))))))))
  have s2 := (hg 2).trans (en rfl (en rfl (en rfl (en rfl (en rfl (en rfl (en rfl (en rfl (en rfl (en rfl (en rfl s2)))))))))))
  have s3 := (hg 3).trans (en rfl (en rfl (en rfl (en rfl (en rfl (en rfl (en rfl (en rfl (en rfl (en rfl (en rfl s3)))))))))))
  have s4 := (hg 4).trans (en rfl (en rfl (en rfl (en rfl (en rfl (en rfl (en rfl (en rfl (en rfl (en rfl (en rfl s4)))))))))))
  have s28 := (hg 28).trans es
  clear hg
  refine xc_cond s28 (fun _ => ?_) (fun hc => by cases hc)
  refine xc_seq (fun K hK5 => ?_)
  refine xc_region ?_
  refine x_val (r_move s3) (nd_of rfl) rfl ?_
  refine x_val (r_nenil Try.underlying23 es ec (r := true) rfl) (nd_of rfl) rfl ?_
  refine x_val (r_move es) (nd_of rfl) rfl ?_
  refine x_take (d := 31) rfl rfl es ?_
  refine x_val (r_move (en rfl (en rfl (en rfl s4)))) (nd_of rfl) rfl ?_
  refine x_take (d := 31) rfl rfl (en rfl es) ?_
  refine x_val (r_nenil Try.underlying23 es ec (r := true) rfl) (nd_of rfl) rfl ?_
  refine x_val (r_pick_t (en rfl (en rfl es)) es) (nd_of rfl) rfl ?_
  refine x_val (r_move es) (nd_of rfl) rfl ?_
  refine x_take (d := 35) rfl rfl es ?_
  refine x_enter (r_call Try.call9 .nil) (nd_of rfl) rfl (known_ok h) ?_
  rintro _ w ⟨rfl, h⟩
  refine x_val (r_pick_t (en rfl es) es) (nd_of rfl) rfl ?_
  refine x_st (r_store h 2 rfl Try.sizeOf4 (en rfl (en rfl (en rfl (en rfl (en rfl (en rfl (en rfl (en rfl (en rfl s2))))))))) es rfl gc0) rfl (h.u2 sc0) ?_
  intro w h
  refine xw_nil ?_
  refine hK5 _ _ ?_
  refine xc_gen (fun g hg => ?_)
  have s0 := (hg 0).trans (en rfl (en rfl (en rfl (en rfl (en rfl (en rfl (en rfl (en rfl (en rfl s0)))))))))
  have s2 := (hg 2).trans (en rfl (en rfl (en rfl (en rfl (en rfl (en rfl (en rfl (en rfl (en rfl s2)))))))))
  have s3 := (hg 3).trans (en rfl (en rfl (en rfl (en rfl (en rfl (en rfl (en rfl (en rfl (en rfl s3)))))))))
  have s4 := (hg 4).trans (en rfl (en rfl (en rfl (en rfl (en rfl (en rfl (en rfl (en rfl (en rfl s4)))))))))
  have s28 := (hg 28).trans (en rfl (en rfl (en rfl (en rfl (en rfl (en rfl (en rfl (en rfl (en rfl s28)))))))))
  clear hg
  refine xc_ret ?_
  refine bodyR_c rfl s2 (lv_one h 2 rfl Try.isAgg4 gc0) ?_
  exact ⟨rfl, h.drop.drop.drop⟩
theorem one_ok (hv : OpsAt W v os) (hl : os.length ≤ 60) (h : SatL E w (Old W :: R)) : Calls Try.prog 6 #[v] w (Ret fun u w' => u = .bool true ∧ SatL E w' (Old W :: R)) := by
  obtain ⟨a, cap, rfl, hread⟩ := hv
  refine calls_y Try.func6 rfl Try.ntmps6 rfl ?_
  refine yc_gen (fun g hg => ?_)
  have s0 := (hg 0).trans arg0
  clear hg
  refine yc_seq (fun K hK1 => ?_)
  refine yc_region ?_
  refine x_alloc1 h Try.zeroValue4 rfl rfl ?_
  intro b2 w h
  refine xw_nil ?_
  refine hK1 _ _ _ ?_
  refine yc_gen (fun g hg => ?_)
  have s0 := (hg 0).trans (en rfl s0)
  have s2 := (hg 2).trans es
  clear hg
  refine yc_seq (fun K hK2 => ?_)
  refine yc_region ?_
  refine x_enter (r_call Try.call8 .nil) (nd_of rfl) rfl (new_o h) ?_
  rintro _ w ⟨b, rfl, h⟩
  refine x_enter (r_call Try.call8 .nil) (nd_of rfl) rfl (new_o h) ?_
  rintro _ w ⟨q, rfl, h⟩
  refine x_val (r_assign (en rfl es)) (nd_of rfl) rfl ?_
  refine x_val (r_assign (en rfl es)) (nd_of rfl) rfl ?_
  refine xw_nil ?_
  refine hK2 _ _ _ ?_
  refine yc_gen (fun g hg => ?_)
  have s0 := (hg 0).trans (en rfl (en rfl (en rfl (en rfl s0))))
  have s2 := (hg 2).trans (en rfl (en rfl (en rfl (en rfl s2))))
  have s3 := (hg 3).trans (en rfl es)
  have s4 := (hg 4).trans es
  clear hg
  refine yc_seq (fun K hK3 => ?_)
  refine yc_seq (fun K hK4 => ?_)
  refine yc_region ?_
  refine x_val (r_move s3) (nd_of rfl) rfl ?_
  refine x_val (r_eqnil Try.underlying23 es ec (r := false) rfl) (nd_of rfl) rfl ?_
  refine x_val (r_move es) (nd_of rfl) rfl ?_
  refine x_take (d := 20) rfl rfl es ?_
  refine x_val (r_move (en rfl (en rfl (en rfl s4)))) (nd_of rfl) rfl ?_
  refine x_take (d := 20) rfl rfl (en rfl es) ?_
  refine x_val (r_eqnil Try.underlying23 es ec (r := false) rfl) (nd_of rfl) rfl ?_
  refine x_val (r_pick_f (en rfl (en rfl es)) es) (nd_of rfl) rfl ?_
  refine x_val (r_move es) (nd_of rfl) rfl ?_
  refine x_take (d := 24) rfl rfl es ?_
  refine x_val (r_move (en rfl (en rfl (en rfl (en rfl (en rfl (en rfl (en rfl s0)))))))) (nd_of rfl) rfl ?_
  refine x_take (d := 24) rfl rfl (en rfl es) ?_
  refine x_val (r_len Try.underlying22 es) (nd_of rfl) rfl ?_
  refine x_take (d := 24) rfl rfl (en rfl (en rfl es)) ?_
  refine x_val (r_gtr es ec (decide_eq_false (by omega))) (nd_of rfl) rfl ?_
  refine x_val (r_pick_f (en rfl (en rfl (en rfl es))) es) (nd_of rfl) rfl ?_
  refine xw_nil ?_
  refine hK4 _ _ _ ?_
  refine yc_gen (fun g hg => ?_)
  have s0 := (hg 0).trans (en rfl (en rfl (en rfl (en rfl (en rfl (en rfl (en rfl (en rfl (en rfl (en rfl (en rfl s0)))))))))))
  have s2 := (hg 2).trans (en rfl (en rfl (en rfl (en rfl (en rfl (en rfl (en rfl (en rfl (en rfl (en rfl (en rfl s2)))))))))))
  have s3 := (hg 3).trans (en rfl (en rfl (en rfl (en rfl (en rfl (en rfl (en rfl (en rfl (en rfl (en rfl (en rfl s3)))))))))))
  have s4 := (hg 4).trans (en rfl (en rfl (en rfl (en rfl (en rfl (en rfl (en rfl (en rfl (en rfl (en rfl (en rfl s4)))))))))))
  have s28 := (hg 28).trans es
  clear hg
  refine yc_cond s28 (fun hc => by cases hc) (fun _ => ?_)
  refine yc_skip ?_
  refine hK3 _ _ _ ?_
  refine yc_seq (fun K hK5 => ?_)
  refine yc_seq (fun K hK6 => ?_)
  refine yc_region ?_
  refine x_val (r_move s0) (nd_of rfl) rfl ?_
  refine x_val (r_len Try.underlying22 es) (nd_of rfl) rfl ?_
  refine x_val (r_move ec) (nd_of rfl) rfl ?_
  refine xw_nil ?_
  refine hK6 _ _ _ ?_
  refine yc_gen (fun g hg => ?_)
  have s0 := (hg 0).trans (en rfl (en rfl (en rfl s0)))
  have s2 := (hg 2).trans (en rfl (en rfl (en rfl s2)))
  have s3 := (hg 3).trans (en rfl (en rfl (en rfl s3)))
  have s4 := (hg 4).trans (en rfl (en rfl (en rfl s4)))
  have s28 := (hg 28).trans (en rfl (en rfl (en rfl s28)))
  have s38 := (hg 38).trans (en rfl (en rfl es))
  have s39 := (hg 39).trans (en rfl es)
  have s40 := (hg 40).trans es
  clear hg
  refine yc_block ?_
  obtain ⟨G7, hG7⟩ : ∃ g0 : Nat → Value, g0 = g := ⟨_, rfl⟩
  have zG7_0 : G7 0 = _ := (congrFun hG7 0).trans s0
  have zG7_2 : G7 2 = _ := (congrFun hG7 2).trans s2
  have zG7_3 : G7 3 = _ := (congrFun hG7 3).trans s3
  have zG7_4 : G7 4 = _ := (congrFun hG7 4).trans s4
  have zG7_28 : G7 28 = _ := (congrFun hG7 28).trans s28
  have zG7_38 : G7 38 = _ := (congrFun hG7 38).trans s38
  have zG7_39 : G7 39 = _ := (congrFun hG7 39).trans s39
  refine yc_loop (fun m ds f w => (∃ (k n : Nat) (xs : List X) (Ds : List Nat), m = os.length - k ∧ k ≤ os.length ∧ n ≤ k ∧ Inv xs n ∧ ds = Ds.map mark ∧ f 40 = .int .i64 (k : Int) ∧ SatL E w (Marks Ds :: ObjO b xs (208 * n) :: ObjO q [] 0 :: Cells b2 #[.bool false] 4 :: Old W :: R)) ∧ (f 0 = G7 0 ∧ f 2 = G7 2 ∧ f 3 = G7 3 ∧ f 4 = G7 4 ∧ f 28 = G7 28 ∧ f 38 = G7 38 ∧ f 39 = G7 39)) (os.length) ⟨⟨0, 0, [], [], by omega, by omega, by omega, Inv.nil, rfl, s40, SatL.marks0 h.f1⟩, ⟨congrFun hG7.symm 0, congrFun hG7.symm 2, congrFun hG7.symm 3, congrFun hG7.symm 4, congrFun hG7.symm 28, congrFun hG7.symm 38, congrFun hG7.symm 39⟩⟩ ?_
  rintro m ds g w ⟨⟨k, n, xs, Ds, hm, hk, hn, hinv, rfl, s40, h⟩, ⟨y0, y2, y3, y4, y28, y38, y39⟩⟩
  have s0 := y0.trans zG7_0
  have s2 := y2.trans zG7_2
  have s3 := y3.trans zG7_3
  have s4 := y4.trans zG7_4
  have s28 := y28.trans zG7_28
  have s38 := y38.trans zG7_38
  have s39 := y39.trans zG7_39
  refine yc_seq (fun K hK8 => ?_)
  refine yc_region ?_
  refine x_val (r_lss s40 s39 rfl) (nd_of rfl) rfl ?_
  refine xw_nil ?_
  refine hK8 _ _ _ ?_
  refine yc_gen (fun g hg => ?_)
  have s0 := (hg 0).trans (en rfl s0)
  have s2 := (hg 2).trans (en rfl s2)
  have s3 := (hg 3).trans (en rfl s3)
  have s4 := (hg 4).trans (en rfl s4)
  have s28 := (hg 28).trans (en rfl s28)
  have s38 := (hg 38).trans (en rfl s38)
  have s39 := (hg 39).trans (en rfl s39)
  have s40 := (hg 40).trans (en rfl s40)
  have s41 := (hg 41).trans es
  clear hg
  refine yc_seq (fun K hK9 => ?_)
  refine yc_cond s41 (fun hc => ?_) (fun hc => ?_)
  ·
    refine yc_skip ?_
    refine hK9 _ _ _ ?_
    refine yc_seq (fun K hK10 => ?_)
    refine yc_block ?_
    refine yc_seq (fun K hK11 => ?_)
    have hk2 : k < os.length := by have := of_decide_eq_true hc; omega
    obtain ⟨o2, ho⟩ : ∃ o2, os[k]? = some o2 := ⟨_, List.getElem?_eq_getElem hk2⟩
    obtain ⟨hwf, ad, rfl, hcell⟩ := hread k o2 ho
    obtain ⟨al2, cl2, hlv2, hlsp2⟩ := hwf.sp
    have hsp2 := hwf.sp
    rw [hlv2] at hsp2
    have hcell2 : ∀ (j : Nat) (u : Value), ([.int .i64 o2.kind, .int .i64 o2.i, .int .i64 o2.j, .slice al2 o2.ls.length cl2, .int .i64 o2.by_, .int .i64 o2.plus] : List Value)[j]? = some u → W.cell? ((ad.add (k * 6)).add j) = some u := by unfold opC at hcell; rw [hlv2] at hcell; exact hcell
    have hok2 : Ok 6 ([.int .i64 o2.kind, .int .i64 o2.i, .int .i64 o2.j, .slice al2 o2.ls.length cl2, .int .i64 o2.by_, .int .i64 o2.plus] : List Value).toArray := ⟨rfl, by simp [Value.oneCell']⟩
    have hinl := hinv.len
    have hins := hinv.size
    refine yc_region ?_
    refine x_val (r_indexAny Try.underlying22 Try.sizeOf28 s38 s40 (by omega) (by omega)) (nd_of rfl) rfl ?_
    refine x_val (r_loadAggAt Try.isAgg28 Try.sizeOf28 es rfl (fun j u hj => h.oldCell 4 rfl (hcell2 j u hj))) (nd_of rfl) rfl ?_
    refine x_declA h Try.zeroValue28 Try.sizeOf28 rfl (en rfl es) (by first | assumption | exact Ok.node (by assumption) | exact xOk.cells (by assumption) | exact ChOk.ok (by assumption)) rfl ?_
    intro b6 w h
    refine xw_nil ?_
    refine hK11 _ _ _ ?_
    refine yc_gen (fun g hg => ?_)
    have s0 := (hg 0).trans (en rfl (en rfl (en rfl s0)))
    have s2 := (hg 2).trans (en rfl (en rfl (en rfl s2)))
    have s3 := (hg 3).trans (en rfl (en rfl (en rfl s3)))
    have s4 := (hg 4).trans (en rfl (en rfl (en rfl s4)))
    have s6 := (hg 6).trans es
    have s28 := (hg 28).trans (en rfl (en rfl (en rfl s28)))
    have s38 := (hg 38).trans (en rfl (en rfl (en rfl s38)))
    have s39 := (hg 39).trans (en rfl (en rfl (en rfl s39)))
    have s40 := (hg 40).trans (en rfl (en rfl (en rfl s40)))
    have s41 := (hg 41).trans (en rfl (en rfl (en rfl s41)))
    clear hg
    refine yc_seq (fun K hK12 => ?_)
    refine yc_seq (fun K hK13 => ?_)
    refine yc_region ?_
    refine x_val (r_fieldAddr (o' := 3) Try.underlying28 rfl Try.sizeOf26 rfl s6 rfl) (nd_of rfl) rfl ?_
    refine x_val (r_load h 0 rfl Try.isAgg26 es gc3) (nd_of rfl) rfl ?_
    refine x_val (r_len Try.underlying26 es) (nd_of rfl) rfl ?_
    refine x_val (r_gtr es ec rfl) (nd_of rfl) rfl ?_
    refine xw_nil ?_
    refine hK13 _ _ _ ?_
    refine yc_gen (fun g hg => ?_)
    have s0 := (hg 0).trans (en rfl (en rfl (en rfl (en rfl s0))))
    have s2 := (hg 2).trans (en rfl (en rfl (en rfl (en rfl s2))))
    have s3 := (hg 3).trans (en rfl (en rfl (en rfl (en rfl s3))))
    have s4 := (hg 4).trans (en rfl (en rfl (en rfl (en rfl s4))))
    have s6 := (hg 6).trans (en rfl (en rfl (en rfl (en rfl s6))))
    have s28 := (hg 28).trans (en rfl (en rfl (en rfl (en rfl s28))))
    have s38 := (hg 38).trans (en rfl (en rfl (en rfl (en rfl s38))))
    have s39 := (hg 39).trans (en rfl (en rfl (en rfl (en rfl s39))))
    have s40 := (hg 40).trans (en rfl (en rfl (en rfl (en rfl s40))))
    have s41 := (hg 41).trans (en rfl (en rfl (en rfl (en rfl s41))))
    have s47 := (hg 47).trans es
    clear hg
    refine yc_cond s47 (fun hc => ?_) (fun hc => ?_)
    ·
      refine yc_exit ?_
      refine hK10 _ _ _ ?_
      refine yc_region ?_
      refine x_val (r_add s40 ec (show _ = (((k + 1 : Nat) : Int) : Int) from by omega) (by unfold I64; omega)) (nd_of rfl) rfl ?_
      refine x_val (r_move es) (nd_of rfl) rfl ?_
      refine xw_nil ?_
      exact ⟨os.length - (k + 1), by omega, ⟨k + 1, n, xs, Ds, rfl, by omega, by omega, hinv, rfl, es, h.drop⟩, ⟨((en rfl (en rfl s0))).trans zG7_0.symm, ((en rfl (en rfl s2))).trans zG7_2.symm, ((en rfl (en rfl s3))).trans zG7_3.symm, ((en rfl (en rfl s4))).trans zG7_4.symm, ((en rfl (en rfl s28))).trans zG7_28.symm, ((en rfl (en rfl s38))).trans zG7_38.symm, ((en rfl (en rfl s39))).trans zG7_39.symm⟩⟩
    ·
      refine yc_skip ?_
      refine hK12 _ _ _ ?_
      have hle : o2.ls.length ≤ 100 := by have := of_decide_eq_false hc; omega
      obtain ⟨G14, hG14⟩ : ∃ g0 : Nat → Value, g0 = g := ⟨_, rfl⟩
      have zG14_0 : G14 0 = _ := (congrFun hG14 0).trans s0
      have zG14_2 : G14 2 = _ := (congrFun hG14 2).trans s2
      have zG14_3 : G14 3 = _ := (congrFun hG14 3).trans s3
      have zG14_4 : G14 4 = _ := (congrFun hG14 4).trans s4
      have zG14_6 : G14 6 = _ := (congrFun hG14 6).trans s6
      have zG14_28 : G14 28 = _ := (congrFun hG14 28).trans s28
      have zG14_38 : G14 38 = _ := (congrFun hG14 38).trans s38
      have zG14_39 : G14 39 = _ := (congrFun hG14 39).trans s39
      have zG14_40 : G14 40 = _ := (congrFun hG14 40).trans s40
      have zG14_41 : G14 41 = _ := (congrFun hG14 41).trans s41
      have zG14_47 : G14 47 = _ := (congrFun hG14 47).trans s47
      refine yc_cut (fun ds f w => (∃ xs : List X, Inv xs (n + 1) ∧ ds = Ds.map mark ∧ SatL E w (ObjO b xs (208 * (n + 1)) :: Cells b6 #[.int .i64 o2.kind, .int .i64 o2.i, .int .i64 o2.j, .slice al2 o2.ls.length cl2, .int .i64 o2.by_, .int .i64 o2.plus] 28 :: Marks Ds :: ObjO q [] 0 :: Cells b2 #[.bool false] 4 :: Old W :: R)) ∧ (f 0 = G14 0 ∧ f 2 = G14 2 ∧ f 3 = G14 3 ∧ f 4 = G14 4 ∧ f 6 = G14 6 ∧ f 28 = G14 28 ∧ f 38 = G14 38 ∧ f 39 = G14 39 ∧ f 40 = G14 40 ∧ f 41 = G14 41 ∧ f 47 = G14 47)) ?_ ?_
      ·
        skip
        refine yc_seq (fun K hK15 => ?_)
        refine yc_region ?_
        refine x_val (r_fieldAddr (o' := 0) Try.underlying28 rfl Try.sizeOf3 rfl s6 rfl) (nd_of rfl) rfl ?_
        refine x_val (r_load h 0 rfl Try.isAgg3 es gc0) (nd_of rfl) rfl ?_
        refine x_val (r_eql es ec rfl) (nd_of rfl) rfl ?_
        refine xw_nil ?_
        refine hK15 _ _ _ ?_
        refine yc_gen (fun g hg => ?_)
        have s0 := (hg 0).trans (en rfl (en rfl (en rfl s0)))
        have s2 := (hg 2).trans (en rfl (en rfl (en rfl s2)))
        have s3 := (hg 3).trans (en rfl (en rfl (en rfl s3)))
        have s4 := (hg 4).trans (en rfl (en rfl (en rfl s4)))
        have s6 := (hg 6).trans (en rfl (en rfl (en rfl s6)))
        have s28 := (hg 28).trans (en rfl (en rfl (en rfl s28)))
        have s38 := (hg 38).trans (en rfl (en rfl (en rfl s38)))
        have s39 := (hg 39).trans (en rfl (en rfl (en rfl s39)))
        have s40 := (hg 40).trans (en rfl (en rfl (en rfl s40)))
        have s41 := (hg 41).trans (en rfl (en rfl (en rfl s41)))
        have s47 := (hg 47).trans (en rfl (en rfl (en rfl s47)))
        have s50 := (hg 50).trans es
        clear hg
        refine yc_cond s50 (fun hc => ?_) (fun hc => ?_)
        ·
          refine yc_region ?_
          refine x_val (r_move s3) (nd_of rfl) rfl ?_
          refine x_val (r_fieldAddr (o' := 1) Try.underlying28 rfl Try.sizeOf3 rfl (en rfl s6) rfl) (nd_of rfl) rfl ?_
          refine x_val (r_load h 0 rfl Try.isAgg3 es gc1) (nd_of rfl) rfl ?_
          refine x_val (r_fieldAddr (o' := 2) Try.underlying28 rfl Try.sizeOf3 rfl (en rfl (en rfl (en rfl s6))) rfl) (nd_of rfl) rfl ?_
          refine x_val (r_load h 0 rfl Try.isAgg3 es gc2) (nd_of rfl) rfl ?_
          refine x_val (r_loadAgg h 0 rfl Try.isAgg28 Try.sizeOf28 (en rfl (en rfl (en rfl (en rfl (en rfl s6))))) (by exact Nat.le_refl _) (ext_full rfl)) (nd_of rfl) rfl ?_
          refine x_val (r_func (.cons es .nil) .nil) (nd_of rfl) rfl ?_
          have h := h.f2
          refine x_enter (r_call Try.call17 (.cons (en rfl (en rfl (en rfl (en rfl (en rfl (en rfl es)))))) (.cons (en rfl (en rfl (en rfl (en rfl es)))) (.cons (en rfl (en rfl es)) (.cons es .nil))))) (nd_of rfl) rfl (map_o (B' := 208 * (n + 1)) mapped_fn hins (by omega) (by omega) (by omega) h) ?_
          rintro _ w ⟨rfl, h⟩
          refine xw_nil ?_
          exact ⟨⟨_, hinv.map, rfl, h⟩, ⟨((en rfl (en rfl (en rfl (en rfl (en rfl (en rfl (en rfl (en rfl s0))))))))).trans zG14_0.symm, ((en rfl (en rfl (en rfl (en rfl (en rfl (en rfl (en rfl (en rfl s2))))))))).trans zG14_2.symm, ((en rfl (en rfl (en rfl (en rfl (en rfl (en rfl (en rfl (en rfl s3))))))))).trans zG14_3.symm, ((en rfl (en rfl (en rfl (en rfl (en rfl (en rfl (en rfl (en rfl s4))))))))).trans zG14_4.symm, ((en rfl (en rfl (en rfl (en rfl (en rfl (en rfl (en rfl (en rfl s6))))))))).trans zG14_6.symm, ((en rfl (en rfl (en rfl (en rfl (en rfl (en rfl (en rfl (en rfl s28))))))))).trans zG14_28.symm, ((en rfl (en rfl (en rfl (en rfl (en rfl (en rfl (en rfl (en rfl s38))))))))).trans zG14_38.symm, ((en rfl (en rfl (en rfl (en rfl (en rfl (en rfl (en rfl (en rfl s39))))))))).trans zG14_39.symm, ((en rfl (en rfl (en rfl (en rfl (en rfl (en rfl (en rfl (en rfl s40))))))))).trans zG14_40.symm, ((en rfl (en rfl (en rfl (en rfl (en rfl (en rfl (en rfl (en rfl s41))))))))).trans zG14_41.symm, ((en rfl (en rfl (en rfl (en rfl (en rfl (en rfl (en rfl (en rfl s47))))))))).trans zG14_47.symm⟩⟩
        ·
          refine yc_region ?_
          refine x_val (r_move s3) (nd_of rfl) rfl ?_
          refine x_val (r_fieldAddr (o' := 1) Try.underlying28 rfl Try.sizeOf3 rfl (en rfl s6) rfl) (nd_of rfl) rfl ?_
          refine x_val (r_load h 0 rfl Try.isAgg3 es gc1) (nd_of rfl) rfl ?_
          refine x_val (r_fieldAddr (o' := 2) Try.underlying28 rfl Try.sizeOf3 rfl (en rfl (en rfl (en rfl s6))) rfl) (nd_of rfl) rfl ?_
          refine x_val (r_load h 0 rfl Try.isAgg3 es gc2) (nd_of rfl) rfl ?_
          refine x_val (r_fieldAddr (o' := 3) Try.underlying28 rfl Try.sizeOf26 rfl (en rfl (en rfl (en rfl (en rfl (en rfl s6))))) rfl) (nd_of rfl) rfl ?_
          refine x_val (r_load h 0 rfl Try.isAgg26 es gc3) (nd_of rfl) rfl ?_
          have h := h.f2
          refine x_enter (r_call Try.call10 (.cons (en rfl (en rfl (en rfl (en rfl (en rfl (en rfl es)))))) (.cons (en rfl (en rfl (en rfl (en rfl es)))) (.cons (en rfl (en rfl es)) (.cons es .nil))))) (nd_of rfl) rfl (splice_o (B' := 208 * (n + 1)) (hsp2.rslc 4 rfl) hins (fun p hp => (hwf.sp.wf p hp).1) (by omega) (by omega) (by omega) h) ?_
          rintro _ w ⟨rfl, h⟩
          refine xw_nil ?_
          exact ⟨⟨_, hinv.splice hwf.sp.wf hle, rfl, h⟩, ⟨((en rfl (en rfl (en rfl (en rfl (en rfl (en rfl (en rfl (en rfl s0))))))))).trans zG14_0.symm, ((en rfl (en rfl (en rfl (en rfl (en rfl (en rfl (en rfl (en rfl s2))))))))).trans zG14_2.symm, ((en rfl (en rfl (en rfl (en rfl (en rfl (en rfl (en rfl (en rfl s3))))))))).trans zG14_3.symm, ((en rfl (en rfl (en rfl (en rfl (en rfl (en rfl (en rfl (en rfl s4))))))))).trans zG14_4.symm, ((en rfl (en rfl (en rfl (en rfl (en rfl (en rfl (en rfl (en rfl s6))))))))).trans zG14_6.symm, ((en rfl (en rfl (en rfl (en rfl (en rfl (en rfl (en rfl (en rfl s28))))))))).trans zG14_28.symm, ((en rfl (en rfl (en rfl (en rfl (en rfl (en rfl (en rfl (en rfl s38))))))))).trans zG14_38.symm, ((en rfl (en rfl (en rfl (en rfl (en rfl (en rfl (en rfl (en rfl s39))))))))).trans zG14_39.symm, ((en rfl (en rfl (en rfl (en rfl (en rfl (en rfl (en rfl (en rfl s40))))))))).trans zG14_40.symm, ((en rfl (en rfl (en rfl (en rfl (en rfl (en rfl (en rfl (en rfl s41))))))))).trans zG14_41.symm, ((en rfl (en rfl (en rfl (en rfl (en rfl (en rfl (en rfl (en rfl s47))))))))).trans zG14_47.symm⟩⟩
      ·
        rintro ds g w ⟨⟨xs, hinv, rfl, h⟩, ⟨y0, y2, y3, y4, y6, y28, y38, y39, y40, y41, y47⟩⟩
        have s0 := y0.trans zG14_0
        have s2 := y2.trans zG14_2
        have s3 := y3.trans zG14_3
        have s4 := y4.trans zG14_4
        have s6 := y6.trans zG14_6
        have s28 := y28.trans zG14_28
        have s38 := y38.trans zG14_38
        have s39 := y39.trans zG14_39
        have s40 := y40.trans zG14_40
        have s41 := y41.trans zG14_41
        have s47 := y47.trans zG14_47
        refine yc_seq (fun K hK16 => ?_)
        have hinl := hinv.len
        have hins := hinv.size
        have hxok := h.objFacts.2.2
        refine yc_region ?_
        refine x_alloc1 h Try.zeroValue3 rfl rfl ?_
        intro b7 w h
        refine x_alloc1 h Try.zeroValue3 rfl rfl ?_
        intro b8 w h
        refine x_st (r_store h 1 rfl Try.sizeOf3 (en rfl es) ec rfl gc0) rfl (h.u1 sc0) ?_
        intro w h
        refine x_st (r_store h 0 rfl Try.sizeOf3 es ec rfl gc0) rfl (h.u0 sc0) ?_
        intro w h
        refine xw_nil ?_
        refine hK16 _ _ _ ?_
        refine yc_gen (fun g hg => ?_)
        have s0 := (hg 0).trans (en rfl (en rfl s0))
        have s2 := (hg 2).trans (en rfl (en rfl s2))
        have s3 := (hg 3).trans (en rfl (en rfl s3))
        have s4 := (hg 4).trans (en rfl (en rfl s4))
        have s6 := (hg 6).trans (en rfl (en rfl s6))
        have s7 := (hg 7).trans (en rfl es)
        have s8 := (hg 8).trans es
        have s28 := (hg 28).trans (en rfl (en rfl s28))
        have s38 := (hg 38).trans (en rfl (en rfl s38))
        have s39 := (hg 39).trans (en rfl (en rfl s39))
        have s40 := (hg 40).trans (en rfl (en rfl s40))
        have s41 := (hg 41).trans (en rfl (en rfl s41))
        have s47 := (hg 47).trans (en rfl (en rfl s47))
        clear hg
        refine yc_seq (fun K hK17 => ?_)
        refine yc_seq (fun K hK18 => ?_)
        refine yc_region ?_
        refine x_val (r_move s3) (nd_of rfl) rfl ?_
        have h := h.f2
        refine x_enter (r_call Try.call13 (.cons es .nil)) (nd_of rfl) rfl (all_o h) ?_
        rintro _ w ⟨c1, v1, rfl, h⟩
        refine xw_nil ?_
        refine hK18 _ _ _ ?_
        refine yc_gen (fun g hg => ?_)
        have s0 := (hg 0).trans (en rfl (en rfl s0))
        have s2 := (hg 2).trans (en rfl (en rfl s2))
        have s3 := (hg 3).trans (en rfl (en rfl s3))
        have s4 := (hg 4).trans (en rfl (en rfl s4))
        have s6 := (hg 6).trans (en rfl (en rfl s6))
        have s7 := (hg 7).trans (en rfl (en rfl s7))
        have s8 := (hg 8).trans (en rfl (en rfl s8))
        have s28 := (hg 28).trans (en rfl (en rfl s28))
        have s38 := (hg 38).trans (en rfl (en rfl s38))
        have s39 := (hg 39).trans (en rfl (en rfl s39))
        have s40 := (hg 40).trans (en rfl (en rfl s40))
        have s41 := (hg 41).trans (en rfl (en rfl s41))
        have s47 := (hg 47).trans (en rfl (en rfl s47))
        have s68 := (hg 68).trans es
        clear hg
        refine yc_block ?_
        refine yc_range s68 Try.call30 h ?_
        intro lp D fn tmps w htn htg h
        obtain ⟨lr, hlr, h⟩ := h.loopAbs
        have hR : ∀ (M : List SProp) (k2 : Nat) (x : X) (w : World), xs[k2]? = some x → SatL E w (M ++ (Cells b7 #[.int .i64 (sz (xs.take k2) : Int)] 3 :: Cells b8 #[.int .i64 (lastV xs k2)] 3 :: pt lp (.loop lr) :: pt D (.deferred (some [])) :: ObjO b xs (208 * (n + 1)) :: Cells b6 #[.int .i64 o2.kind, .int .i64 o2.i, .int .i64 o2.j, .slice al2 o2.ls.length cl2, .int .i64 o2.by_, .int .i64 o2.plus] 28 :: Marks Ds :: ObjO q [] 0 :: Cells b2 #[.bool false] 4 :: Old W :: R)) → FnOk Try.prog (.func (.yield lp) #[] #[]) [xV x] w (fun u w' => u = .bool true ∧ SatL E w' (M ++ (Cells b7 #[.int .i64 (sz (xs.take (k2 + 1)) : Int)] 3 :: Cells b8 #[.int .i64 (lastV xs (k2 + 1))] 3 :: pt lp (.loop lr) :: pt D (.deferred (some [])) :: ObjO b xs (208 * (n + 1)) :: Cells b6 #[.int .i64 o2.kind, .int .i64 o2.i, .int .i64 o2.j, .slice al2 o2.ls.length cl2, .int .i64 o2.by_, .int .i64 o2.plus] 28 :: Marks Ds :: ObjO q [] 0 :: Cells b2 #[.bool false] 4 :: Old W :: R))) := by
          intro M k2 x w hx h; replace h := h.app; have hpos := hinv.canon.ps x (List.mem_of_getElem? hx); have hnn := (hinv.wf x (List.mem_of_getElem? hx)).2; have hlne := last_ne hinv hx; have hst := sz_take_succ hx; have hsl := lastV_succ hx; have hsle := sz_get hx; obtain ⟨xn, xi⟩ := x; change FnOk _ _ [.agg #[.int .i64 (xn : Int), .int .i64 xi]] _ _; have hox2 : Ok 2 #[.int .i64 (xn : Int), .int .i64 xi] := ⟨rfl, by simp [Value.oneCell']⟩; have hpos : 0 < xn := hpos; have hnn : 0 ≤ xi := hnn; have hsl : lastV xs (k2 + 1) = xi := hsl; have hst : sz (xs.take (k2 + 1)) = sz (xs.take k2) + xn := hst; have hsle : sz (xs.take k2) + xn ≤ sz xs := take_sz_le hst; have h := h.f2
          subst hlr
          refine fnOk_round h rfl htn ?_
          refine xc_gen (fun g hg => ?_)
          have s0 := (hg 0).trans ((fold_get rfl).trans ((htg 0).trans s0))
          have s2 := (hg 2).trans ((fold_get rfl).trans ((htg 2).trans s2))
          have s3 := (hg 3).trans ((fold_get rfl).trans ((htg 3).trans s3))
          have s4 := (hg 4).trans ((fold_get rfl).trans ((htg 4).trans s4))
          have s6 := (hg 6).trans ((fold_get rfl).trans ((htg 6).trans s6))
          have s7 := (hg 7).trans ((fold_get rfl).trans ((htg 7).trans s7))
          have s8 := (hg 8).trans ((fold_get rfl).trans ((htg 8).trans s8))
          have s28 := (hg 28).trans ((fold_get rfl).trans ((htg 28).trans s28))
          have s38 := (hg 38).trans ((fold_get rfl).trans ((htg 38).trans s38))
          have s39 := (hg 39).trans ((fold_get rfl).trans ((htg 39).trans s39))
          have s40 := (hg 40).trans ((fold_get rfl).trans ((htg 40).trans s40))
          have s41 := (hg 41).trans ((fold_get rfl).trans ((htg 41).trans s41))
          have s47 := (hg 47).trans ((fold_get rfl).trans ((htg 47).trans s47))
          have s68 := (hg 68).trans ((fold_get rfl).trans ((htg 68).trans s68))
          have s69 := (hg 69).trans (fold1_0 (by rw [htn]; decide))
          clear hg
          refine xc_region ?_
          refine x_declA h Try.zeroValue34 Try.sizeOf34 rfl (en rfl s69) (by first | assumption | exact Ok.node (by assumption) | exact xOk.cells (by assumption) | exact ChOk.ok (by assumption)) rfl ?_
          intro b9 w h
          refine xw_nil ?_
          have h := h.f1
          refine thenR_mk ⟨_, _, rfl, h, fun w h => ?_⟩
          obtain ⟨lr2, hlr2, h⟩ := h.loopAbs
          refine xc_gen (fun g hg => ?_)
          have s0 := (hg 0).trans (en rfl s0)
          have s2 := (hg 2).trans (en rfl s2)
          have s3 := (hg 3).trans (en rfl s3)
          have s4 := (hg 4).trans (en rfl s4)
          have s6 := (hg 6).trans (en rfl s6)
          have s7 := (hg 7).trans (en rfl s7)
          have s8 := (hg 8).trans (en rfl s8)
          have s9 := (hg 9).trans es
          have s28 := (hg 28).trans (en rfl s28)
          have s38 := (hg 38).trans (en rfl s38)
          have s39 := (hg 39).trans (en rfl s39)
          have s40 := (hg 40).trans (en rfl s40)
          have s41 := (hg 41).trans (en rfl s41)
          have s47 := (hg 47).trans (en rfl s47)
          have s68 := (hg 68).trans (en rfl s68)
          have s69 := (hg 69).trans (en rfl s69)
          clear hg
          refine xc_block ?_
          refine xc_seq (fun K hK19 => ?_)
          refine xc_seq (fun K hK20 => ?_)
          refine xc_region ?_
          refine x_val (r_fieldAddr (o' := 0) Try.underlying34 rfl Try.sizeOf3 rfl s9 rfl) (nd_of rfl) rfl ?_
          refine x_val (r_load h 1 rfl Try.isAgg3 es gc0) (nd_of rfl) rfl ?_
          refine x_val (r_lss es ec (decide_eq_false (by omega))) (nd_of rfl) rfl ?_
          refine x_val (r_move es) (nd_of rfl) rfl ?_
          refine x_take (d := 73) rfl rfl es ?_
          refine x_val (r_fieldAddr (o' := 1) Try.underlying34 rfl Try.sizeOf3 rfl (en rfl (en rfl (en rfl (en rfl s9)))) rfl) (nd_of rfl) rfl ?_
          refine x_take (d := 73) rfl rfl (en rfl es) ?_
          refine x_val (r_load h 1 rfl Try.isAgg3 es gc1) (nd_of rfl) rfl ?_
          refine x_take (d := 73) rfl rfl (en rfl (en rfl es)) ?_
          refine x_val (r_load h 3 rfl Try.isAgg3 (en rfl (en rfl (en rfl (en rfl (en rfl (en rfl s8)))))) gc0) (nd_of rfl) rfl ?_
          refine x_take (d := 73) rfl rfl (en rfl (en rfl (en rfl es))) ?_
          refine x_val (r_eql (en rfl es) es (decide_eq_false (by exact hlne))) (nd_of rfl) rfl ?_
          refine x_val (r_pick_f (en rfl (en rfl (en rfl (en rfl es)))) es) (nd_of rfl) rfl ?_
          refine x_val (r_move es) (nd_of rfl) rfl ?_
          refine x_take (d := 79) rfl rfl es ?_
          refine x_val (r_fieldAddr (o' := 1) Try.underlying34 rfl Try.sizeOf3 rfl (en rfl (en rfl (en rfl (en rfl (en rfl (en rfl (en rfl (en rfl (en rfl (en rfl s9)))))))))) rfl) (nd_of rfl) rfl ?_
          refine x_take (d := 79) rfl rfl (en rfl es) ?_
          refine x_val (r_load h 1 rfl Try.isAgg3 es gc1) (nd_of rfl) rfl ?_
          refine x_take (d := 79) rfl rfl (en rfl (en rfl es)) ?_
          refine x_val (r_lss es ec (decide_eq_false (by omega))) (nd_of rfl) rfl ?_
          refine x_val (r_pick_f (en rfl (en rfl (en rfl es))) es) (nd_of rfl) rfl ?_
          refine xw_nil ?_
          refine hK20 _ _ ?_
          refine xc_gen (fun g hg => ?_)
          have s0 := (hg 0).trans (en rfl (en rfl (en rfl (en rfl (en rfl (en rfl (en rfl (en rfl (en rfl (en rfl (en rfl (en rfl (en rfl (en rfl s0))))))))))))))
          have s2 := (hg 2).trans (en rfl (en rfl (en rfl (en rfl (en rfl (en rfl (en rfl (en rfl (en rfl (en rfl (en rfl (en rfl (en rfl (en rfl s2))))))))))))))
          have s3 := (hg 3).trans (en rfl (en rfl (en rfl (en rfl (en rfl (en rfl (en rfl (en rfl (en rfl (en rfl (en rfl (en rfl (en rfl (en rfl s3))))))))))))))
          have s4 := (hg 4).trans (en rfl (en rfl (en rfl (en rfl (en rfl (en rfl (en rfl (en rfl (en rfl (en rfl (en rfl (en rfl (en rfl (en rfl s4))))))))))))))
          have s6 := (hg 6).trans (en rfl (en rfl (en rfl (en rfl (en rfl (en rfl (en rfl (en rfl (en rfl (en rfl (en rfl (en rfl (en rfl (en rfl s6))))))))))))))
          have s7 := (hg 7).trans (en rfl (en rfl (en rfl (en rfl (en rfl (en rfl (en rfl (en rfl (en rfl (en rfl (en rfl (en rfl (en rfl (en rfl s7))))))))))))))
          have s8 := (hg 8).trans (en rfl (en rfl (en rfl (en rfl (en rfl (en rfl (en rfl (en rfl (en rfl (en rfl (en rfl (en rfl (en rfl (en rfl s8))))))))))))))
          have s9 := (hg 9).trans (en rfl (en rfl (en rfl (en rfl (en rfl (en rfl (en rfl (en rfl (en rfl (en rfl (en rfl (en rfl (en rfl (en rfl s9))))))))))))))
          have s28 := (hg 28).trans (en rfl (en rfl (en rfl (en rfl (en rfl (en rfl (en rfl (en rfl (en rfl (en rfl (en rfl (en rfl (en rfl (en rfl s28))))))))))))))
          have s38 := (hg 38).trans (en rfl (en rfl (en rfl (en rfl (en rfl (en rfl (en rfl (en rfl (en rfl (en rfl (en rfl (en rfl (en rfl (en rfl s38))))))))))))))
          have s39 := (hg 39).trans (en rfl (en rfl (en rfl (en rfl (en rfl (en rfl (en rfl (en rfl (en rfl (en rfl (en rfl (en rfl (en rfl (en rfl s39))))))))))))))
          have s40 := (hg 40).trans (en rfl (en rfl (en rfl (en rfl (en rfl (en rfl (en rfl (en rfl (en rfl (en rfl (en rfl (en rfl (en rfl (en rfl s40))))))))))))))
          have s41 := (hg 41).trans (en rfl (en rfl (en rfl (en rfl (en rfl (en rfl (en rfl (en rfl (en rfl (en rfl (en rfl (en rfl (en rfl (en rfl s41))))))))))))))
          have s47 := (hg 47).trans (en rfl (en rfl (en rfl (en rfl (en rfl (en rfl (en rfl (en rfl (en rfl (en rfl (en rfl (en rfl (en rfl (en rfl s47))))))))))))))
          have s68 := (hg 68).trans (en rfl (en rfl (en rfl (en rfl (en rfl (en rfl (en rfl (en rfl (en rfl (en rfl (en rfl (en rfl (en rfl (en rfl s68))))))))))))))
          have s69 := (hg 69).trans (en rfl (en rfl (en rfl (en rfl (en rfl (en rfl (en rfl (en rfl (en rfl (en rfl (en rfl (en rfl (en rfl (en rfl s69))))))))))))))
          have s83 := (hg 83).trans es
          clear hg
          refine xc_cond s83 (fun hc => by cases hc) (fun _ => ?_)
          refine xc_skip ?_
          refine hK19 _ _ ?_
          have hS := h
          have hS := (hS.f0).drop
          have hS := (hS.f1).drop
          have hS := (hS.f1).drop
          refine xc_planR 7 [(1, 2), (2, 1), (4, 2), (5, 1), (0, 0), (3, 2), (6, 0), (7, 0)] (by kernel_rfl) rfl (by kernel_rfl) (by kernel_rfl) (fun _ _ hh => by first | exact roundR_ng hh | exact hh) hS ?_
          have h := h.drew
          refine xp_read (i := 1) rfl (fun W => r_fieldAddr (o' := 0) Try.underlying34 rfl Try.sizeOf3 rfl s9 rfl) rfl (fun _ _ _ hh => by first | exact roundR_np hh | exact hh) ?_
          refine xp_load (i := 2) rfl (fun W hW => r_load hW 0 rfl Try.isAgg3 es gc0) rfl (fun _ _ _ hh => by first | exact roundR_np hh | exact hh) ?_
          refine xp_read (i := 4) rfl (fun W => r_fieldAddr (o' := 1) Try.underlying34 rfl Try.sizeOf3 rfl (en rfl (en rfl s9)) rfl) rfl (fun _ _ _ hh => by first | exact roundR_np hh | exact hh) ?_
          refine xp_load (i := 5) rfl (fun W hW => r_load hW 0 rfl Try.isAgg3 es gc1) rfl (fun _ _ _ hh => by first | exact roundR_np hh | exact hh) ?_
          refine xp_val (i := 0) rfl (r_load h 2 rfl Try.isAgg3 (en rfl (en rfl (en rfl (en rfl s7)))) gc0) rfl (fun _ => (((h.f0).drop.f1).drop.f1).drop) ?_
          refine xp_read (i := 3) rfl (fun W => r_add es (en rfl (en rfl (en rfl es))) (show _ = ((sz (xs.take (k2 + 1)) : Int) : Int) from by omega) (by unfold I64; omega)) rfl (fun _ _ _ hh => by first | exact roundR_np hh | exact hh) ?_
          refine xp_st (i := 6) rfl (r_store h 2 rfl Try.sizeOf3 (en rfl (en rfl (en rfl (en rfl (en rfl (en rfl s7)))))) es rfl gc0) (h.u2 sc0) (fun _ w h => (((h.f0).drop.f1).drop.f1).drop) ?_
          intro w h
          refine xp_st (i := 7) rfl (r_store h 3 rfl Try.sizeOf3 (en rfl (en rfl (en rfl (en rfl (en rfl (en rfl s8)))))) (en rfl (en rfl es)) rfl gc0) (h.u3 sc0) (fun hh => absurd rfl hh) ?_
          intro w h
          refine xp_nil ?_
          have h := h.f1
          have h := h.f3
          have h := h.f3
          have h := h.f3
          subst hlr2; rw [← hsl] at h; exact roundR_normal h fun w h => ⟨rfl, SatL.app (h.f3.drop.f1.f2.f1)⟩
        have h := h.f10
        have h := h.f10
        have h := h.f10
        have h := h.f10
        have h := h.f8
        have h := h.f6
        have h := h.f6
        have h := h.f9
        have h := h.f10
        have h := h.f10
        have h := h.f10
        refine Calls.ret_mono (allit_t (IL := fun k2 => Cells b7 #[.int .i64 (sz (xs.take k2) : Int)] 3 :: Cells b8 #[.int .i64 (lastV xs k2)] 3 :: pt lp (.loop lr) :: pt D (.deferred (some [])) :: ObjO b xs (208 * (n + 1)) :: Cells b6 #[.int .i64 o2.kind, .int .i64 o2.i, .int .i64 o2.j, .slice al2 o2.ls.length cl2, .int .i64 o2.by_, .int .i64 o2.plus] 28 :: Marks Ds :: ObjO q [] 0 :: Cells b2 #[.bool false] 4 :: Old W :: R) hxok (by omega) hR h) ?_; rintro _ w h; subst hlr; refine ⟨_, _, (fun e => by cases e), ((h.f5).f5), ?_⟩; intro w h; rw [List.take_length] at h
        refine hK17 _ _ _ ?_
        refine yc_seq (fun K hK21 => ?_)
        have h := (h.f0).drop
        have h := (h.f1).drop
        have h := (h.f1).drop
        have h := h.f3
        refine yc_of_xc (xc_plan 4 [(0, 1), (1, 2), (2, 0), (3, 2)] (by kernel_rfl) rfl (by kernel_rfl) h ?_)
        have h := h.drew
        refine xp_load (i := 0) rfl (fun W hW => r_load hW 2 rfl Try.isAgg3 s7 gc0) rfl (fun _ _ _ hh => by first | exact bodyR_np hh | exact bodyY_np hh | exact hh) ?_
        refine xp_read (i := 1) rfl (fun W => r_move (en rfl s3)) rfl (fun _ _ _ hh => by first | exact bodyR_np hh | exact bodyY_np hh | exact hh) ?_
        refine xp_enter (i := 2) rfl (r_call Try.call14 (.cons es .nil)) rfl (len_o h) ?_
        rintro _ w ⟨rfl, h⟩
        refine ⟨(fun _ => h), ?_⟩
        refine xp_read (i := 3) rfl (fun W => r_neq (en rfl (en rfl es)) es (decide_eq_false (by simp))) rfl (fun _ _ _ hh => by first | exact bodyR_np hh | exact bodyY_np hh | exact hh) ?_
        refine xp_nil ?_
        refine hK21 _ _ _ ?_
        refine yc_gen (fun g hg => ?_)
        have s0 := (hg 0).trans (en rfl (en rfl (en rfl (en rfl s0))))
        have s2 := (hg 2).trans (en rfl (en rfl (en rfl (en rfl s2))))
        have s3 := (hg 3).trans (en rfl (en rfl (en rfl (en rfl s3))))
        have s4 := (hg 4).trans (en rfl (en rfl (en rfl (en rfl s4))))
        have s6 := (hg 6).trans (en rfl (en rfl (en rfl (en rfl s6))))
        have s7 := (hg 7).trans (en rfl (en rfl (en rfl (en rfl s7))))
        have s8 := (hg 8).trans (en rfl (en rfl (en rfl (en rfl s8))))
        have s28 := (hg 28).trans (en rfl (en rfl (en rfl (en rfl s28))))
        have s38 := (hg 38).trans (en rfl (en rfl (en rfl (en rfl s38))))
        have s39 := (hg 39).trans (en rfl (en rfl (en rfl (en rfl s39))))
        have s40 := (hg 40).trans (en rfl (en rfl (en rfl (en rfl s40))))
        have s41 := (hg 41).trans (en rfl (en rfl (en rfl (en rfl s41))))
        have s47 := (hg 47).trans (en rfl (en rfl (en rfl (en rfl s47))))
        have s68 := (hg 68).trans (en rfl (en rfl (en rfl (en rfl s68))))
        have s93 := (hg 93).trans es
        clear hg
        refine yc_cond s93 (fun hc => by cases hc) (fun _ => ?_)
        refine yc_skip ?_
        refine hK10 _ _ _ ?_
        refine yc_region ?_
        refine x_val (r_add s40 ec (show _ = (((k + 1 : Nat) : Int) : Int) from by omega) (by unfold I64; omega)) (nd_of rfl) rfl ?_
        have h := (h.f2).drop
        have h := (h.f2).drop
        have h := (h.f2).drop
        refine x_val (r_move es) (nd_of rfl) rfl ?_
        refine xw_nil ?_
        have h := h.f4
        have h := h.f4
        have h := h.f2
        have h := h.f4
        have h := h.f4
        exact ⟨os.length - (k + 1), by omega, ⟨k + 1, n + 1, xs, D :: Ds, rfl, by omega, by omega, hinv, rfl, es, SatL.close h⟩, ⟨((en rfl (en rfl s0))).trans zG7_0.symm, ((en rfl (en rfl s2))).trans zG7_2.symm, ((en rfl (en rfl s3))).trans zG7_3.symm, ((en rfl (en rfl s4))).trans zG7_4.symm, ((en rfl (en rfl s28))).trans zG7_28.symm, ((en rfl (en rfl s38))).trans zG7_38.symm, ((en rfl (en rfl s39))).trans zG7_39.symm⟩⟩
  ·
    refine yc_exit ?_
    refine hK5 _ _ _ ?_
    refine yc_seq (fun K hK22 => ?_)
    have hinl := hinv.len
    have hins := hinv.size
    have hxok := h.f1.objFacts.2.2
    refine yc_region ?_
    refine x_alloc1 h Try.zeroValue26 rfl rfl ?_
    intro b10 w h
    refine xw_nil ?_
    refine hK22 _ _ _ ?_
    refine yc_gen (fun g hg => ?_)
    have s0 := (hg 0).trans (en rfl s0)
    have s2 := (hg 2).trans (en rfl s2)
    have s3 := (hg 3).trans (en rfl s3)
    have s4 := (hg 4).trans (en rfl s4)
    have s10 := (hg 10).trans es
    have s28 := (hg 28).trans (en rfl s28)
    have s38 := (hg 38).trans (en rfl s38)
    have s39 := (hg 39).trans (en rfl s39)
    have s40 := (hg 40).trans (en rfl s40)
    have s41 := (hg 41).trans (en rfl s41)
    clear hg
    refine yc_seq (fun K hK23 => ?_)
    refine yc_seq (fun K hK24 => ?_)
    refine yc_region ?_
    refine x_val (r_move s3) (nd_of rfl) rfl ?_
    have h := h.f2
    refine x_enter (r_call Try.call13 (.cons es .nil)) (nd_of rfl) rfl (all_o h) ?_
    rintro _ w ⟨c2, v2, rfl, h⟩
    refine xw_nil ?_
    refine hK24 _ _ _ ?_
    refine yc_gen (fun g hg => ?_)
    have s0 := (hg 0).trans (en rfl (en rfl s0))
    have s2 := (hg 2).trans (en rfl (en rfl s2))
    have s3 := (hg 3).trans (en rfl (en rfl s3))
    have s4 := (hg 4).trans (en rfl (en rfl s4))
    have s10 := (hg 10).trans (en rfl (en rfl s10))
    have s28 := (hg 28).trans (en rfl (en rfl s28))
    have s38 := (hg 38).trans (en rfl (en rfl s38))
    have s39 := (hg 39).trans (en rfl (en rfl s39))
    have s40 := (hg 40).trans (en rfl (en rfl s40))
    have s41 := (hg 41).trans (en rfl (en rfl s41))
    have s96 := (hg 96).trans es
    clear hg
    refine yc_block ?_
    refine yc_range s96 Try.call30 h ?_
    intro lp D2 fn tmps w htn htg h
    obtain ⟨lr, hlr, h⟩ := h.loopAbs
    have hR : ∀ (M : List SProp) (k2 : Nat) (x : X) (w : World), xs[k2]? = some x → SatL E w (M ++ (Acc b10 (xs.take k2) :: pt lp (.loop lr) :: pt D2 (.deferred (some [])) :: ObjO b xs (208 * n) :: Marks Ds :: ObjO q [] 0 :: Cells b2 #[.bool false] 4 :: Old W :: R)) → FnOk Try.prog (.func (.yield lp) #[] #[]) [xV x] w (fun u w' => u = .bool true ∧ SatL E w' (M ++ (Acc b10 (xs.take (k2 + 1)) :: pt lp (.loop lr) :: pt D2 (.deferred (some [])) :: ObjO b xs (208 * n) :: Marks Ds :: ObjO q [] 0 :: Cells b2 #[.bool false] 4 :: Old W :: R))) := by
      intro M k2 x w hx h; replace h := h.app; have hox := (hxok x (List.mem_of_getElem? hx)).cells; have htk : xs.take (k2 + 1) = xs.take k2 ++ [x] := (by rw [List.take_add_one, hx]; rfl); have hlk : (xs.take k2).length ≤ xs.length := (by rw [List.length_take]; omega); obtain ⟨u0, h⟩ := SatL.openAcc h; have h := h.f2
      subst hlr
      refine fnOk_round h rfl htn ?_
      refine xc_gen (fun g hg => ?_)
      have s0 := (hg 0).trans ((fold_get rfl).trans ((htg 0).trans s0))
      have s2 := (hg 2).trans ((fold_get rfl).trans ((htg 2).trans s2))
      have s3 := (hg 3).trans ((fold_get rfl).trans ((htg 3).trans s3))
      have s4 := (hg 4).trans ((fold_get rfl).trans ((htg 4).trans s4))
      have s10 := (hg 10).trans ((fold_get rfl).trans ((htg 10).trans s10))
      have s28 := (hg 28).trans ((fold_get rfl).trans ((htg 28).trans s28))
      have s38 := (hg 38).trans ((fold_get rfl).trans ((htg 38).trans s38))
      have s39 := (hg 39).trans ((fold_get rfl).trans ((htg 39).trans s39))
      have s40 := (hg 40).trans ((fold_get rfl).trans ((htg 40).trans s40))
      have s41 := (hg 41).trans ((fold_get rfl).trans ((htg 41).trans s41))
      have s96 := (hg 96).trans ((fold_get rfl).trans ((htg 96).trans s96))
      have s97 := (hg 97).trans (fold1_0 (by rw [htn]; decide))
      clear hg
      refine xc_region ?_
      refine x_declA h Try.zeroValue34 Try.sizeOf34 rfl (en rfl s97) (by first | assumption | exact Ok.node (by assumption) | exact xOk.cells (by assumption) | exact ChOk.ok (by assumption)) rfl ?_
      intro b11 w h
      refine xw_nil ?_
      have h := h.f1
      refine thenR_mk ⟨_, _, rfl, h, fun w h => ?_⟩
      obtain ⟨lr2, hlr2, h⟩ := h.loopAbs
      refine xc_gen (fun g hg => ?_)
      have s0 := (hg 0).trans (en rfl s0)
      have s2 := (hg 2).trans (en rfl s2)
      have s3 := (hg 3).trans (en rfl s3)
      have s4 := (hg 4).trans (en rfl s4)
      have s10 := (hg 10).trans (en rfl s10)
      have s11 := (hg 11).trans es
      have s28 := (hg 28).trans (en rfl s28)
      have s38 := (hg 38).trans (en rfl s38)
      have s39 := (hg 39).trans (en rfl s39)
      have s40 := (hg 40).trans (en rfl s40)
      have s41 := (hg 41).trans (en rfl s41)
      have s96 := (hg 96).trans (en rfl s96)
      have s97 := (hg 97).trans (en rfl s97)
      clear hg
      refine xc_block ?_
      refine xc_region ?_
      refine x_val (r_load h 2 rfl Try.isAgg26 s10 gc0) (nd_of rfl) rfl ?_
      refine x_val (r_loadAgg h 1 rfl Try.isAgg34 Try.sizeOf34 (en rfl s11) (Ok.le (by first | assumption | exact Ok.node (by assumption) | exact xOk.cells (by assumption) | exact ChOk.ok (by assumption))) (ext_full (Ok.size (by first | assumption | exact Ok.node (by assumption) | exact xOk.cells (by assumption) | exact ChOk.ok (by assumption))))) (nd_of rfl) rfl ?_
      refine x_bslice (c := xC x) h.f3 Try.underlying26 Try.sizeOf34 zX rfl rfl es rfl hox rfl ?_; intro bn w h; have h := h.f1
      refine x_append (bytes := 16) h Try.underlying26 (by kernel_rfl) (en rfl (en rfl es)) es ((Nat.one_mul _).symm ▸ hox) (by omega) (by omega) rfl ?_; intro u2 w h; have h := h.f1.drop; obtain ⟨au, cu, rfl, _, _⟩ := h.rowVal
      refine x_st (r_store h 3 rfl Try.sizeOf26 (en rfl (en rfl (en rfl (en rfl s10)))) es rfl gc0) rfl (h.u3 sc0) ?_
      intro w h
      refine xw_nil ?_
      have h := h.f2
      have h := h.f1
      have h := h.f3
      have h := h.f3
      subst hlr2; exact roundR_normal h fun w h => ⟨rfl, SatL.app (SatL.closeAcc (u := .slice au ((xs.take k2).length + 1) cu) (show SatL E w (_ :: Row _ KX (.slice au ((xs.take k2).length + 1) cu) (xs.take (k2 + 1)).length (flat (xs.take (k2 + 1))) :: _) by rw [htk, flat_app, xflat_one, List.length_append]; exact ((h.f3.drop.f1).f2).f1))⟩
    have h := h.f5
    have h := SatL.closeAcc (d := xs.take 0) (b := b10) (u := .slice none 0 0) ((h.rowNil (e := 34) (sz := KX)).f1)
    have h := h.f8
    have h := h.f8
    have h := h.f8
    have h := h.f8
    have h := h.f6
    have h := h.f6
    have h := h.f6
    have h := h.f8
    have h := h.f8
    refine Calls.ret_mono (allit_t (IL := fun k2 => Acc b10 (xs.take k2) :: pt lp (.loop lr) :: pt D2 (.deferred (some [])) :: ObjO b xs (208 * n) :: Marks Ds :: ObjO q [] 0 :: Cells b2 #[.bool false] 4 :: Old W :: R) hxok (by omega) hR h) ?_; rintro _ w h; subst hlr; refine ⟨_, _, (fun e => by cases e), ((h.f4).f4), ?_⟩; intro w h; rw [List.take_length] at h
    refine hK23 _ _ _ ?_
    refine yc_seq (fun K hK25 => ?_)
    refine yc_seq (fun K hK26 => ?_)
    have h := (h.f0).drop
    have h := (h.f1).drop
    have h := (h.f1).drop
    obtain ⟨u1, h⟩ := SatL.openAcc (h.f1)
    obtain ⟨au1, cu1, rfl, _, _⟩ := (h.f1).rowVal
    have h := h.f5
    have h := SatL.objMono (B' := 100000) (by omega) h
    rw [← List.drop_length (l := xs)] at h
    refine yc_region ?_
    refine x_val (r_load h 1 rfl Try.isAgg26 s10 gc0) (nd_of rfl) rfl ?_
    refine x_val (r_len Try.underlying26 es) (nd_of rfl) rfl ?_
    refine x_val (r_sub es ec (show _ = (((xs.length : Int) - 1) : Int) from by rfl) (by unfold I64; omega)) (nd_of rfl) rfl ?_
    refine x_val (r_assign es) (nd_of rfl) rfl ?_
    refine xw_nil ?_
    refine hK26 _ _ _ ?_
    refine yc_gen (fun g hg => ?_)
    have s0 := (hg 0).trans (en rfl (en rfl (en rfl (en rfl s0))))
    have s2 := (hg 2).trans (en rfl (en rfl (en rfl (en rfl s2))))
    have s3 := (hg 3).trans (en rfl (en rfl (en rfl (en rfl s3))))
    have s4 := (hg 4).trans (en rfl (en rfl (en rfl (en rfl s4))))
    have s10 := (hg 10).trans (en rfl (en rfl (en rfl (en rfl s10))))
    have s12 := (hg 12).trans es
    have s28 := (hg 28).trans (en rfl (en rfl (en rfl (en rfl s28))))
    have s38 := (hg 38).trans (en rfl (en rfl (en rfl (en rfl s38))))
    have s39 := (hg 39).trans (en rfl (en rfl (en rfl (en rfl s39))))
    have s40 := (hg 40).trans (en rfl (en rfl (en rfl (en rfl s40))))
    have s41 := (hg 41).trans (en rfl (en rfl (en rfl (en rfl s41))))
    have s96 := (hg 96).trans (en rfl (en rfl (en rfl (en rfl s96))))
    clear hg
    refine yc_block ?_
    obtain ⟨G27, hG27⟩ : ∃ g0 : Nat → Value, g0 = g := ⟨_, rfl⟩
    have zG27_0 : G27 0 = _ := (congrFun hG27 0).trans s0
    have zG27_2 : G27 2 = _ := (congrFun hG27 2).trans s2
    have zG27_3 : G27 3 = _ := (congrFun hG27 3).trans s3
    have zG27_4 : G27 4 = _ := (congrFun hG27 4).trans s4
    have zG27_10 : G27 10 = _ := (congrFun hG27 10).trans s10
    have zG27_28 : G27 28 = _ := (congrFun hG27 28).trans s28
    have zG27_38 : G27 38 = _ := (congrFun hG27 38).trans s38
    have zG27_39 : G27 39 = _ := (congrFun hG27 39).trans s39
    have zG27_40 : G27 40 = _ := (congrFun hG27 40).trans s40
    have zG27_41 : G27 41 = _ := (congrFun hG27 41).trans s41
    have zG27_96 : G27 96 = _ := (congrFun hG27 96).trans s96
    refine yc_loop (fun m ds f w => (∃ i : Nat, m = i ∧ i ≤ xs.length ∧ ds = mark D2 :: Ds.map mark ∧ f 12 = .int .i64 ((i : Int) - 1) ∧ SatL E w (ObjO q (xs.drop i) 100000 :: Cells b10 #[.slice au1 xs.length cu1] 26 :: XRow (.slice au1 xs.length cu1) xs :: pt D2 (.deferred (some [])) :: ObjO b xs (208 * n) :: Marks Ds :: Cells b2 #[.bool false] 4 :: Old W :: R)) ∧ (f 0 = G27 0 ∧ f 2 = G27 2 ∧ f 3 = G27 3 ∧ f 4 = G27 4 ∧ f 10 = G27 10 ∧ f 28 = G27 28 ∧ f 38 = G27 38 ∧ f 39 = G27 39 ∧ f 40 = G27 40 ∧ f 41 = G27 41 ∧ f 96 = G27 96)) (xs.length) ⟨⟨xs.length, rfl, Nat.le_refl _, rfl, s12, h⟩, ⟨congrFun hG27.symm 0, congrFun hG27.symm 2, congrFun hG27.symm 3, congrFun hG27.symm 4, congrFun hG27.symm 10, congrFun hG27.symm 28, congrFun hG27.symm 38, congrFun hG27.symm 39, congrFun hG27.symm 40, congrFun hG27.symm 41, congrFun hG27.symm 96⟩⟩ ?_
    rintro m ds g w ⟨⟨i, hm, hi, rfl, s12, h⟩, ⟨y0, y2, y3, y4, y10, y28, y38, y39, y40, y41, y96⟩⟩
    have s0 := y0.trans zG27_0
    have s2 := y2.trans zG27_2
    have s3 := y3.trans zG27_3
    have s4 := y4.trans zG27_4
    have s10 := y10.trans zG27_10
    have s28 := y28.trans zG27_28
    have s38 := y38.trans zG27_38
    have s39 := y39.trans zG27_39
    have s40 := y40.trans zG27_40
    have s41 := y41.trans zG27_41
    have s96 := y96.trans zG27_96
    refine yc_seq (fun K hK28 => ?_)
    refine yc_seq (fun K hK29 => ?_)
    refine yc_region ?_
    refine x_val (r_move s12) (nd_of rfl) rfl ?_
    refine x_val (r_geq es ec rfl) (nd_of rfl) rfl ?_
    refine xw_nil ?_
    refine hK29 _ _ _ ?_
    refine yc_gen (fun g hg => ?_)
    have s0 := (hg 0).trans (en rfl (en rfl s0))
    have s2 := (hg 2).trans (en rfl (en rfl s2))
    have s3 := (hg 3).trans (en rfl (en rfl s3))
    have s4 := (hg 4).trans (en rfl (en rfl s4))
    have s10 := (hg 10).trans (en rfl (en rfl s10))
    have s12 := (hg 12).trans (en rfl (en rfl s12))
    have s28 := (hg 28).trans (en rfl (en rfl s28))
    have s38 := (hg 38).trans (en rfl (en rfl s38))
    have s39 := (hg 39).trans (en rfl (en rfl s39))
    have s40 := (hg 40).trans (en rfl (en rfl s40))
    have s41 := (hg 41).trans (en rfl (en rfl s41))
    have s96 := (hg 96).trans (en rfl (en rfl s96))
    have s106 := (hg 106).trans es
    clear hg
    refine yc_cond s106 (fun hc => ?_) (fun hc => ?_)
    ·
      refine yc_skip ?_
      refine hK28 _ _ _ ?_
      refine yc_seq (fun K hK30 => ?_)
      refine yc_block ?_
      refine yc_seq (fun K hK31 => ?_)
      have hi0 : 0 < i := by have := of_decide_eq_true hc; omega
      obtain ⟨i, rfl⟩ : ∃ i', i = i' + 1 := ⟨i - 1, by omega⟩
      replace s12 := s12.trans (show Value.int .i64 (((i + 1 : Nat) : Int) - 1) = Value.int .i64 (i : Int) by congr 1; omega)
      obtain ⟨x, hx⟩ : ∃ x, xs[i]? = some x := ⟨_, List.getElem?_eq_getElem (by omega)⟩
      have hpx : (xs.map toR)[i]? = some (toR x) := by rw [List.getElem?_map, hx]; rfl
      have hwx : wfR (toR x) := (hinv.wf x (List.mem_of_getElem? hx)).1
      have hx9 : x.1 ≤ 1000000000000 := hxok x (List.mem_of_getElem? hx)
      have hwx2 : I64 x.2 := hwx.2
      have hok13 : Ok 2 ([.int .i64 (x.1 : Int), .int .i64 x.2] : List Value).toArray := ⟨rfl, by simp [Value.oneCell']⟩
      obtain ⟨hs1, hs2, hs3, hs4, hs5⟩ := half_step hinv hx
      have hdl : (xs.drop (i + 1)).length ≤ xs.length := by rw [List.length_drop]; omega
      have hdz : sz (xs.drop (i + 1)) ≤ 536870912 := Nat.le_trans (drop_sz_le) hins
      obtain ⟨a9, c9, e9, hrd⟩ := xrow_rslc h.f2
      rw [List.length_map] at e9
      cases e9
      obtain ⟨ad, rfl, hcell⟩ := hrd _ h.f2 i _ hpx
      refine yc_region ?_
      refine x_val (r_load h 1 rfl Try.isAgg26 s10 gc0) (nd_of rfl) rfl ?_
      refine x_val (r_move (en rfl s12)) (nd_of rfl) rfl ?_
      refine x_val (r_indexAny Try.underlying26 Try.sizeOf34 (en rfl es) es (by omega) (by omega)) (nd_of rfl) rfl ?_
      refine x_val (r_loadAggAt (cs := [.int .i64 (x.1 : Int), .int .i64 x.2]) Try.isAgg34 Try.sizeOf34 es rfl hcell) (nd_of rfl) rfl ?_
      refine x_declA h Try.zeroValue34 Try.sizeOf34 rfl (en rfl es) (by first | assumption | exact Ok.node (by assumption) | exact xOk.cells (by assumption) | exact ChOk.ok (by assumption)) rfl ?_
      intro b13 w h
      refine xw_nil ?_
      refine hK31 _ _ _ ?_
      refine yc_gen (fun g hg => ?_)
      have s0 := (hg 0).trans (en rfl (en rfl (en rfl (en rfl (en rfl s0)))))
      have s2 := (hg 2).trans (en rfl (en rfl (en rfl (en rfl (en rfl s2)))))
      have s3 := (hg 3).trans (en rfl (en rfl (en rfl (en rfl (en rfl s3)))))
      have s4 := (hg 4).trans (en rfl (en rfl (en rfl (en rfl (en rfl s4)))))
      have s10 := (hg 10).trans (en rfl (en rfl (en rfl (en rfl (en rfl s10)))))
      have s12 := (hg 12).trans (en rfl (en rfl (en rfl (en rfl (en rfl s12)))))
      have s13 := (hg 13).trans es
      have s28 := (hg 28).trans (en rfl (en rfl (en rfl (en rfl (en rfl s28)))))
      have s38 := (hg 38).trans (en rfl (en rfl (en rfl (en rfl (en rfl s38)))))
      have s39 := (hg 39).trans (en rfl (en rfl (en rfl (en rfl (en rfl s39)))))
      have s40 := (hg 40).trans (en rfl (en rfl (en rfl (en rfl (en rfl s40)))))
      have s41 := (hg 41).trans (en rfl (en rfl (en rfl (en rfl (en rfl s41)))))
      have s96 := (hg 96).trans (en rfl (en rfl (en rfl (en rfl (en rfl s96)))))
      have s106 := (hg 106).trans (en rfl (en rfl (en rfl (en rfl (en rfl s106)))))
      clear hg
      refine yc_seq (fun K hK32 => ?_)
      refine yc_region ?_
      refine x_val (r_move s4) (nd_of rfl) rfl ?_
      refine x_val (r_fieldAddr (o' := 0) Try.underlying34 rfl Try.sizeOf3 rfl (en rfl s13) rfl) (nd_of rfl) rfl ?_
      refine x_val (r_load h 0 rfl Try.isAgg3 es gc0) (nd_of rfl) rfl ?_
      refine x_val (r_half es ec hx9) (nd_of rfl) rfl ?_
      refine x_val (r_fieldAddr (o' := 1) Try.underlying34 rfl Try.sizeOf3 rfl (en rfl (en rfl (en rfl (en rfl s13)))) rfl) (nd_of rfl) rfl ?_
      refine x_val (r_load h 0 rfl Try.isAgg3 es gc1) (nd_of rfl) rfl ?_
      refine x_val (r_build2 Try.underlying34 zX Try.sizeOf3 Try.sizeOf3 rfl rfl (en rfl (en rfl es)) es) (nd_of rfl) rfl ?_
      refine x_bsliceL (c := #[.int .i64 ((x.1 / 2 : Nat) : Int), .int .i64 x.2]) h Try.underlying26 Try.sizeOf34 zX rfl (by kernel_rfl) rfl rfl rfl ?_; intro bs w h
      have h := h.f2
      refine x_enter (r_call Try.call10 (.cons (en rfl (en rfl (en rfl (en rfl (en rfl (en rfl (en rfl es))))))) (.cons ec (.cons ec (.cons es .nil))))) (nd_of rfl) rfl (splice_o (B' := 100000) (ps := [(((x.1 / 2 : Nat) : Int), x.2)]) (rslc_cells rfl rfl) hdz (by simp [I64]; omega) (Nat.le_trans (Nat.add_le_add_right (Nat.add_le_add_right hdl 1) 4) (by omega)) (by omega) (by omega) h) ?_
      rintro _ w ⟨rfl, h⟩
      refine x_val (r_neq es ec (decide_eq_false (by exact fun hh => hh hs1))) (nd_of rfl) rfl ?_
      refine x_val (r_move es) (nd_of rfl) rfl ?_
      refine x_take (d := 123) rfl rfl es ?_
      refine x_val (r_move (en rfl (en rfl (en rfl (en rfl (en rfl (en rfl (en rfl (en rfl (en rfl (en rfl (en rfl s4)))))))))))) (nd_of rfl) rfl ?_
      refine x_take (d := 123) rfl rfl (en rfl es) ?_
      refine x_val (r_fieldAddr (o' := 0) Try.underlying34 rfl Try.sizeOf3 rfl (en rfl (en rfl (en rfl (en rfl (en rfl (en rfl (en rfl (en rfl (en rfl (en rfl (en rfl (en rfl s13)))))))))))) rfl) (nd_of rfl) rfl ?_
      refine x_take (d := 123) rfl rfl (en rfl (en rfl es)) ?_
      refine x_val (r_load h 2 rfl Try.isAgg3 es gc0) (nd_of rfl) rfl ?_
      refine x_take (d := 123) rfl rfl (en rfl (en rfl (en rfl es))) ?_
      refine x_val (r_fieldAddr (o' := 0) Try.underlying34 rfl Try.sizeOf3 rfl (en rfl (en rfl (en rfl (en rfl (en rfl (en rfl (en rfl (en rfl (en rfl (en rfl (en rfl (en rfl (en rfl (en rfl s13)))))))))))))) rfl) (nd_of rfl) rfl ?_
      refine x_take (d := 123) rfl rfl (en rfl (en rfl (en rfl (en rfl es)))) ?_
      refine x_val (r_load h 2 rfl Try.isAgg3 es gc0) (nd_of rfl) rfl ?_
      refine x_take (d := 123) rfl rfl (en rfl (en rfl (en rfl (en rfl (en rfl es))))) ?_
      refine x_val (r_half es ec hx9) (nd_of rfl) rfl ?_
      refine x_take (d := 123) rfl rfl (en rfl (en rfl (en rfl (en rfl (en rfl (en rfl es)))))) ?_
      refine x_val (r_sub (en rfl (en rfl (en rfl es))) es (show _ = (((x.1 - x.1 / 2 : Nat) : Int) : Int) from by omega) (by unfold I64; omega)) (nd_of rfl) rfl ?_
      refine x_take (d := 123) rfl rfl (en rfl (en rfl (en rfl (en rfl (en rfl (en rfl (en rfl es))))))) ?_
      refine x_val (r_fieldAddr (o' := 1) Try.underlying34 rfl Try.sizeOf3 rfl (en rfl (en rfl (en rfl (en rfl (en rfl (en rfl (en rfl (en rfl (en rfl (en rfl (en rfl (en rfl (en rfl (en rfl (en rfl (en rfl (en rfl (en rfl s13)))))))))))))))))) rfl) (nd_of rfl) rfl ?_
      refine x_take (d := 123) rfl rfl (en rfl (en rfl (en rfl (en rfl (en rfl (en rfl (en rfl (en rfl es)))))))) ?_
      refine x_val (r_load h 2 rfl Try.isAgg3 es gc1) (nd_of rfl) rfl ?_
      refine x_take (d := 123) rfl rfl (en rfl (en rfl (en rfl (en rfl (en rfl (en rfl (en rfl (en rfl (en rfl es))))))))) ?_
      refine x_val (r_build2 Try.underlying34 zX Try.sizeOf3 Try.sizeOf3 rfl rfl (en rfl (en rfl es)) es) (nd_of rfl) rfl ?_
      refine x_take (d := 123) rfl rfl (en rfl (en rfl (en rfl (en rfl (en rfl (en rfl (en rfl (en rfl (en rfl (en rfl es)))))))))) ?_
      refine x_bsliceL (c := #[.int .i64 ((x.1 - x.1 / 2 : Nat) : Int), .int .i64 x.2]) h Try.underlying26 Try.sizeOf34 zX rfl (by kernel_rfl) rfl rfl rfl ?_; intro bu w h
      refine x_take (d := 123) rfl rfl (en rfl (en rfl (en rfl (en rfl (en rfl (en rfl (en rfl (en rfl (en rfl (en rfl (en rfl es))))))))))) ?_
      have h := h.f1
      refine x_enter (r_call Try.call10 (.cons (en rfl (en rfl (en rfl (en rfl (en rfl (en rfl (en rfl (en rfl (en rfl (en rfl es)))))))))) (.cons ec (.cons ec (.cons es .nil))))) (nd_of rfl) rfl (splice_o (B' := 100000) (ps := [(((x.1 - x.1 / 2 : Nat) : Int), x.2)]) (rslc_cells rfl rfl) hs2 (by simp [I64]; omega) (Nat.le_trans (Nat.add_le_add_right (Nat.add_le_add_right hs3 1) 4) (by omega)) (by omega) (by omega) h) ?_
      rintro _ w ⟨rfl, h⟩
      refine x_take (d := 123) rfl rfl (en rfl (en rfl (en rfl (en rfl (en rfl (en rfl (en rfl (en rfl (en rfl (en rfl (en rfl (en rfl es)))))))))))) ?_
      refine x_val (r_neq es ec (decide_eq_false (by exact fun hh => hh hs4))) (nd_of rfl) rfl ?_
      rw [hs5] at h
      refine x_val (r_pick_f (en rfl (en rfl (en rfl (en rfl (en rfl (en rfl (en rfl (en rfl (en rfl (en rfl (en rfl (en rfl (en rfl es))))))))))))) es) (nd_of rfl) rfl ?_
      refine xw_nil ?_
      refine hK32 _ _ _ ?_
      refine yc_gen (fun g hg => ?_)
      have s0 := (hg 0).trans (en rfl (en rfl (en rfl (en rfl (en rfl (en rfl (en rfl (en rfl (en rfl (en rfl (en rfl (en rfl (en rfl (en rfl (en rfl (en rfl (en rfl (en rfl (en rfl (en rfl (en rfl (en rfl (en rfl (en rfl (en rfl s0)))))))))))))))))))))))))
      have s2 := (hg 2).trans (en rfl (en rfl (en rfl (en rfl (en rfl (en rfl (en rfl (en rfl (en rfl (en rfl (en rfl (en rfl (en rfl (en rfl (en rfl (en rfl (en rfl (en rfl (en rfl (en rfl (en rfl (en rfl (en rfl (en rfl (en rfl s2)))))))))))))))))))))))))
      have s3 := (hg 3).trans (en rfl (en rfl (en rfl (en rfl (en rfl (en rfl (en rfl (en rfl (en rfl (en rfl (en rfl (en rfl (en rfl (en rfl (en rfl (en rfl (en rfl (en rfl (en rfl (en rfl (en rfl (en rfl (en rfl (en rfl (en rfl s3)))))))))))))))))))))))))
      have s4 := (hg 4).trans (en rfl (en rfl (en rfl (en rfl (en rfl (en rfl (en rfl (en rfl (en rfl (en rfl (en rfl (en rfl (en rfl (en rfl (en rfl (en rfl (en rfl (en rfl (en rfl (en rfl (en rfl (en rfl (en rfl (en rfl (en rfl s4)))))))))))))))))))))))))
      have s10 := (hg 10).trans (en rfl (en rfl (en rfl (en rfl (en rfl (en rfl (en rfl (en rfl (en rfl (en rfl (en rfl (en rfl (en rfl (en rfl (en rfl (en rfl (en rfl (en rfl (en rfl (en rfl (en rfl (en rfl (en rfl (en rfl (en rfl s10)))))))))))))))))))))))))
      have s12 := (hg 12).trans (en rfl (en rfl (en rfl (en rfl (en rfl (en rfl (en rfl (en rfl (en rfl (en rfl (en rfl (en rfl (en rfl (en rfl (en rfl (en rfl (en rfl (en rfl (en rfl (en rfl (en rfl (en rfl (en rfl (en rfl (en rfl s12)))))))))))))))))))))))))
      have s13 := (hg 13).trans (en rfl (en rfl (en rfl (en rfl (en rfl (en rfl (en rfl (en rfl (en rfl (en rfl (en rfl (en rfl (en rfl (en rfl (en rfl (en rfl (en rfl (en rfl (en rfl (en rfl (en rfl (en rfl (en rfl (en rfl (en rfl s13)))))))))))))))))))))))))
      have s28 := (hg 28).trans (en rfl (en rfl (en rfl (en rfl (en rfl (en rfl (en rfl (en rfl (en rfl (en rfl (en rfl (en rfl (en rfl (en rfl (en rfl (en rfl (en rfl (en rfl (en rfl (en rfl (en rfl (en rfl (en rfl (en rfl (en rfl s28)))))))))))))))))))))))))
      have s38 := (hg 38).trans (en rfl (en rfl (en rfl (en rfl (en rfl (en rfl (en rfl (en rfl (en rfl (en rfl (en rfl (en rfl (en rfl (en rfl (en rfl (en rfl (en rfl (en rfl (en rfl (en rfl (en rfl (en rfl (en rfl (en rfl (en rfl s38)))))))))))))))))))))))))
      have s39 := (hg 39).trans (en rfl (en rfl (en rfl (en rfl (en rfl (en rfl (en rfl (en rfl (en rfl (en rfl (en rfl (en rfl (en rfl (en rfl (en rfl (en rfl (en rfl (en rfl (en rfl (en rfl (en rfl (en rfl (en rfl (en rfl (en rfl s39)))))))))))))))))))))))))
      have s40 := (hg 40).trans (en rfl (en rfl (en rfl (en rfl (en rfl (en rfl (en rfl (en rfl (en rfl (en rfl (en rfl (en rfl (en rfl (en rfl (en rfl (en rfl (en rfl (en rfl (en rfl (en rfl (en rfl (en rfl (en rfl (en rfl (en rfl s40)))))))))))))))))))))))))
      have s41 := (hg 41).trans (en rfl (en rfl (en rfl (en rfl (en rfl (en rfl (en rfl (en rfl (en rfl (en rfl (en rfl (en rfl (en rfl (en rfl (en rfl (en rfl (en rfl (en rfl (en rfl (en rfl (en rfl (en rfl (en rfl (en rfl (en rfl s41)))))))))))))))))))))))))
      have s96 := (hg 96).trans (en rfl (en rfl (en rfl (en rfl (en rfl (en rfl (en rfl (en rfl (en rfl (en rfl (en rfl (en rfl (en rfl (en rfl (en rfl (en rfl (en rfl (en rfl (en rfl (en rfl (en rfl (en rfl (en rfl (en rfl (en rfl s96)))))))))))))))))))))))))
      have s106 := (hg 106).trans (en rfl (en rfl (en rfl (en rfl (en rfl (en rfl (en rfl (en rfl (en rfl (en rfl (en rfl (en rfl (en rfl (en rfl (en rfl (en rfl (en rfl (en rfl (en rfl (en rfl (en rfl (en rfl (en rfl (en rfl (en rfl s106)))))))))))))))))))))))))
      have s137 := (hg 137).trans es
      clear hg
      refine yc_cond s137 (fun hc => by cases hc) (fun _ => ?_)
      refine yc_skip ?_
      refine hK30 _ _ _ ?_
      refine yc_region ?_
      refine x_val (r_move s12) (nd_of rfl) rfl ?_
      refine x_val (r_sub es ec (show _ = (((i : Int) - 1) : Int) from by rfl) (by unfold I64; omega)) (nd_of rfl) rfl ?_
      have h := (h.f1).drop
      have h := (h.f1).drop
      have h := (h.f1).drop
      refine x_val (r_assign es) (nd_of rfl) rfl ?_
      refine xw_nil ?_
      have h := h.f6
      have h := h.f6
      have h := h.f6
      have h := h.f6
      have h := h.f6
      have h := h.f6
      have h := h.f6
      exact ⟨i, by omega, ⟨i, rfl, by omega, rfl, es, h⟩, ⟨((en rfl (en rfl (en rfl s0)))).trans zG27_0.symm, ((en rfl (en rfl (en rfl s2)))).trans zG27_2.symm, ((en rfl (en rfl (en rfl s3)))).trans zG27_3.symm, ((en rfl (en rfl (en rfl s4)))).trans zG27_4.symm, ((en rfl (en rfl (en rfl s10)))).trans zG27_10.symm, ((en rfl (en rfl (en rfl s28)))).trans zG27_28.symm, ((en rfl (en rfl (en rfl s38)))).trans zG27_38.symm, ((en rfl (en rfl (en rfl s39)))).trans zG27_39.symm, ((en rfl (en rfl (en rfl s40)))).trans zG27_40.symm, ((en rfl (en rfl (en rfl s41)))).trans zG27_41.symm, ((en rfl (en rfl (en rfl s96)))).trans zG27_96.symm⟩⟩
    ·
      refine yc_exit ?_
      refine hK25 _ _ _ ?_
      refine yc_seq (fun K hK33 => ?_)
      obtain rfl : i = 0 := by have := of_decide_eq_false hc; omega
      rw [List.drop_zero] at h
      refine yc_region ?_
      refine x_alloc1 h Try.zeroValue3 rfl rfl ?_
      intro b14 w h
      refine x_st (r_store h 0 rfl Try.sizeOf3 es ec rfl gc0) rfl (h.u0 sc0) ?_
      intro w h
      refine xw_nil ?_
      refine hK33 _ _ _ ?_
      refine yc_gen (fun g hg => ?_)
      have s0 := (hg 0).trans (en rfl s0)
      have s2 := (hg 2).trans (en rfl s2)
      have s3 := (hg 3).trans (en rfl s3)
      have s4 := (hg 4).trans (en rfl s4)
      have s10 := (hg 10).trans (en rfl s10)
      have s12 := (hg 12).trans (en rfl s12)
      have s14 := (hg 14).trans es
      have s28 := (hg 28).trans (en rfl s28)
      have s38 := (hg 38).trans (en rfl s38)
      have s39 := (hg 39).trans (en rfl s39)
      have s40 := (hg 40).trans (en rfl s40)
      have s41 := (hg 41).trans (en rfl s41)
      have s96 := (hg 96).trans (en rfl s96)
      have s106 := (hg 106).trans (en rfl s106)
      clear hg
      refine yc_seq (fun K hK34 => ?_)
      refine yc_seq (fun K hK35 => ?_)
      refine yc_region ?_
      refine x_val (r_move s4) (nd_of rfl) rfl ?_
      have h := h.f1
      refine x_enter (r_call Try.call13 (.cons es .nil)) (nd_of rfl) rfl (all_o h) ?_
      rintro _ w ⟨c3, v3, rfl, h⟩
      refine xw_nil ?_
      refine hK35 _ _ _ ?_
      refine yc_gen (fun g hg => ?_)
      have s0 := (hg 0).trans (en rfl (en rfl s0))
      have s2 := (hg 2).trans (en rfl (en rfl s2))
      have s3 := (hg 3).trans (en rfl (en rfl s3))
      have s4 := (hg 4).trans (en rfl (en rfl s4))
      have s10 := (hg 10).trans (en rfl (en rfl s10))
      have s12 := (hg 12).trans (en rfl (en rfl s12))
      have s14 := (hg 14).trans (en rfl (en rfl s14))
      have s28 := (hg 28).trans (en rfl (en rfl s28))
      have s38 := (hg 38).trans (en rfl (en rfl s38))
      have s39 := (hg 39).trans (en rfl (en rfl s39))
      have s40 := (hg 40).trans (en rfl (en rfl s40))
      have s41 := (hg 41).trans (en rfl (en rfl s41))
      have s96 := (hg 96).trans (en rfl (en rfl s96))
      have s106 := (hg 106).trans (en rfl (en rfl s106))
      have s139 := (hg 139).trans es
      clear hg
      refine yc_block ?_
      refine yc_range s139 Try.call30 h ?_
      intro lp D3 fn tmps w htn htg h
      obtain ⟨lr, hlr, h⟩ := h.loopAbs
      have hR : ∀ (M : List SProp) (k2 : Nat) (x : X) (w : World), xs[k2]? = some x → SatL E w (M ++ (Cells b14 #[.int .i64 ((k2 : Nat) : Int)] 3 :: pt lp (.loop lr) :: pt D3 (.deferred (some [])) :: ObjO q xs 100000 :: Cells b10 #[.slice au1 xs.length cu1] 26 :: XRow (.slice au1 xs.length cu1) xs :: pt D2 (.deferred (some [])) :: ObjO b xs (208 * n) :: Marks Ds :: Cells b2 #[.bool false] 4 :: Old W :: R)) → FnOk Try.prog (.func (.yield lp) #[] #[]) [xV x] w (fun u w' => u = .bool true ∧ SatL E w' (M ++ (Cells b14 #[.int .i64 (((k2 + 1) : Nat) : Int)] 3 :: pt lp (.loop lr) :: pt D3 (.deferred (some [])) :: ObjO q xs 100000 :: Cells b10 #[.slice au1 xs.length cu1] 26 :: XRow (.slice au1 xs.length cu1) xs :: pt D2 (.deferred (some [])) :: ObjO b xs (208 * n) :: Marks Ds :: Cells b2 #[.bool false] 4 :: Old W :: R))) := by
        intro M k2 x w hx h; replace h := h.app; have hpx : (xs.map toR)[k2]? = some (toR x) := (by rw [List.getElem?_map, hx]; rfl); have hwx : wfR (toR x) := (hinv.wf x (List.mem_of_getElem? hx)).1; have hkl := (List.getElem?_eq_some_iff.1 hx).1; obtain ⟨xn, xi⟩ := x; change FnOk _ _ [.agg #[.int .i64 (xn : Int), .int .i64 xi]] _ _; have hox2 : Ok 2 #[.int .i64 (xn : Int), .int .i64 xi] := ⟨rfl, by simp [Value.oneCell']⟩; have h := h.f1
        subst hlr
        refine fnOk_round h rfl htn ?_
        refine xc_gen (fun g hg => ?_)
        have s0 := (hg 0).trans ((fold_get rfl).trans ((htg 0).trans s0))
        have s2 := (hg 2).trans ((fold_get rfl).trans ((htg 2).trans s2))
        have s3 := (hg 3).trans ((fold_get rfl).trans ((htg 3).trans s3))
        have s4 := (hg 4).trans ((fold_get rfl).trans ((htg 4).trans s4))
        have s10 := (hg 10).trans ((fold_get rfl).trans ((htg 10).trans s10))
        have s12 := (hg 12).trans ((fold_get rfl).trans ((htg 12).trans s12))
        have s14 := (hg 14).trans ((fold_get rfl).trans ((htg 14).trans s14))
        have s28 := (hg 28).trans ((fold_get rfl).trans ((htg 28).trans s28))
        have s38 := (hg 38).trans ((fold_get rfl).trans ((htg 38).trans s38))
        have s39 := (hg 39).trans ((fold_get rfl).trans ((htg 39).trans s39))
        have s40 := (hg 40).trans ((fold_get rfl).trans ((htg 40).trans s40))
        have s41 := (hg 41).trans ((fold_get rfl).trans ((htg 41).trans s41))
        have s96 := (hg 96).trans ((fold_get rfl).trans ((htg 96).trans s96))
        have s106 := (hg 106).trans ((fold_get rfl).trans ((htg 106).trans s106))
        have s139 := (hg 139).trans ((fold_get rfl).trans ((htg 139).trans s139))
        have s140 := (hg 140).trans (fold1_0 (by rw [htn]; decide))
        clear hg
        obtain ⟨a9, c9, e9, hrd⟩ := xrow_rslc (h.f5).pre1
        rw [List.length_map] at e9
        cases e9
        obtain ⟨ad, rfl, hcell⟩ := hrd _ (h.f5).pre1 k2 _ hpx
        refine xc_region ?_
        refine x_declA h Try.zeroValue34 Try.sizeOf34 rfl (en rfl s140) (by first | assumption | exact Ok.node (by assumption) | exact xOk.cells (by assumption) | exact ChOk.ok (by assumption)) rfl ?_
        intro b15 w h
        refine xw_nil ?_
        have h := h.f1
        refine thenR_mk ⟨_, _, rfl, h, fun w h => ?_⟩
        obtain ⟨lr2, hlr2, h⟩ := h.loopAbs
        refine xc_gen (fun g hg => ?_)
        have s0 := (hg 0).trans (en rfl s0)
        have s2 := (hg 2).trans (en rfl s2)
        have s3 := (hg 3).trans (en rfl s3)
        have s4 := (hg 4).trans (en rfl s4)
        have s10 := (hg 10).trans (en rfl s10)
        have s12 := (hg 12).trans (en rfl s12)
        have s14 := (hg 14).trans (en rfl s14)
        have s15 := (hg 15).trans es
        have s28 := (hg 28).trans (en rfl s28)
        have s38 := (hg 38).trans (en rfl s38)
        have s39 := (hg 39).trans (en rfl s39)
        have s40 := (hg 40).trans (en rfl s40)
        have s41 := (hg 41).trans (en rfl s41)
        have s96 := (hg 96).trans (en rfl s96)
        have s106 := (hg 106).trans (en rfl s106)
        have s139 := (hg 139).trans (en rfl s139)
        have s140 := (hg 140).trans (en rfl s140)
        clear hg
        refine xc_block ?_
        refine xc_seq (fun K hK36 => ?_)
        refine xc_seq (fun K hK37 => ?_)
        refine xc_planR 12 [(0, 1), (1, 1), (2, 2), (3, 2), (4, 2), (5, 1), (6, 1), (7, 1), (8, 2), (9, 1), (10, 2), (11, 2)] (by kernel_rfl) rfl (by kernel_rfl) (by kernel_rfl) (fun _ _ hh => by first | exact roundR_ng hh | exact hh) h ?_
        have h := h.drew
        refine xp_load (i := 0) rfl (fun W hW => r_load hW 2 rfl Try.isAgg3 s14 gc0) rfl (fun _ _ _ hh => by first | exact roundR_np hh | exact hh) ?_
        refine xp_load (i := 1) rfl (fun W hW => r_load hW 5 rfl Try.isAgg26 (en rfl s10) gc0) rfl (fun _ _ _ hh => by first | exact roundR_np hh | exact hh) ?_
        refine xp_read (i := 2) rfl (fun W => r_len Try.underlying26 es) rfl (fun _ _ _ hh => by first | exact roundR_np hh | exact hh) ?_
        refine xp_read (i := 3) rfl (fun W => r_geq (en rfl (en rfl es)) es (decide_eq_false (by omega))) rfl (fun _ _ _ hh => by first | exact roundR_np hh | exact hh) ?_
        refine xp_read (i := 4) rfl (fun W => r_move es) rfl (fun _ _ _ hh => by first | exact roundR_np hh | exact hh) ?_
        refine xp_loadG (i := 5) (d := 145) rfl rfl rfl es (fun W hW => r_loadAgg hW 1 rfl Try.isAgg34 Try.sizeOf34 (en rfl (en rfl (en rfl (en rfl (en rfl s15))))) (by exact Nat.le_refl _) (ext_full rfl)) rfl (fun _ _ _ hh => by first | exact roundR_np hh | exact hh) ?_
        refine xp_loadG (i := 6) (d := 145) rfl rfl rfl (en rfl es) (fun W hW => r_load hW 5 rfl Try.isAgg26 (en rfl (en rfl (en rfl (en rfl (en rfl (en rfl s10)))))) gc0) rfl (fun _ _ _ hh => by first | exact roundR_np hh | exact hh) ?_
        refine xp_loadG (i := 7) (d := 145) rfl rfl rfl (en rfl (en rfl es)) (fun W hW => r_load hW 2 rfl Try.isAgg3 (en rfl (en rfl (en rfl (en rfl (en rfl (en rfl (en rfl s14))))))) gc0) rfl (fun _ _ _ hh => by first | exact roundR_np hh | exact hh) ?_
        refine xp_readG (i := 8) (d := 145) rfl rfl rfl (en rfl (en rfl (en rfl es))) (fun W => r_indexAny Try.underlying26 Try.sizeOf34 (en rfl es) es (by omega) (by omega)) rfl (fun _ _ _ hh => by first | exact roundR_np hh | exact hh) ?_
        refine xp_loadG (i := 9) (d := 145) rfl rfl rfl (en rfl (en rfl (en rfl (en rfl es)))) (fun W hW => r_loadAggAt Try.isAgg34 Try.sizeOf34 es rfl (by obtain ⟨b1, e1, c1⟩ := hrd _ (hW.f6).pre1 k2 _ hpx; cases e1; exact c1)) rfl (fun _ _ _ hh => by first | exact roundR_np hh | exact hh) ?_
        refine xp_readG (i := 10) (d := 145) rfl rfl rfl (en rfl (en rfl (en rfl (en rfl (en rfl es))))) (fun W => r_neqSp (p := toR (xn, xi)) (q := toR (xn, xi)) hwx hwx (en rfl (en rfl (en rfl (en rfl es)))) es Try.underlying34 Try.underlying3 Try.underlying3 (by kernel_rfl) (by kernel_rfl) (by kernel_rfl) rfl rfl (by decide) (by decide) (by kernel_rfl) (by kernel_rfl) (r := false) (by simp)) rfl (fun _ _ _ hh => by first | exact roundR_np hh | exact hh) ?_
        refine xp_read (i := 11) rfl (fun W => r_pick_f (en rfl (en rfl (en rfl (en rfl (en rfl (en rfl es)))))) es) rfl (fun _ _ _ hh => by first | exact roundR_np hh | exact hh) ?_
        refine xp_nil ?_
        refine hK37 _ _ ?_
        refine xc_gen (fun g hg => ?_)
        have s0 := (hg 0).trans (en rfl (en rfl (en rfl (en rfl (en rfl (en rfl (en rfl (en rfl (en rfl (en rfl (en rfl (en rfl s0))))))))))))
        have s2 := (hg 2).trans (en rfl (en rfl (en rfl (en rfl (en rfl (en rfl (en rfl (en rfl (en rfl (en rfl (en rfl (en rfl s2))))))))))))
        have s3 := (hg 3).trans (en rfl (en rfl (en rfl (en rfl (en rfl (en rfl (en rfl (en rfl (en rfl (en rfl (en rfl (en rfl s3))))))))))))
        have s4 := (hg 4).trans (en rfl (en rfl (en rfl (en rfl (en rfl (en rfl (en rfl (en rfl (en rfl (en rfl (en rfl (en rfl s4))))))))))))
        have s10 := (hg 10).trans (en rfl (en rfl (en rfl (en rfl (en rfl (en rfl (en rfl (en rfl (en rfl (en rfl (en rfl (en rfl s10))))))))))))
        have s12 := (hg 12).trans (en rfl (en rfl (en rfl (en rfl (en rfl (en rfl (en rfl (en rfl (en rfl (en rfl (en rfl (en rfl s12))))))))))))
        have s14 := (hg 14).trans (en rfl (en rfl (en rfl (en rfl (en rfl (en rfl (en rfl (en rfl (en rfl (en rfl (en rfl (en rfl s14))))))))))))
        have s15 := (hg 15).trans (en rfl (en rfl (en rfl (en rfl (en rfl (en rfl (en rfl (en rfl (en rfl (en rfl (en rfl (en rfl s15))))))))))))
        have s28 := (hg 28).trans (en rfl (en rfl (en rfl (en rfl (en rfl (en rfl (en rfl (en rfl (en rfl (en rfl (en rfl (en rfl s28))))))))))))
        have s38 := (hg 38).trans (en rfl (en rfl (en rfl (en rfl (en rfl (en rfl (en rfl (en rfl (en rfl (en rfl (en rfl (en rfl s38))))))))))))
        have s39 := (hg 39).trans (en rfl (en rfl (en rfl (en rfl (en rfl (en rfl (en rfl (en rfl (en rfl (en rfl (en rfl (en rfl s39))))))))))))
        have s40 := (hg 40).trans (en rfl (en rfl (en rfl (en rfl (en rfl (en rfl (en rfl (en rfl (en rfl (en rfl (en rfl (en rfl s40))))))))))))
        have s41 := (hg 41).trans (en rfl (en rfl (en rfl (en rfl (en rfl (en rfl (en rfl (en rfl (en rfl (en rfl (en rfl (en rfl s41))))))))))))
        have s96 := (hg 96).trans (en rfl (en rfl (en rfl (en rfl (en rfl (en rfl (en rfl (en rfl (en rfl (en rfl (en rfl (en rfl s96))))))))))))
        have s106 := (hg 106).trans (en rfl (en rfl (en rfl (en rfl (en rfl (en rfl (en rfl (en rfl (en rfl (en rfl (en rfl (en rfl s106))))))))))))
        have s139 := (hg 139).trans (en rfl (en rfl (en rfl (en rfl (en rfl (en rfl (en rfl (en rfl (en rfl (en rfl (en rfl (en rfl s139))))))))))))
        have s140 := (hg 140).trans (en rfl (en rfl (en rfl (en rfl (en rfl (en rfl (en rfl (en rfl (en rfl (en rfl (en rfl (en rfl s140))))))))))))
        have s152 := (hg 152).trans es
        clear hg
        refine xc_cond s152 (fun hc => by cases hc) (fun _ => ?_)
        refine xc_skip ?_
        refine hK36 _ _ ?_
        refine xc_region ?_
        refine x_val (r_load h 2 rfl Try.isAgg3 s14 gc0) (nd_of rfl) rfl ?_
        refine x_val (r_add es ec (show _ = (((k2 + 1 : Nat) : Int) : Int) from by omega) (by unfold I64; omega)) (nd_of rfl) rfl ?_
        refine x_st (r_store h 2 rfl Try.sizeOf3 (en rfl (en rfl s14)) es rfl gc0) rfl (h.u2 sc0) ?_
        intro w h
        refine xw_nil ?_
        have h := h.f1
        have h := h.f2
        have h := h.f2
        subst hlr2; exact roundR_normal h fun w h => ⟨rfl, SatL.app (h.f2.drop.f1)⟩
      have h := h.f10
      have h := h.f10
      have h := h.f10
      have h := h.f10
      have h := h.f10
      have h := h.f9
      have h := h.f7
      have h := h.f7
      have h := h.f10
      have h := h.f10
      have h := h.f10
      refine Calls.ret_mono (allit_t (IL := fun k2 => Cells b14 #[.int .i64 ((k2 : Nat) : Int)] 3 :: pt lp (.loop lr) :: pt D3 (.deferred (some [])) :: ObjO q xs 100000 :: Cells b10 #[.slice au1 xs.length cu1] 26 :: XRow (.slice au1 xs.length cu1) xs :: pt D2 (.deferred (some [])) :: ObjO b xs (208 * n) :: Marks Ds :: Cells b2 #[.bool false] 4 :: Old W :: R) hxok (by omega) hR h) ?_; rintro _ w h; subst hlr; refine ⟨_, _, (fun e => by cases e), ((h.f4).f4), ?_⟩; intro w h
      refine hK34 _ _ _ ?_
      refine yc_seq (fun K hK38 => ?_)
      have h := (h.f0).drop
      have h := (h.f1).drop
      have h := (h.f1).drop
      refine yc_region ?_
      refine x_val (r_load h 1 rfl Try.isAgg3 s14 gc0) (nd_of rfl) rfl ?_
      refine x_val (r_load h 3 rfl Try.isAgg26 (en rfl s10) gc0) (nd_of rfl) rfl ?_
      refine x_val (r_len Try.underlying26 es) (nd_of rfl) rfl ?_
      refine x_val (r_eql (en rfl (en rfl es)) es (decide_eq_true (by simp))) (nd_of rfl) rfl ?_
      refine x_val (r_move es) (nd_of rfl) rfl ?_
      refine x_take (d := 159) rfl rfl es ?_
      refine x_val (r_move (en rfl (en rfl (en rfl (en rfl (en rfl s4)))))) (nd_of rfl) rfl ?_
      refine x_take (d := 159) rfl rfl (en rfl es) ?_
      have h := h.f2
      refine x_enter (r_call Try.call18 (.cons es .nil)) (nd_of rfl) rfl (count_o (by omega) h) ?_
      rintro _ w ⟨rfl, h⟩
      refine x_take (d := 159) rfl rfl (en rfl (en rfl es)) ?_
      refine x_val (r_move (en rfl (en rfl (en rfl (en rfl (en rfl (en rfl (en rfl s3)))))))) (nd_of rfl) rfl ?_
      refine x_take (d := 159) rfl rfl (en rfl (en rfl (en rfl es))) ?_
      have h := h.f6
      refine x_enter (r_call Try.call18 (.cons es .nil)) (nd_of rfl) rfl (count_o (by omega) h) ?_
      rintro _ w ⟨rfl, h⟩
      refine x_take (d := 159) rfl rfl (en rfl (en rfl (en rfl (en rfl es)))) ?_
      refine x_val (r_eql (en rfl (en rfl es)) es (decide_eq_true (by simp))) (nd_of rfl) rfl ?_
      refine x_val (r_pick_t (en rfl (en rfl (en rfl (en rfl (en rfl es))))) es) (nd_of rfl) rfl ?_
      refine x_val (r_move es) (nd_of rfl) rfl ?_
      refine x_take (d := 166) rfl rfl es ?_
      refine x_enter (r_call Try.call9 .nil) (nd_of rfl) rfl (known_ok h) ?_
      rintro _ w ⟨rfl, h⟩
      have h := h.f8
      have h := h.f8
      have h := h.f8
      have h := h.f5
      refine x_val (r_pick_t (en rfl es) es) (nd_of rfl) rfl ?_
      refine x_st (r_store h 3 rfl Try.sizeOf4 (en rfl (en rfl (en rfl (en rfl (en rfl (en rfl (en rfl (en rfl (en rfl (en rfl (en rfl (en rfl (en rfl (en rfl s2)))))))))))))) es rfl gc0) rfl (h.u3 sc0) ?_
      intro w h
      refine xw_nil ?_
      refine hK38 _ _ _ ?_
      refine yc_gen (fun g hg => ?_)
      have s0 := (hg 0).trans (en rfl (en rfl (en rfl (en rfl (en rfl (en rfl (en rfl (en rfl (en rfl (en rfl (en rfl (en rfl (en rfl (en rfl s0))))))))))))))
      have s2 := (hg 2).trans (en rfl (en rfl (en rfl (en rfl (en rfl (en rfl (en rfl (en rfl (en rfl (en rfl (en rfl (en rfl (en rfl (en rfl s2))))))))))))))
      have s3 := (hg 3).trans (en rfl (en rfl (en rfl (en rfl (en rfl (en rfl (en rfl (en rfl (en rfl (en rfl (en rfl (en rfl (en rfl (en rfl s3))))))))))))))
      have s4 := (hg 4).trans (en rfl (en rfl (en rfl (en rfl (en rfl (en rfl (en rfl (en rfl (en rfl (en rfl (en rfl (en rfl (en rfl (en rfl s4))))))))))))))
      have s10 := (hg 10).trans (en rfl (en rfl (en rfl (en rfl (en rfl (en rfl (en rfl (en rfl (en rfl (en rfl (en rfl (en rfl (en rfl (en rfl s10))))))))))))))
      have s12 := (hg 12).trans (en rfl (en rfl (en rfl (en rfl (en rfl (en rfl (en rfl (en rfl (en rfl (en rfl (en rfl (en rfl (en rfl (en rfl s12))))))))))))))
      have s14 := (hg 14).trans (en rfl (en rfl (en rfl (en rfl (en rfl (en rfl (en rfl (en rfl (en rfl (en rfl (en rfl (en rfl (en rfl (en rfl s14))))))))))))))
      have s28 := (hg 28).trans (en rfl (en rfl (en rfl (en rfl (en rfl (en rfl (en rfl (en rfl (en rfl (en rfl (en rfl (en rfl (en rfl (en rfl s28))))))))))))))
      have s38 := (hg 38).trans (en rfl (en rfl (en rfl (en rfl (en rfl (en rfl (en rfl (en rfl (en rfl (en rfl (en rfl (en rfl (en rfl (en rfl s38))))))))))))))
      have s39 := (hg 39).trans (en rfl (en rfl (en rfl (en rfl (en rfl (en rfl (en rfl (en rfl (en rfl (en rfl (en rfl (en rfl (en rfl (en rfl s39))))))))))))))
      have s40 := (hg 40).trans (en rfl (en rfl (en rfl (en rfl (en rfl (en rfl (en rfl (en rfl (en rfl (en rfl (en rfl (en rfl (en rfl (en rfl s40))))))))))))))
      have s41 := (hg 41).trans (en rfl (en rfl (en rfl (en rfl (en rfl (en rfl (en rfl (en rfl (en rfl (en rfl (en rfl (en rfl (en rfl (en rfl s41))))))))))))))
      have s96 := (hg 96).trans (en rfl (en rfl (en rfl (en rfl (en rfl (en rfl (en rfl (en rfl (en rfl (en rfl (en rfl (en rfl (en rfl (en rfl s96))))))))))))))
      have s106 := (hg 106).trans (en rfl (en rfl (en rfl (en rfl (en rfl (en rfl (en rfl (en rfl (en rfl (en rfl (en rfl (en rfl (en rfl (en rfl s106))))))))))))))
      have s139 := (hg 139).trans (en rfl (en rfl (en rfl (en rfl (en rfl (en rfl (en rfl (en rfl (en rfl (en rfl (en rfl (en rfl (en rfl (en rfl s139))))))))))))))
      clear hg
      refine yc_ret ?_
      refine bodyY_mark h ?_; intro w h; have h := h.f1; refine bodyY_mark h ?_; intro w h; have h := h.f2; refine bodyY_marks Ds h ?_; intro w h; refine bodyY_nil ?_
      refine bodyR_c rfl s2 (lv_one h 2 rfl Try.isAgg4 gc0) ?_
      exact ⟨rfl, h.drop.drop.drop.drop.drop.drop.drop.drop⟩
theorem one_all (hv : OpsAt W v os) (h : SatL E w (Old W :: R)) : Calls Try.prog 6 #[v] w (Ret fun u w' => u = .bool true ∧ SatL E w' (Old W :: R)) := by
  rcases Nat.lt_or_ge 60 os.length with h1 | h1
  · exact one_long hv h1 h
  · exact one_ok hv h1 h
end
end Go.Proofs.Ytbmdbjnkkbefmaa
