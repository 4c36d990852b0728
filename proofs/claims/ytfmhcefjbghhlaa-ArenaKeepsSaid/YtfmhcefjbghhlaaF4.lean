/-
ArenaKeeps: the walk.
-/
import Derived.Test.YtfmhcefjbghhlaaF3
namespace Go.Proofs.Ytfmhcefjbghhlaa
open Go Go.RowKit
theorem ok_op {o : OpT} : Ok 3 (opC o).toArray := ⟨rfl, by simp [opC, Value.oneCell']⟩
section
variable {E : Env} {R : List SProp} {w : World} {W : World} {v : Value} {os : List OpT}
theorem keeps_long (hv : OpsAt W v os) (hl : 200 < os.length) (h : SatL E w (Old W :: R)) : Calls Try.prog 4 #[v] w (Ret fun u w' => u = .bool true ∧ SatL E w' (Old W :: R)) := by
  obtain ⟨a, cap, rfl, _⟩ := hv
  refine calls_x Try.func4 rfl Try.ntmps4 rfl ?_
  refine xc_gen (fun g hg => ?_)
  have s0 := (hg 0).trans arg0
  clear hg
  refine xc_seq (fun K hK1 => ?_)
  refine xc_region ?_
  refine x_val (r_assign ec) (nd_of rfl) rfl ?_
  refine xw_nil ?_
  refine hK1 _ _ ?_
  refine xc_gen (fun g hg => ?_)
  have s0 := (hg 0).trans (en rfl s0)
  have s2 := (hg 2).trans es
  clear hg
  refine xc_seq (fun K hK2 => ?_)
  refine xc_region ?_
  refine x_enter (r_call Try.call13 .nil) (nd_of rfl) rfl (S.new_ok h) ?_
  rintro _ w ⟨ba, rfl, h⟩
  refine x_val (r_assign es) (nd_of rfl) rfl ?_
  refine xw_nil ?_
  refine hK2 _ _ ?_
  refine xc_gen (fun g hg => ?_)
  have s0 := (hg 0).trans (en rfl (en rfl s0))
  have s2 := (hg 2).trans (en rfl (en rfl s2))
  have s3 := (hg 3).trans es
  clear hg
  refine xc_seq (fun K hK3 => ?_)
  refine xc_seq (fun K hK4 => ?_)
  refine xc_region ?_
  refine x_val (r_move s3) (nd_of rfl) rfl ?_
  refine x_val (r_eqnil Try.underlying33 es ec (r := false) rfl) (nd_of rfl) rfl ?_
  refine x_val (r_move es) (nd_of rfl) rfl ?_
  refine x_take (d := 21) rfl rfl es ?_
  refine x_val (r_move (en rfl (en rfl (en rfl s0)))) (nd_of rfl) rfl ?_
  refine x_take (d := 21) rfl rfl (en rfl es) ?_
  refine x_val (r_len Try.underlying32 es) (nd_of rfl) rfl ?_
  refine x_take (d := 21) rfl rfl (en rfl (en rfl es)) ?_
  refine x_val (r_gtr es ec (decide_eq_true (by omega))) (nd_of rfl) rfl ?_
  refine x_val (r_pick_f (en rfl (en rfl (en rfl es))) es) (nd_of rfl) rfl ?_
  refine xw_nil ?_
  refine hK4 _ _ ?_
  refine xc_gen (fun g hg => ?_)
  have s0 := (hg 0).trans (en rfl (en rfl (en rfl (en rfl (en rfl (en rfl (en rfl s0)))))))
  have s2 := (hg 2).trans (en rfl (en rfl (en rfl (en rfl (en rfl (en rfl (en rfl s2)))))))
  have s3 := (hg 3).trans (en rfl (en rfl (en rfl (en rfl (en rfl (en rfl (en rfl s3)))))))
  have s25 := (hg 25).trans es
  clear hg
  refine xc_cond s25 (fun _ => ?_) (fun hc => by cases hc)
  refine xc_seq (fun K hK5 => ?_)
  refine xc_region ?_
  refine x_val (r_move s3) (nd_of rfl) rfl ?_
  refine x_val (r_nenil Try.underlying33 es ec (r := true) rfl) (nd_of rfl) rfl ?_
  refine x_val (r_move es) (nd_of rfl) rfl ?_
  refine x_take (d := 28) rfl rfl es ?_
  refine x_enter (r_call Try.call7 .nil) (nd_of rfl) rfl (known_ok h) ?_
  rintro _ w ⟨rfl, h⟩
  refine x_val (r_pick_t (en rfl es) es) (nd_of rfl) rfl ?_
  refine x_val (r_assign es) (nd_of rfl) rfl ?_
  refine xw_nil ?_
  refine hK5 _ _ ?_
  refine xc_gen (fun g hg => ?_)
  have s0 := (hg 0).trans (en rfl (en rfl (en rfl (en rfl (en rfl (en rfl s0))))))
  have s2 := (hg 2).trans es
  have s3 := (hg 3).trans (en rfl (en rfl (en rfl (en rfl (en rfl (en rfl s3))))))
  have s25 := (hg 25).trans (en rfl (en rfl (en rfl (en rfl (en rfl (en rfl s25))))))
  clear hg
  refine xc_ret ?_
  refine bodyR_1 rfl s2 ?_
  exact ⟨rfl, h.drop⟩
theorem keeps_ok (hv : OpsAt W v os) (hl : os.length ≤ 200) (h : SatL E w (Old W :: R)) : Calls Try.prog 4 #[v] w (Ret fun u w' => u = .bool true ∧ SatL E w' (Old W :: R)) := by
  obtain ⟨a, cap, rfl, _, _, hread⟩ := hv
  refine calls_x Try.func4 rfl Try.ntmps4 rfl ?_
  refine xc_gen (fun g hg => ?_)
  have s0 := (hg 0).trans arg0
  clear hg
  refine xc_seq (fun K hK1 => ?_)
  refine xc_region ?_
  refine x_val (r_assign ec) (nd_of rfl) rfl ?_
  refine xw_nil ?_
  refine hK1 _ _ ?_
  refine xc_gen (fun g hg => ?_)
  have s0 := (hg 0).trans (en rfl s0)
  have s2 := (hg 2).trans es
  clear hg
  refine xc_seq (fun K hK2 => ?_)
  refine xc_region ?_
  refine x_enter (r_call Try.call13 .nil) (nd_of rfl) rfl (S.new_ok h) ?_
  rintro _ w ⟨ba, rfl, h⟩
  refine x_val (r_assign es) (nd_of rfl) rfl ?_
  refine xw_nil ?_
  refine hK2 _ _ ?_
  refine xc_gen (fun g hg => ?_)
  have s0 := (hg 0).trans (en rfl (en rfl s0))
  have s2 := (hg 2).trans (en rfl (en rfl s2))
  have s3 := (hg 3).trans es
  clear hg
  refine xc_seq (fun K hK3 => ?_)
  refine xc_seq (fun K hK4 => ?_)
  refine xc_region ?_
  refine x_val (r_move s3) (nd_of rfl) rfl ?_
  refine x_val (r_eqnil Try.underlying33 es ec (r := false) rfl) (nd_of rfl) rfl ?_
  refine x_val (r_move es) (nd_of rfl) rfl ?_
  refine x_take (d := 21) rfl rfl es ?_
  refine x_val (r_move (en rfl (en rfl (en rfl s0)))) (nd_of rfl) rfl ?_
  refine x_take (d := 21) rfl rfl (en rfl es) ?_
  refine x_val (r_len Try.underlying32 es) (nd_of rfl) rfl ?_
  refine x_take (d := 21) rfl rfl (en rfl (en rfl es)) ?_
  refine x_val (r_gtr es ec (decide_eq_false (by omega))) (nd_of rfl) rfl ?_
  refine x_val (r_pick_f (en rfl (en rfl (en rfl es))) es) (nd_of rfl) rfl ?_
  refine xw_nil ?_
  refine hK4 _ _ ?_
  refine xc_gen (fun g hg => ?_)
  have s0 := (hg 0).trans (en rfl (en rfl (en rfl (en rfl (en rfl (en rfl (en rfl s0)))))))
  have s2 := (hg 2).trans (en rfl (en rfl (en rfl (en rfl (en rfl (en rfl (en rfl s2)))))))
  have s3 := (hg 3).trans (en rfl (en rfl (en rfl (en rfl (en rfl (en rfl (en rfl s3)))))))
  have s25 := (hg 25).trans es
  clear hg
  refine xc_cond s25 (fun hc => by cases hc) (fun _ => ?_)
  refine xc_skip ?_
  refine hK3 _ _ ?_
  refine xc_seq (fun K hK5 => ?_)
  refine xc_region ?_
  refine x_val (r_assign ef) (nd_of rfl) rfl ?_
  refine xw_nil ?_
  refine hK5 _ _ ?_
  refine xc_gen (fun g hg => ?_)
  have s0 := (hg 0).trans (en rfl s0)
  have s2 := (hg 2).trans (en rfl s2)
  have s3 := (hg 3).trans (en rfl s3)
  have s4 := (hg 4).trans es
  have s25 := (hg 25).trans (en rfl s25)
  clear hg
  refine xc_seq (fun K hK6 => ?_)
  refine xc_region ?_
  refine x_makeMap h rfl ?_; intro mm w h
  refine x_val (r_assign es) (nd_of rfl) rfl ?_
  refine xw_nil ?_
  refine hK6 _ _ ?_
  refine xc_gen (fun g hg => ?_)
  have s0 := (hg 0).trans (en rfl (en rfl s0))
  have s2 := (hg 2).trans (en rfl (en rfl s2))
  have s3 := (hg 3).trans (en rfl (en rfl s3))
  have s4 := (hg 4).trans (en rfl (en rfl s4))
  have s5 := (hg 5).trans es
  have s25 := (hg 25).trans (en rfl (en rfl s25))
  clear hg
  refine xc_seq (fun K hK7 => ?_)
  refine xc_region ?_
  refine x_val (r_assign ec) (nd_of rfl) rfl ?_
  refine xw_nil ?_
  refine hK7 _ _ ?_
  refine xc_gen (fun g hg => ?_)
  have s0 := (hg 0).trans (en rfl s0)
  have s2 := (hg 2).trans (en rfl s2)
  have s3 := (hg 3).trans (en rfl s3)
  have s4 := (hg 4).trans (en rfl s4)
  have s5 := (hg 5).trans (en rfl s5)
  have s6 := (hg 6).trans es
  have s25 := (hg 25).trans (en rfl s25)
  clear hg
  refine xc_seq (fun K hK8 => ?_)
  refine xc_seq (fun K hK9 => ?_)
  refine xc_region ?_
  refine x_val (r_move s0) (nd_of rfl) rfl ?_
  refine x_val (r_len Try.underlying32 es) (nd_of rfl) rfl ?_
  refine x_val (r_move ec) (nd_of rfl) rfl ?_
  refine xw_nil ?_
  refine hK9 _ _ ?_
  refine xc_gen (fun g hg => ?_)
  have s0 := (hg 0).trans (en rfl (en rfl (en rfl s0)))
  have s2 := (hg 2).trans (en rfl (en rfl (en rfl s2)))
  have s3 := (hg 3).trans (en rfl (en rfl (en rfl s3)))
  have s4 := (hg 4).trans (en rfl (en rfl (en rfl s4)))
  have s5 := (hg 5).trans (en rfl (en rfl (en rfl s5)))
  have s6 := (hg 6).trans (en rfl (en rfl (en rfl s6)))
  have s25 := (hg 25).trans (en rfl (en rfl (en rfl s25)))
  have s32 := (hg 32).trans (en rfl (en rfl es))
  have s33 := (hg 33).trans (en rfl es)
  have s34 := (hg 34).trans es
  clear hg
  refine xc_block ?_
  obtain ⟨G10, hG10⟩ : ∃ g0 : Nat → Value, g0 = g := ⟨_, rfl⟩
  have zG10_0 : G10 0 = _ := (congrFun hG10 0).trans s0
  have zG10_3 : G10 3 = _ := (congrFun hG10 3).trans s3
  have zG10_4 : G10 4 = _ := (congrFun hG10 4).trans s4
  have zG10_5 : G10 5 = _ := (congrFun hG10 5).trans s5
  have zG10_25 : G10 25 = _ := (congrFun hG10 25).trans s25
  have zG10_32 : G10 32 = _ := (congrFun hG10 32).trans s32
  have zG10_33 : G10 33 = _ := (congrFun hG10 33).trans s33
  refine xc_loop (fun m f w => (∃ (n : Nat) (pl : List (Option (Array Value))) (fr : List Nat) (l : List KV) (clock : Nat), m = os.length - n ∧ n ≤ os.length ∧ pl.length ≤ n ∧ Keeps pl fr l ∧ MOk l clock ∧ f 34 = .int .i64 (n : Int) ∧ f 6 = .int .i64 (pl.length : Int) ∧ SatL E w (MapS mm l clock :: S.Ar ba pl fr :: Old W :: R)) ∧ (f 0 = G10 0 ∧ f 3 = G10 3 ∧ f 4 = G10 4 ∧ f 5 = G10 5 ∧ f 25 = G10 25 ∧ f 32 = G10 32 ∧ f 33 = G10 33)) (os.length) ⟨⟨0, [], [], [], 0, by omega, by omega, by simp, Keeps.nil, MOk.nil, s34, s6, h⟩, ⟨congrFun hG10.symm 0, congrFun hG10.symm 3, congrFun hG10.symm 4, congrFun hG10.symm 5, congrFun hG10.symm 25, congrFun hG10.symm 32, congrFun hG10.symm 33⟩⟩ ?_
  rintro m g w ⟨⟨n, pl, fr, l, clock, hm, hn, hpl, hK, hok, s34, s6, h⟩, ⟨y0, y3, y4, y5, y25, y32, y33⟩⟩
  have s0 := y0.trans zG10_0
  have s3 := y3.trans zG10_3
  have s4 := y4.trans zG10_4
  have s5 := y5.trans zG10_5
  have s25 := y25.trans zG10_25
  have s32 := y32.trans zG10_32
  have s33 := y33.trans zG10_33
  refine xc_seq (fun K hK11 => ?_)
  refine xc_region ?_
  refine x_val (r_lss s34 s33 rfl) (nd_of rfl) rfl ?_
  refine xw_nil ?_
  refine hK11 _ _ ?_
  refine xc_gen (fun g hg => ?_)
  have s0 := (hg 0).trans (en rfl s0)
  have s3 := (hg 3).trans (en rfl s3)
  have s4 := (hg 4).trans (en rfl s4)
  have s5 := (hg 5).trans (en rfl s5)
  have s6 := (hg 6).trans (en rfl s6)
  have s25 := (hg 25).trans (en rfl s25)
  have s32 := (hg 32).trans (en rfl s32)
  have s33 := (hg 33).trans (en rfl s33)
  have s34 := (hg 34).trans (en rfl s34)
  have s35 := (hg 35).trans es
  clear hg
  refine xc_seq (fun K hK12 => ?_)
  refine xc_cond s35 (fun hc => ?_) (fun hc => ?_)
  ·
    refine xc_skip ?_
    refine hK12 _ _ ?_
    refine xc_seq (fun K hK13 => ?_)
    refine xc_block ?_
    refine xc_seq (fun K hK14 => ?_)
    have hn2 : n < os.length := by have := of_decide_eq_true hc; omega
    obtain ⟨o, ho⟩ : ∃ o, os[n]? = some o := ⟨_, List.getElem?_eq_getElem hn2⟩
    obtain ⟨_, ad, rfl, hcell⟩ := hread n o ho
    have hoko := ok_op (o := o)
    refine xc_region ?_
    refine x_val (r_indexAny Try.underlying32 Try.sizeOf40 s32 s34 (by omega) (by omega)) (nd_of rfl) rfl ?_
    refine x_val (r_loadAggAt (cs := opC o) Try.isAgg40 Try.sizeOf40 es rfl (fun j u hj => h.oldCell 2 rfl (hcell j u hj))) (nd_of rfl) rfl ?_
    refine x_declA h Try.zeroValue40 Try.sizeOf40 rfl (en rfl es) (by first | assumption | exact Ok.node (by assumption) | exact xOk.cells (by assumption) | exact ChOk.ok (by assumption)) rfl ?_
    intro b8 w h
    refine xw_nil ?_
    refine hK14 _ _ ?_
    refine xc_gen (fun g hg => ?_)
    have s0 := (hg 0).trans (en rfl (en rfl (en rfl s0)))
    have s3 := (hg 3).trans (en rfl (en rfl (en rfl s3)))
    have s4 := (hg 4).trans (en rfl (en rfl (en rfl s4)))
    have s5 := (hg 5).trans (en rfl (en rfl (en rfl s5)))
    have s6 := (hg 6).trans (en rfl (en rfl (en rfl s6)))
    have s8 := (hg 8).trans es
    have s25 := (hg 25).trans (en rfl (en rfl (en rfl s25)))
    have s32 := (hg 32).trans (en rfl (en rfl (en rfl s32)))
    have s33 := (hg 33).trans (en rfl (en rfl (en rfl s33)))
    have s34 := (hg 34).trans (en rfl (en rfl (en rfl s34)))
    have s35 := (hg 35).trans (en rfl (en rfl (en rfl s35)))
    clear hg
    have h : SatL E w (Cells b8 #[.int .i64 o.1, .int .i64 o.2.1, .int .i64 o.2.2] 40 :: _) := h
    obtain ⟨G15, hG15⟩ : ∃ g0 : Nat → Value, g0 = g := ⟨_, rfl⟩
    have zG15_0 : G15 0 = _ := (congrFun hG15 0).trans s0
    have zG15_3 : G15 3 = _ := (congrFun hG15 3).trans s3
    have zG15_4 : G15 4 = _ := (congrFun hG15 4).trans s4
    have zG15_5 : G15 5 = _ := (congrFun hG15 5).trans s5
    have zG15_6 : G15 6 = _ := (congrFun hG15 6).trans s6
    have zG15_8 : G15 8 = _ := (congrFun hG15 8).trans s8
    have zG15_25 : G15 25 = _ := (congrFun hG15 25).trans s25
    have zG15_32 : G15 32 = _ := (congrFun hG15 32).trans s32
    have zG15_33 : G15 33 = _ := (congrFun hG15 33).trans s33
    have zG15_34 : G15 34 = _ := (congrFun hG15 34).trans s34
    have zG15_35 : G15 35 = _ := (congrFun hG15 35).trans s35
    refine xc_cut (fun f w => (∃ r : Bool, f 10 = .bool r ∧ (r = true → ∃ v, InM l o.2.1 v) ∧ (r = false → ∀ v, ¬ InM l o.2.1 v) ∧ SatL E w (Cells b8 #[.int .i64 o.1, .int .i64 o.2.1, .int .i64 o.2.2] 40 :: MapS mm l clock :: S.Ar ba pl fr :: Old W :: R)) ∧ (f 0 = G15 0 ∧ f 3 = G15 3 ∧ f 4 = G15 4 ∧ f 5 = G15 5 ∧ f 6 = G15 6 ∧ f 8 = G15 8 ∧ f 25 = G15 25 ∧ f 32 = G15 32 ∧ f 33 = G15 33 ∧ f 34 = G15 34 ∧ f 35 = G15 35)) ?_ ?_
    ·
      skip
      rcases Classical.em (∃ v, InM l o.2.1 v) with hin | hin
      ·
        skip
        obtain ⟨v0, hv0⟩ := hin
        refine xc_region ?_
        refine x_val (r_move s5) (nd_of rfl) rfl ?_
        refine x_val (r_fieldAddr (o' := 1) Try.underlying40 rfl Try.sizeOf3 rfl (en rfl s8) rfl) (nd_of rfl) rfl ?_
        refine x_val (r_load h 0 rfl Try.isAgg3 es gc1) (nd_of rfl) rfl ?_
        refine x_val (r_lookup (en rfl (en rfl es)) es (lookup_yes h 1 rfl hok hv0)) (nd_of rfl) rfl ?_
        refine x_val (r_move es) (nd_of rfl) rfl ?_
        refine x_val (r_extract es gc0) (nd_of rfl) rfl ?_
        refine x_val (r_extract (en rfl es) gc1) (nd_of rfl) rfl ?_
        refine x_val (r_assign (en rfl es)) (nd_of rfl) rfl ?_
        refine x_val (r_assign (en rfl es)) (nd_of rfl) rfl ?_
        refine xw_nil ?_
        exact ⟨⟨true, es, fun _ => ⟨v0, hv0⟩, fun e => (by cases e), h⟩, ⟨((en rfl (en rfl (en rfl (en rfl (en rfl (en rfl (en rfl (en rfl (en rfl s0)))))))))).trans zG15_0.symm, ((en rfl (en rfl (en rfl (en rfl (en rfl (en rfl (en rfl (en rfl (en rfl s3)))))))))).trans zG15_3.symm, ((en rfl (en rfl (en rfl (en rfl (en rfl (en rfl (en rfl (en rfl (en rfl s4)))))))))).trans zG15_4.symm, ((en rfl (en rfl (en rfl (en rfl (en rfl (en rfl (en rfl (en rfl (en rfl s5)))))))))).trans zG15_5.symm, ((en rfl (en rfl (en rfl (en rfl (en rfl (en rfl (en rfl (en rfl (en rfl s6)))))))))).trans zG15_6.symm, ((en rfl (en rfl (en rfl (en rfl (en rfl (en rfl (en rfl (en rfl (en rfl s8)))))))))).trans zG15_8.symm, ((en rfl (en rfl (en rfl (en rfl (en rfl (en rfl (en rfl (en rfl (en rfl s25)))))))))).trans zG15_25.symm, ((en rfl (en rfl (en rfl (en rfl (en rfl (en rfl (en rfl (en rfl (en rfl s32)))))))))).trans zG15_32.symm, ((en rfl (en rfl (en rfl (en rfl (en rfl (en rfl (en rfl (en rfl (en rfl s33)))))))))).trans zG15_33.symm, ((en rfl (en rfl (en rfl (en rfl (en rfl (en rfl (en rfl (en rfl (en rfl s34)))))))))).trans zG15_34.symm, ((en rfl (en rfl (en rfl (en rfl (en rfl (en rfl (en rfl (en rfl (en rfl s35)))))))))).trans zG15_35.symm⟩⟩
      ·
        skip
        have hin : ∀ v, ¬ InM l o.2.1 v := fun v hv => hin ⟨v, hv⟩
        refine xc_region ?_
        refine x_val (r_move s5) (nd_of rfl) rfl ?_
        refine x_val (r_fieldAddr (o' := 1) Try.underlying40 rfl Try.sizeOf3 rfl (en rfl s8) rfl) (nd_of rfl) rfl ?_
        refine x_val (r_load h 0 rfl Try.isAgg3 es gc1) (nd_of rfl) rfl ?_
        refine x_val (r_lookup (en rfl (en rfl es)) es (lookup_no h 1 rfl hok hin)) (nd_of rfl) rfl ?_
        refine x_val (r_move es) (nd_of rfl) rfl ?_
        refine x_val (r_extract es gc0) (nd_of rfl) rfl ?_
        refine x_val (r_extract (en rfl es) gc1) (nd_of rfl) rfl ?_
        refine x_val (r_assign (en rfl es)) (nd_of rfl) rfl ?_
        refine x_val (r_assign (en rfl es)) (nd_of rfl) rfl ?_
        refine xw_nil ?_
        exact ⟨⟨false, es, fun e => (by cases e), fun _ => hin, h⟩, ⟨((en rfl (en rfl (en rfl (en rfl (en rfl (en rfl (en rfl (en rfl (en rfl s0)))))))))).trans zG15_0.symm, ((en rfl (en rfl (en rfl (en rfl (en rfl (en rfl (en rfl (en rfl (en rfl s3)))))))))).trans zG15_3.symm, ((en rfl (en rfl (en rfl (en rfl (en rfl (en rfl (en rfl (en rfl (en rfl s4)))))))))).trans zG15_4.symm, ((en rfl (en rfl (en rfl (en rfl (en rfl (en rfl (en rfl (en rfl (en rfl s5)))))))))).trans zG15_5.symm, ((en rfl (en rfl (en rfl (en rfl (en rfl (en rfl (en rfl (en rfl (en rfl s6)))))))))).trans zG15_6.symm, ((en rfl (en rfl (en rfl (en rfl (en rfl (en rfl (en rfl (en rfl (en rfl s8)))))))))).trans zG15_8.symm, ((en rfl (en rfl (en rfl (en rfl (en rfl (en rfl (en rfl (en rfl (en rfl s25)))))))))).trans zG15_25.symm, ((en rfl (en rfl (en rfl (en rfl (en rfl (en rfl (en rfl (en rfl (en rfl s32)))))))))).trans zG15_32.symm, ((en rfl (en rfl (en rfl (en rfl (en rfl (en rfl (en rfl (en rfl (en rfl s33)))))))))).trans zG15_33.symm, ((en rfl (en rfl (en rfl (en rfl (en rfl (en rfl (en rfl (en rfl (en rfl s34)))))))))).trans zG15_34.symm, ((en rfl (en rfl (en rfl (en rfl (en rfl (en rfl (en rfl (en rfl (en rfl s35)))))))))).trans zG15_35.symm⟩⟩
    ·
      rintro g w ⟨⟨r, s10, hrt, hrf, h⟩, ⟨y0, y3, y4, y5, y6, y8, y25, y32, y33, y34, y35⟩⟩
      have s0 := y0.trans zG15_0
      have s3 := y3.trans zG15_3
      have s4 := y4.trans zG15_4
      have s5 := y5.trans zG15_5
      have s6 := y6.trans zG15_6
      have s8 := y8.trans zG15_8
      have s25 := y25.trans zG15_25
      have s32 := y32.trans zG15_32
      have s33 := y33.trans zG15_33
      have s34 := y34.trans zG15_34
      have s35 := y35.trans zG15_35
      obtain ⟨G16, hG16⟩ : ∃ g0 : Nat → Value, g0 = g := ⟨_, rfl⟩
      have zG16_0 : G16 0 = _ := (congrFun hG16 0).trans s0
      have zG16_3 : G16 3 = _ := (congrFun hG16 3).trans s3
      have zG16_4 : G16 4 = _ := (congrFun hG16 4).trans s4
      have zG16_5 : G16 5 = _ := (congrFun hG16 5).trans s5
      have zG16_6 : G16 6 = _ := (congrFun hG16 6).trans s6
      have zG16_8 : G16 8 = _ := (congrFun hG16 8).trans s8
      have zG16_10 : G16 10 = _ := (congrFun hG16 10).trans s10
      have zG16_25 : G16 25 = _ := (congrFun hG16 25).trans s25
      have zG16_32 : G16 32 = _ := (congrFun hG16 32).trans s32
      have zG16_33 : G16 33 = _ := (congrFun hG16 33).trans s33
      have zG16_34 : G16 34 = _ := (congrFun hG16 34).trans s34
      have zG16_35 : G16 35 = _ := (congrFun hG16 35).trans s35
      refine xc_cut (fun f w => (∃ (pl2 : List (Option (Array Value))) (fr2 : List Nat) (l2 : List KV) (clock2 : Nat), max pl.length l2.length = pl2.length ∧ pl2.length ≤ n + 1 ∧ Keeps pl2 fr2 l2 ∧ MOk l2 clock2 ∧ SatL E w (Cells b8 #[.int .i64 o.1, .int .i64 o.2.1, .int .i64 o.2.2] 40 :: MapS mm l2 clock2 :: S.Ar ba pl2 fr2 :: Old W :: R)) ∧ (f 0 = G16 0 ∧ f 3 = G16 3 ∧ f 4 = G16 4 ∧ f 5 = G16 5 ∧ f 6 = G16 6 ∧ f 8 = G16 8 ∧ f 10 = G16 10 ∧ f 25 = G16 25 ∧ f 32 = G16 32 ∧ f 33 = G16 33 ∧ f 34 = G16 34 ∧ f 35 = G16 35)) ?_ ?_
      ·
        skip
        refine xc_seq (fun K hK17 => ?_)
        have hcnt := hK.count
        refine xc_region ?_
        refine x_val (r_fieldAddr (o' := 0) Try.underlying40 rfl Try.sizeOf3 rfl s8 rfl) (nd_of rfl) rfl ?_
        refine x_val (r_load h 0 rfl Try.isAgg3 es gc0) (nd_of rfl) rfl ?_
        refine xw_nil ?_
        refine hK17 _ _ ?_
        refine xc_gen (fun g hg => ?_)
        have s0 := (hg 0).trans (en rfl (en rfl s0))
        have s3 := (hg 3).trans (en rfl (en rfl s3))
        have s4 := (hg 4).trans (en rfl (en rfl s4))
        have s5 := (hg 5).trans (en rfl (en rfl s5))
        have s6 := (hg 6).trans (en rfl (en rfl s6))
        have s8 := (hg 8).trans (en rfl (en rfl s8))
        have s10 := (hg 10).trans (en rfl (en rfl s10))
        have s25 := (hg 25).trans (en rfl (en rfl s25))
        have s32 := (hg 32).trans (en rfl (en rfl s32))
        have s33 := (hg 33).trans (en rfl (en rfl s33))
        have s34 := (hg 34).trans (en rfl (en rfl s34))
        have s35 := (hg 35).trans (en rfl (en rfl s35))
        have s46 := (hg 46).trans es
        clear hg
        refine xc_block ?_
        refine xc_seq (fun K hK18 => ?_)
        refine xc_region ?_
        refine x_val (r_eql s46 ec rfl) (nd_of rfl) rfl ?_
        refine x_val (r_assign es) (nd_of rfl) rfl ?_
        refine xw_nil ?_
        refine hK18 _ _ ?_
        refine xc_gen (fun g hg => ?_)
        have s0 := (hg 0).trans (en rfl (en rfl s0))
        have s3 := (hg 3).trans (en rfl (en rfl s3))
        have s4 := (hg 4).trans (en rfl (en rfl s4))
        have s5 := (hg 5).trans (en rfl (en rfl s5))
        have s6 := (hg 6).trans (en rfl (en rfl s6))
        have s8 := (hg 8).trans (en rfl (en rfl s8))
        have s10 := (hg 10).trans (en rfl (en rfl s10))
        have s25 := (hg 25).trans (en rfl (en rfl s25))
        have s32 := (hg 32).trans (en rfl (en rfl s32))
        have s33 := (hg 33).trans (en rfl (en rfl s33))
        have s34 := (hg 34).trans (en rfl (en rfl s34))
        have s35 := (hg 35).trans (en rfl (en rfl s35))
        have s46 := (hg 46).trans (en rfl (en rfl s46))
        have s47 := (hg 47).trans es
        clear hg
        refine xc_cond s47 (fun hc => ?_) (fun hc => ?_)
        ·
          rcases snoc_cases fr with hfr | ⟨fr0, j, hfr⟩
          ·
            skip
            refine xc_seq (fun K hK19 => ?_)
            subst hfr
            have hno := hK.fresh (j := pl.length) (by intro c hc2; have := (List.getElem?_eq_some_iff.1 hc2).1; omega)
            refine xc_region ?_
            refine x_val (r_move s3) (nd_of rfl) rfl ?_
            refine x_val (r_move (en rfl s4)) (nd_of rfl) rfl ?_
            refine x_val (r_fieldAddr (o' := 2) Try.underlying40 rfl Try.sizeOf2 rfl (en rfl (en rfl s8)) rfl) (nd_of rfl) rfl ?_
            refine x_val (r_load h 0 rfl Try.isAgg2 es gc2) (nd_of rfl) rfl ?_
            refine x_enter (r_callv Try.call14 (en rfl (en rfl es)) (.cons es .nil)) (nd_of rfl) rfl (text_ok h) ?_
            rintro _ w ⟨rfl, h⟩
            have h := h.f2
            refine x_enter (r_call Try.call15 (.cons (en rfl (en rfl (en rfl (en rfl es)))) (.cons es .nil))) (nd_of rfl) rfl (S.take_new (x := txt o.2.2) (by omega) h) ?_
            rintro _ w ⟨rfl, h⟩
            refine x_val (r_assign es) (nd_of rfl) rfl ?_
            refine xw_nil ?_
            refine hK19 _ _ ?_
            refine xc_gen (fun g hg => ?_)
            have s0 := (hg 0).trans (en rfl (en rfl (en rfl (en rfl (en rfl (en rfl (en rfl s0)))))))
            have s3 := (hg 3).trans (en rfl (en rfl (en rfl (en rfl (en rfl (en rfl (en rfl s3)))))))
            have s4 := (hg 4).trans (en rfl (en rfl (en rfl (en rfl (en rfl (en rfl (en rfl s4)))))))
            have s5 := (hg 5).trans (en rfl (en rfl (en rfl (en rfl (en rfl (en rfl (en rfl s5)))))))
            have s6 := (hg 6).trans (en rfl (en rfl (en rfl (en rfl (en rfl (en rfl (en rfl s6)))))))
            have s8 := (hg 8).trans (en rfl (en rfl (en rfl (en rfl (en rfl (en rfl (en rfl s8)))))))
            have s10 := (hg 10).trans (en rfl (en rfl (en rfl (en rfl (en rfl (en rfl (en rfl s10)))))))
            have s11 := (hg 11).trans es
            have s25 := (hg 25).trans (en rfl (en rfl (en rfl (en rfl (en rfl (en rfl (en rfl s25)))))))
            have s32 := (hg 32).trans (en rfl (en rfl (en rfl (en rfl (en rfl (en rfl (en rfl s32)))))))
            have s33 := (hg 33).trans (en rfl (en rfl (en rfl (en rfl (en rfl (en rfl (en rfl s33)))))))
            have s34 := (hg 34).trans (en rfl (en rfl (en rfl (en rfl (en rfl (en rfl (en rfl s34)))))))
            have s35 := (hg 35).trans (en rfl (en rfl (en rfl (en rfl (en rfl (en rfl (en rfl s35)))))))
            have s46 := (hg 46).trans (en rfl (en rfl (en rfl (en rfl (en rfl (en rfl (en rfl s46)))))))
            have s47 := (hg 47).trans (en rfl (en rfl (en rfl (en rfl (en rfl (en rfl (en rfl s47)))))))
            clear hg
            refine xc_seq (fun K hK20 => ?_)
            refine xc_seq (fun K hK21 => ?_)
            refine xc_region ?_
            refine x_val (r_move s5) (nd_of rfl) rfl ?_
            refine x_val (r_move (en rfl s11)) (nd_of rfl) rfl ?_
            refine x_val (r_lookup (en rfl es) es (lookup_no h 2 rfl hok hno)) (nd_of rfl) rfl ?_
            refine x_val (r_move es) (nd_of rfl) rfl ?_
            refine x_val (r_extract es gc0) (nd_of rfl) rfl ?_
            refine x_val (r_extract (en rfl es) gc1) (nd_of rfl) rfl ?_
            refine x_val (r_assign (en rfl es)) (nd_of rfl) rfl ?_
            refine x_val (r_assign (en rfl es)) (nd_of rfl) rfl ?_
            refine xw_nil ?_
            refine hK21 _ _ ?_
            refine xc_gen (fun g hg => ?_)
            have s0 := (hg 0).trans (en rfl (en rfl (en rfl (en rfl (en rfl (en rfl (en rfl (en rfl s0))))))))
            have s3 := (hg 3).trans (en rfl (en rfl (en rfl (en rfl (en rfl (en rfl (en rfl (en rfl s3))))))))
            have s4 := (hg 4).trans (en rfl (en rfl (en rfl (en rfl (en rfl (en rfl (en rfl (en rfl s4))))))))
            have s5 := (hg 5).trans (en rfl (en rfl (en rfl (en rfl (en rfl (en rfl (en rfl (en rfl s5))))))))
            have s6 := (hg 6).trans (en rfl (en rfl (en rfl (en rfl (en rfl (en rfl (en rfl (en rfl s6))))))))
            have s8 := (hg 8).trans (en rfl (en rfl (en rfl (en rfl (en rfl (en rfl (en rfl (en rfl s8))))))))
            have s10 := (hg 10).trans (en rfl (en rfl (en rfl (en rfl (en rfl (en rfl (en rfl (en rfl s10))))))))
            have s11 := (hg 11).trans (en rfl (en rfl (en rfl (en rfl (en rfl (en rfl (en rfl (en rfl s11))))))))
            have s13 := (hg 13).trans es
            have s25 := (hg 25).trans (en rfl (en rfl (en rfl (en rfl (en rfl (en rfl (en rfl (en rfl s25))))))))
            have s32 := (hg 32).trans (en rfl (en rfl (en rfl (en rfl (en rfl (en rfl (en rfl (en rfl s32))))))))
            have s33 := (hg 33).trans (en rfl (en rfl (en rfl (en rfl (en rfl (en rfl (en rfl (en rfl s33))))))))
            have s34 := (hg 34).trans (en rfl (en rfl (en rfl (en rfl (en rfl (en rfl (en rfl (en rfl s34))))))))
            have s35 := (hg 35).trans (en rfl (en rfl (en rfl (en rfl (en rfl (en rfl (en rfl (en rfl s35))))))))
            have s46 := (hg 46).trans (en rfl (en rfl (en rfl (en rfl (en rfl (en rfl (en rfl (en rfl s46))))))))
            have s47 := (hg 47).trans (en rfl (en rfl (en rfl (en rfl (en rfl (en rfl (en rfl (en rfl s47))))))))
            clear hg
            refine xc_seq (fun K hK22 => ?_)
            refine xc_region ?_
            refine x_val (r_move s13) (nd_of rfl) rfl ?_
            refine x_val (r_move es) (nd_of rfl) rfl ?_
            refine x_take (d := 62) rfl rfl es ?_
            refine x_val (r_move (en rfl (en rfl s11))) (nd_of rfl) rfl ?_
            refine x_take (d := 62) rfl rfl (en rfl es) ?_
            refine x_val (r_lss es ec (decide_eq_false (by omega))) (nd_of rfl) rfl ?_
            have h := h.f2
            refine x_val (r_pick_f (en rfl (en rfl es)) es) (nd_of rfl) rfl ?_
            refine xw_nil ?_
            refine hK22 _ _ ?_
            refine xc_gen (fun g hg => ?_)
            have s0 := (hg 0).trans (en rfl (en rfl (en rfl (en rfl (en rfl s0)))))
            have s3 := (hg 3).trans (en rfl (en rfl (en rfl (en rfl (en rfl s3)))))
            have s4 := (hg 4).trans (en rfl (en rfl (en rfl (en rfl (en rfl s4)))))
            have s5 := (hg 5).trans (en rfl (en rfl (en rfl (en rfl (en rfl s5)))))
            have s6 := (hg 6).trans (en rfl (en rfl (en rfl (en rfl (en rfl s6)))))
            have s8 := (hg 8).trans (en rfl (en rfl (en rfl (en rfl (en rfl s8)))))
            have s10 := (hg 10).trans (en rfl (en rfl (en rfl (en rfl (en rfl s10)))))
            have s11 := (hg 11).trans (en rfl (en rfl (en rfl (en rfl (en rfl s11)))))
            have s13 := (hg 13).trans (en rfl (en rfl (en rfl (en rfl (en rfl s13)))))
            have s25 := (hg 25).trans (en rfl (en rfl (en rfl (en rfl (en rfl s25)))))
            have s32 := (hg 32).trans (en rfl (en rfl (en rfl (en rfl (en rfl s32)))))
            have s33 := (hg 33).trans (en rfl (en rfl (en rfl (en rfl (en rfl s33)))))
            have s34 := (hg 34).trans (en rfl (en rfl (en rfl (en rfl (en rfl s34)))))
            have s35 := (hg 35).trans (en rfl (en rfl (en rfl (en rfl (en rfl s35)))))
            have s46 := (hg 46).trans (en rfl (en rfl (en rfl (en rfl (en rfl s46)))))
            have s47 := (hg 47).trans (en rfl (en rfl (en rfl (en rfl (en rfl s47)))))
            have s65 := (hg 65).trans es
            clear hg
            refine xc_cond s65 (fun hc => by cases hc) (fun _ => ?_)
            refine xc_skip ?_
            refine hK20 _ _ ?_
            refine xc_region ?_
            refine x_val (r_move s5) (nd_of rfl) rfl ?_
            refine x_val (r_move (en rfl s11)) (nd_of rfl) rfl ?_
            refine x_val (r_fieldAddr (o' := 2) Try.underlying40 rfl Try.sizeOf2 rfl (en rfl (en rfl s8)) rfl) (nd_of rfl) rfl ?_
            refine x_val (r_load h 2 rfl Try.isAgg2 es gc2) (nd_of rfl) rfl ?_
            obtain ⟨l2, clock2, w2, hup, h, hok2, hin2, hlen1, hlen2⟩ := run_updateM (w := w) h hok Try.underlying38 Try.underlying3 (pl.length : Int) o.2.2; refine x_skip (r_update (en rfl (en rfl (en rfl es))) (en rfl (en rfl es)) es hup) (nd_of rfl) ?_
            refine xw_nil ?_
            have hlen := hlen2 hno
            have h := h.f1
            have h := h.f1
            have h := h.f2
            exact ⟨⟨_, _, l2, clock2, by simp at hcnt ⊢; omega, by simp; omega, hK.takeNew hin2 hlen, hok2, h⟩, ⟨((en rfl (en rfl (en rfl (en rfl s0))))).trans zG16_0.symm, ((en rfl (en rfl (en rfl (en rfl s3))))).trans zG16_3.symm, ((en rfl (en rfl (en rfl (en rfl s4))))).trans zG16_4.symm, ((en rfl (en rfl (en rfl (en rfl s5))))).trans zG16_5.symm, ((en rfl (en rfl (en rfl (en rfl s6))))).trans zG16_6.symm, ((en rfl (en rfl (en rfl (en rfl s8))))).trans zG16_8.symm, ((en rfl (en rfl (en rfl (en rfl s10))))).trans zG16_10.symm, ((en rfl (en rfl (en rfl (en rfl s25))))).trans zG16_25.symm, ((en rfl (en rfl (en rfl (en rfl s32))))).trans zG16_32.symm, ((en rfl (en rfl (en rfl (en rfl s33))))).trans zG16_33.symm, ((en rfl (en rfl (en rfl (en rfl s34))))).trans zG16_34.symm, ((en rfl (en rfl (en rfl (en rfl s35))))).trans zG16_35.symm⟩⟩
          ·
            skip
            refine xc_seq (fun K hK23 => ?_)
            subst hfr
            obtain ⟨hjn, hjl⟩ : pl[j]? = some none ∧ j < pl.length := by obtain ⟨ps, fs, hp, _⟩ := (h.f2).openArena; have := hp.free j (by simp); exact ⟨this, (List.getElem?_eq_some_iff.1 this).1⟩
            have hno := hK.fresh (j := j) (by intro c hc2; rw [hjn] at hc2; cases hc2)
            refine xc_region ?_
            refine x_val (r_move s3) (nd_of rfl) rfl ?_
            refine x_val (r_move (en rfl s4)) (nd_of rfl) rfl ?_
            refine x_val (r_fieldAddr (o' := 2) Try.underlying40 rfl Try.sizeOf2 rfl (en rfl (en rfl s8)) rfl) (nd_of rfl) rfl ?_
            refine x_val (r_load h 0 rfl Try.isAgg2 es gc2) (nd_of rfl) rfl ?_
            refine x_enter (r_callv Try.call14 (en rfl (en rfl es)) (.cons es .nil)) (nd_of rfl) rfl (text_ok h) ?_
            rintro _ w ⟨rfl, h⟩
            have h := h.f2
            refine x_enter (r_call Try.call15 (.cons (en rfl (en rfl (en rfl (en rfl es)))) (.cons es .nil))) (nd_of rfl) rfl (S.take_free (x := txt o.2.2) (by omega) h) ?_
            rintro _ w ⟨rfl, h⟩
            refine x_val (r_assign es) (nd_of rfl) rfl ?_
            refine xw_nil ?_
            refine hK23 _ _ ?_
            refine xc_gen (fun g hg => ?_)
            have s0 := (hg 0).trans (en rfl (en rfl (en rfl (en rfl (en rfl (en rfl (en rfl s0)))))))
            have s3 := (hg 3).trans (en rfl (en rfl (en rfl (en rfl (en rfl (en rfl (en rfl s3)))))))
            have s4 := (hg 4).trans (en rfl (en rfl (en rfl (en rfl (en rfl (en rfl (en rfl s4)))))))
            have s5 := (hg 5).trans (en rfl (en rfl (en rfl (en rfl (en rfl (en rfl (en rfl s5)))))))
            have s6 := (hg 6).trans (en rfl (en rfl (en rfl (en rfl (en rfl (en rfl (en rfl s6)))))))
            have s8 := (hg 8).trans (en rfl (en rfl (en rfl (en rfl (en rfl (en rfl (en rfl s8)))))))
            have s10 := (hg 10).trans (en rfl (en rfl (en rfl (en rfl (en rfl (en rfl (en rfl s10)))))))
            have s11 := (hg 11).trans es
            have s25 := (hg 25).trans (en rfl (en rfl (en rfl (en rfl (en rfl (en rfl (en rfl s25)))))))
            have s32 := (hg 32).trans (en rfl (en rfl (en rfl (en rfl (en rfl (en rfl (en rfl s32)))))))
            have s33 := (hg 33).trans (en rfl (en rfl (en rfl (en rfl (en rfl (en rfl (en rfl s33)))))))
            have s34 := (hg 34).trans (en rfl (en rfl (en rfl (en rfl (en rfl (en rfl (en rfl s34)))))))
            have s35 := (hg 35).trans (en rfl (en rfl (en rfl (en rfl (en rfl (en rfl (en rfl s35)))))))
            have s46 := (hg 46).trans (en rfl (en rfl (en rfl (en rfl (en rfl (en rfl (en rfl s46)))))))
            have s47 := (hg 47).trans (en rfl (en rfl (en rfl (en rfl (en rfl (en rfl (en rfl s47)))))))
            clear hg
            refine xc_seq (fun K hK24 => ?_)
            refine xc_seq (fun K hK25 => ?_)
            refine xc_region ?_
            refine x_val (r_move s5) (nd_of rfl) rfl ?_
            refine x_val (r_move (en rfl s11)) (nd_of rfl) rfl ?_
            refine x_val (r_lookup (en rfl es) es (lookup_no h 2 rfl hok hno)) (nd_of rfl) rfl ?_
            refine x_val (r_move es) (nd_of rfl) rfl ?_
            refine x_val (r_extract es gc0) (nd_of rfl) rfl ?_
            refine x_val (r_extract (en rfl es) gc1) (nd_of rfl) rfl ?_
            refine x_val (r_assign (en rfl es)) (nd_of rfl) rfl ?_
            refine x_val (r_assign (en rfl es)) (nd_of rfl) rfl ?_
            refine xw_nil ?_
            refine hK25 _ _ ?_
            refine xc_gen (fun g hg => ?_)
            have s0 := (hg 0).trans (en rfl (en rfl (en rfl (en rfl (en rfl (en rfl (en rfl (en rfl s0))))))))
            have s3 := (hg 3).trans (en rfl (en rfl (en rfl (en rfl (en rfl (en rfl (en rfl (en rfl s3))))))))
            have s4 := (hg 4).trans (en rfl (en rfl (en rfl (en rfl (en rfl (en rfl (en rfl (en rfl s4))))))))
            have s5 := (hg 5).trans (en rfl (en rfl (en rfl (en rfl (en rfl (en rfl (en rfl (en rfl s5))))))))
            have s6 := (hg 6).trans (en rfl (en rfl (en rfl (en rfl (en rfl (en rfl (en rfl (en rfl s6))))))))
            have s8 := (hg 8).trans (en rfl (en rfl (en rfl (en rfl (en rfl (en rfl (en rfl (en rfl s8))))))))
            have s10 := (hg 10).trans (en rfl (en rfl (en rfl (en rfl (en rfl (en rfl (en rfl (en rfl s10))))))))
            have s11 := (hg 11).trans (en rfl (en rfl (en rfl (en rfl (en rfl (en rfl (en rfl (en rfl s11))))))))
            have s13 := (hg 13).trans es
            have s25 := (hg 25).trans (en rfl (en rfl (en rfl (en rfl (en rfl (en rfl (en rfl (en rfl s25))))))))
            have s32 := (hg 32).trans (en rfl (en rfl (en rfl (en rfl (en rfl (en rfl (en rfl (en rfl s32))))))))
            have s33 := (hg 33).trans (en rfl (en rfl (en rfl (en rfl (en rfl (en rfl (en rfl (en rfl s33))))))))
            have s34 := (hg 34).trans (en rfl (en rfl (en rfl (en rfl (en rfl (en rfl (en rfl (en rfl s34))))))))
            have s35 := (hg 35).trans (en rfl (en rfl (en rfl (en rfl (en rfl (en rfl (en rfl (en rfl s35))))))))
            have s46 := (hg 46).trans (en rfl (en rfl (en rfl (en rfl (en rfl (en rfl (en rfl (en rfl s46))))))))
            have s47 := (hg 47).trans (en rfl (en rfl (en rfl (en rfl (en rfl (en rfl (en rfl (en rfl s47))))))))
            clear hg
            refine xc_seq (fun K hK26 => ?_)
            refine xc_region ?_
            refine x_val (r_move s13) (nd_of rfl) rfl ?_
            refine x_val (r_move es) (nd_of rfl) rfl ?_
            refine x_take (d := 62) rfl rfl es ?_
            refine x_val (r_move (en rfl (en rfl s11))) (nd_of rfl) rfl ?_
            refine x_take (d := 62) rfl rfl (en rfl es) ?_
            refine x_val (r_lss es ec (decide_eq_false (by omega))) (nd_of rfl) rfl ?_
            have h := h.f2
            refine x_val (r_pick_f (en rfl (en rfl es)) es) (nd_of rfl) rfl ?_
            refine xw_nil ?_
            refine hK26 _ _ ?_
            refine xc_gen (fun g hg => ?_)
            have s0 := (hg 0).trans (en rfl (en rfl (en rfl (en rfl (en rfl s0)))))
            have s3 := (hg 3).trans (en rfl (en rfl (en rfl (en rfl (en rfl s3)))))
            have s4 := (hg 4).trans (en rfl (en rfl (en rfl (en rfl (en rfl s4)))))
            have s5 := (hg 5).trans (en rfl (en rfl (en rfl (en rfl (en rfl s5)))))
            have s6 := (hg 6).trans (en rfl (en rfl (en rfl (en rfl (en rfl s6)))))
            have s8 := (hg 8).trans (en rfl (en rfl (en rfl (en rfl (en rfl s8)))))
            have s10 := (hg 10).trans (en rfl (en rfl (en rfl (en rfl (en rfl s10)))))
            have s11 := (hg 11).trans (en rfl (en rfl (en rfl (en rfl (en rfl s11)))))
            have s13 := (hg 13).trans (en rfl (en rfl (en rfl (en rfl (en rfl s13)))))
            have s25 := (hg 25).trans (en rfl (en rfl (en rfl (en rfl (en rfl s25)))))
            have s32 := (hg 32).trans (en rfl (en rfl (en rfl (en rfl (en rfl s32)))))
            have s33 := (hg 33).trans (en rfl (en rfl (en rfl (en rfl (en rfl s33)))))
            have s34 := (hg 34).trans (en rfl (en rfl (en rfl (en rfl (en rfl s34)))))
            have s35 := (hg 35).trans (en rfl (en rfl (en rfl (en rfl (en rfl s35)))))
            have s46 := (hg 46).trans (en rfl (en rfl (en rfl (en rfl (en rfl s46)))))
            have s47 := (hg 47).trans (en rfl (en rfl (en rfl (en rfl (en rfl s47)))))
            have s65 := (hg 65).trans es
            clear hg
            refine xc_cond s65 (fun hc => by cases hc) (fun _ => ?_)
            refine xc_skip ?_
            refine hK24 _ _ ?_
            refine xc_region ?_
            refine x_val (r_move s5) (nd_of rfl) rfl ?_
            refine x_val (r_move (en rfl s11)) (nd_of rfl) rfl ?_
            refine x_val (r_fieldAddr (o' := 2) Try.underlying40 rfl Try.sizeOf2 rfl (en rfl (en rfl s8)) rfl) (nd_of rfl) rfl ?_
            refine x_val (r_load h 2 rfl Try.isAgg2 es gc2) (nd_of rfl) rfl ?_
            obtain ⟨l2, clock2, w2, hup, h, hok2, hin2, hlen1, hlen2⟩ := run_updateM (w := w) h hok Try.underlying38 Try.underlying3 (j : Int) o.2.2; refine x_skip (r_update (en rfl (en rfl (en rfl es))) (en rfl (en rfl es)) es hup) (nd_of rfl) ?_
            refine xw_nil ?_
            have hlen := hlen2 hno
            have h := h.f1
            have h := h.f1
            have h := h.f2
            exact ⟨⟨_, _, l2, clock2, by simp at hcnt ⊢; omega, by simp; omega, hK.takeFree hjl hin2 hlen, hok2, h⟩, ⟨((en rfl (en rfl (en rfl (en rfl s0))))).trans zG16_0.symm, ((en rfl (en rfl (en rfl (en rfl s3))))).trans zG16_3.symm, ((en rfl (en rfl (en rfl (en rfl s4))))).trans zG16_4.symm, ((en rfl (en rfl (en rfl (en rfl s5))))).trans zG16_5.symm, ((en rfl (en rfl (en rfl (en rfl s6))))).trans zG16_6.symm, ((en rfl (en rfl (en rfl (en rfl s8))))).trans zG16_8.symm, ((en rfl (en rfl (en rfl (en rfl s10))))).trans zG16_10.symm, ((en rfl (en rfl (en rfl (en rfl s25))))).trans zG16_25.symm, ((en rfl (en rfl (en rfl (en rfl s32))))).trans zG16_32.symm, ((en rfl (en rfl (en rfl (en rfl s33))))).trans zG16_33.symm, ((en rfl (en rfl (en rfl (en rfl s34))))).trans zG16_34.symm, ((en rfl (en rfl (en rfl (en rfl s35))))).trans zG16_35.symm⟩⟩
        ·
          refine xc_seq (fun K hK27 => ?_)
          refine xc_region ?_
          refine x_val (r_eql s46 ec rfl) (nd_of rfl) rfl ?_
          refine x_val (r_assign es) (nd_of rfl) rfl ?_
          refine xw_nil ?_
          refine hK27 _ _ ?_
          refine xc_gen (fun g hg => ?_)
          have s0 := (hg 0).trans (en rfl (en rfl s0))
          have s3 := (hg 3).trans (en rfl (en rfl s3))
          have s4 := (hg 4).trans (en rfl (en rfl s4))
          have s5 := (hg 5).trans (en rfl (en rfl s5))
          have s6 := (hg 6).trans (en rfl (en rfl s6))
          have s8 := (hg 8).trans (en rfl (en rfl s8))
          have s10 := (hg 10).trans (en rfl (en rfl s10))
          have s25 := (hg 25).trans (en rfl (en rfl s25))
          have s32 := (hg 32).trans (en rfl (en rfl s32))
          have s33 := (hg 33).trans (en rfl (en rfl s33))
          have s34 := (hg 34).trans (en rfl (en rfl s34))
          have s35 := (hg 35).trans (en rfl (en rfl s35))
          have s46 := (hg 46).trans (en rfl (en rfl s46))
          have s47 := (hg 47).trans (en rfl (en rfl s47))
          have s70 := (hg 70).trans es
          clear hg
          refine xc_cond s70 (fun hc => ?_) (fun hc => ?_)
          ·
            rcases (show r = true ∨ r = false by cases r <;> simp) with hr | hr
            ·
              skip
              refine xc_seq (fun K hK28 => ?_)
              refine xc_seq (fun K hK29 => ?_)
              subst hr
              obtain ⟨v0, hv0⟩ := hrt rfl
              obtain ⟨i, hi, hpi⟩ := hK.there _ _ hv0
              have hil := (List.getElem?_eq_some_iff.1 hpi).1
              refine xc_region ?_
              refine x_val (r_move s3) (nd_of rfl) rfl ?_
              refine x_val (r_fieldAddr (o' := 1) Try.underlying40 rfl Try.sizeOf3 rfl (en rfl s8) rfl) (nd_of rfl) rfl ?_
              refine x_val (r_load h 0 rfl Try.isAgg3 es gc1) (nd_of rfl) rfl ?_
              have h := h.f2
              refine x_enter (r_call Try.call16 (.cons (en rfl (en rfl es)) (.cons es .nil))) (nd_of rfl) rfl (free_int hi hpi (by omega) h) ?_
              rintro _ w ⟨rfl, h⟩
              refine x_val (r_eql es ec (r := true) rfl) (nd_of rfl) rfl ?_
              refine x_val (r_move (en rfl (en rfl (en rfl (en rfl (en rfl s10)))))) (nd_of rfl) rfl ?_
              refine x_val (r_neb Try.underlying4 (en rfl es) es (r := false) rfl) (nd_of rfl) rfl ?_
              refine xw_nil ?_
              refine hK29 _ _ ?_
              refine xc_gen (fun g hg => ?_)
              have s0 := (hg 0).trans (en rfl (en rfl (en rfl (en rfl (en rfl (en rfl (en rfl s0)))))))
              have s3 := (hg 3).trans (en rfl (en rfl (en rfl (en rfl (en rfl (en rfl (en rfl s3)))))))
              have s4 := (hg 4).trans (en rfl (en rfl (en rfl (en rfl (en rfl (en rfl (en rfl s4)))))))
              have s5 := (hg 5).trans (en rfl (en rfl (en rfl (en rfl (en rfl (en rfl (en rfl s5)))))))
              have s6 := (hg 6).trans (en rfl (en rfl (en rfl (en rfl (en rfl (en rfl (en rfl s6)))))))
              have s8 := (hg 8).trans (en rfl (en rfl (en rfl (en rfl (en rfl (en rfl (en rfl s8)))))))
              have s10 := (hg 10).trans (en rfl (en rfl (en rfl (en rfl (en rfl (en rfl (en rfl s10)))))))
              have s25 := (hg 25).trans (en rfl (en rfl (en rfl (en rfl (en rfl (en rfl (en rfl s25)))))))
              have s32 := (hg 32).trans (en rfl (en rfl (en rfl (en rfl (en rfl (en rfl (en rfl s32)))))))
              have s33 := (hg 33).trans (en rfl (en rfl (en rfl (en rfl (en rfl (en rfl (en rfl s33)))))))
              have s34 := (hg 34).trans (en rfl (en rfl (en rfl (en rfl (en rfl (en rfl (en rfl s34)))))))
              have s35 := (hg 35).trans (en rfl (en rfl (en rfl (en rfl (en rfl (en rfl (en rfl s35)))))))
              have s46 := (hg 46).trans (en rfl (en rfl (en rfl (en rfl (en rfl (en rfl (en rfl s46)))))))
              have s47 := (hg 47).trans (en rfl (en rfl (en rfl (en rfl (en rfl (en rfl (en rfl s47)))))))
              have s70 := (hg 70).trans (en rfl (en rfl (en rfl (en rfl (en rfl (en rfl (en rfl s70)))))))
              have s78 := (hg 78).trans es
              clear hg
              refine xc_cond s78 (fun hc => by cases hc) (fun _ => ?_)
              refine xc_skip ?_
              refine hK28 _ _ ?_
              have h := h.f2
              refine xc_region ?_
              refine x_val (r_move s5) (nd_of rfl) rfl ?_
              refine x_val (r_fieldAddr (o' := 1) Try.underlying40 rfl Try.sizeOf3 rfl (en rfl s8) rfl) (nd_of rfl) rfl ?_
              refine x_val (r_load h 2 rfl Try.isAgg3 es gc1) (nd_of rfl) rfl ?_
              obtain ⟨l2, w2, hup, h, hok2, hin2, hlen1, hlen2⟩ := run_deleteM (w := w) (ty := 0) h hok Try.underlying38 Try.underlying3 o.2.1; refine x_valN (r_delete (en rfl (en rfl es)) es hup) (nd_of rfl) ?_
              refine xw_nil ?_
              have hlen := hlen1 ⟨v0, hv0⟩
              rw [hi] at hin2
              have h := h.f1
              have h := h.f1
              have h := h.f2
              exact ⟨⟨_, _, l2, clock, by simp; omega, by simp; omega, hK.free hil hin2 hlen, hok2, h⟩, ⟨((en rfl (en rfl (en rfl s0)))).trans zG16_0.symm, ((en rfl (en rfl (en rfl s3)))).trans zG16_3.symm, ((en rfl (en rfl (en rfl s4)))).trans zG16_4.symm, ((en rfl (en rfl (en rfl s5)))).trans zG16_5.symm, ((en rfl (en rfl (en rfl s6)))).trans zG16_6.symm, ((en rfl (en rfl (en rfl s8)))).trans zG16_8.symm, ((en rfl (en rfl (en rfl s10)))).trans zG16_10.symm, ((en rfl (en rfl (en rfl s25)))).trans zG16_25.symm, ((en rfl (en rfl (en rfl s32)))).trans zG16_32.symm, ((en rfl (en rfl (en rfl s33)))).trans zG16_33.symm, ((en rfl (en rfl (en rfl s34)))).trans zG16_34.symm, ((en rfl (en rfl (en rfl s35)))).trans zG16_35.symm⟩⟩
            ·
              skip
              refine xc_seq (fun K hK30 => ?_)
              refine xc_seq (fun K hK31 => ?_)
              subst hr
              have hno := hrf rfl
              refine xc_region ?_
              refine x_val (r_move s3) (nd_of rfl) rfl ?_
              refine x_val (r_fieldAddr (o' := 1) Try.underlying40 rfl Try.sizeOf3 rfl (en rfl s8) rfl) (nd_of rfl) rfl ?_
              refine x_val (r_load h 0 rfl Try.isAgg3 es gc1) (nd_of rfl) rfl ?_
              have h := h.f2
              refine x_enter (r_call Try.call16 (.cons (en rfl (en rfl es)) (.cons es .nil))) (nd_of rfl) rfl (S.free_no (hK.no hno) h) ?_
              rintro _ w ⟨rfl, h⟩
              refine x_val (r_eql es ec (r := false) rfl) (nd_of rfl) rfl ?_
              refine x_val (r_move (en rfl (en rfl (en rfl (en rfl (en rfl s10)))))) (nd_of rfl) rfl ?_
              refine x_val (r_neb Try.underlying4 (en rfl es) es (r := false) rfl) (nd_of rfl) rfl ?_
              refine xw_nil ?_
              refine hK31 _ _ ?_
              refine xc_gen (fun g hg => ?_)
              have s0 := (hg 0).trans (en rfl (en rfl (en rfl (en rfl (en rfl (en rfl (en rfl s0)))))))
              have s3 := (hg 3).trans (en rfl (en rfl (en rfl (en rfl (en rfl (en rfl (en rfl s3)))))))
              have s4 := (hg 4).trans (en rfl (en rfl (en rfl (en rfl (en rfl (en rfl (en rfl s4)))))))
              have s5 := (hg 5).trans (en rfl (en rfl (en rfl (en rfl (en rfl (en rfl (en rfl s5)))))))
              have s6 := (hg 6).trans (en rfl (en rfl (en rfl (en rfl (en rfl (en rfl (en rfl s6)))))))
              have s8 := (hg 8).trans (en rfl (en rfl (en rfl (en rfl (en rfl (en rfl (en rfl s8)))))))
              have s10 := (hg 10).trans (en rfl (en rfl (en rfl (en rfl (en rfl (en rfl (en rfl s10)))))))
              have s25 := (hg 25).trans (en rfl (en rfl (en rfl (en rfl (en rfl (en rfl (en rfl s25)))))))
              have s32 := (hg 32).trans (en rfl (en rfl (en rfl (en rfl (en rfl (en rfl (en rfl s32)))))))
              have s33 := (hg 33).trans (en rfl (en rfl (en rfl (en rfl (en rfl (en rfl (en rfl s33)))))))
              have s34 := (hg 34).trans (en rfl (en rfl (en rfl (en rfl (en rfl (en rfl (en rfl s34)))))))
              have s35 := (hg 35).trans (en rfl (en rfl (en rfl (en rfl (en rfl (en rfl (en rfl s35)))))))
              have s46 := (hg 46).trans (en rfl (en rfl (en rfl (en rfl (en rfl (en rfl (en rfl s46)))))))
              have s47 := (hg 47).trans (en rfl (en rfl (en rfl (en rfl (en rfl (en rfl (en rfl s47)))))))
              have s70 := (hg 70).trans (en rfl (en rfl (en rfl (en rfl (en rfl (en rfl (en rfl s70)))))))
              have s78 := (hg 78).trans es
              clear hg
              refine xc_cond s78 (fun hc => by cases hc) (fun _ => ?_)
              refine xc_skip ?_
              refine hK30 _ _ ?_
              have h := h.f2
              refine xc_region ?_
              refine x_val (r_move s5) (nd_of rfl) rfl ?_
              refine x_val (r_fieldAddr (o' := 1) Try.underlying40 rfl Try.sizeOf3 rfl (en rfl s8) rfl) (nd_of rfl) rfl ?_
              refine x_val (r_load h 2 rfl Try.isAgg3 es gc1) (nd_of rfl) rfl ?_
              obtain ⟨l2, w2, hup, h, hok2, hin2, hlen1, hlen2⟩ := run_deleteM (w := w) (ty := 0) h hok Try.underlying38 Try.underlying3 o.2.1; refine x_valN (r_delete (en rfl (en rfl es)) es hup) (nd_of rfl) ?_
              refine xw_nil ?_
              have e2 := hlen2 hno
              have h := h.f1
              have h := h.f1
              have h := h.f2
              exact ⟨⟨_, _, l2, clock, by rw [e2]; omega, by omega, e2.symm ▸ hK, hok2, h⟩, ⟨((en rfl (en rfl (en rfl s0)))).trans zG16_0.symm, ((en rfl (en rfl (en rfl s3)))).trans zG16_3.symm, ((en rfl (en rfl (en rfl s4)))).trans zG16_4.symm, ((en rfl (en rfl (en rfl s5)))).trans zG16_5.symm, ((en rfl (en rfl (en rfl s6)))).trans zG16_6.symm, ((en rfl (en rfl (en rfl s8)))).trans zG16_8.symm, ((en rfl (en rfl (en rfl s10)))).trans zG16_10.symm, ((en rfl (en rfl (en rfl s25)))).trans zG16_25.symm, ((en rfl (en rfl (en rfl s32)))).trans zG16_32.symm, ((en rfl (en rfl (en rfl s33)))).trans zG16_33.symm, ((en rfl (en rfl (en rfl s34)))).trans zG16_34.symm, ((en rfl (en rfl (en rfl s35)))).trans zG16_35.symm⟩⟩
          ·
            refine xc_seq (fun K hK32 => ?_)
            refine xc_region ?_
            refine x_val (r_eql s46 ec rfl) (nd_of rfl) rfl ?_
            refine x_val (r_assign es) (nd_of rfl) rfl ?_
            refine xw_nil ?_
            refine hK32 _ _ ?_
            refine xc_gen (fun g hg => ?_)
            have s0 := (hg 0).trans (en rfl (en rfl s0))
            have s3 := (hg 3).trans (en rfl (en rfl s3))
            have s4 := (hg 4).trans (en rfl (en rfl s4))
            have s5 := (hg 5).trans (en rfl (en rfl s5))
            have s6 := (hg 6).trans (en rfl (en rfl s6))
            have s8 := (hg 8).trans (en rfl (en rfl s8))
            have s10 := (hg 10).trans (en rfl (en rfl s10))
            have s25 := (hg 25).trans (en rfl (en rfl s25))
            have s32 := (hg 32).trans (en rfl (en rfl s32))
            have s33 := (hg 33).trans (en rfl (en rfl s33))
            have s34 := (hg 34).trans (en rfl (en rfl s34))
            have s35 := (hg 35).trans (en rfl (en rfl s35))
            have s46 := (hg 46).trans (en rfl (en rfl s46))
            have s47 := (hg 47).trans (en rfl (en rfl s47))
            have s70 := (hg 70).trans (en rfl (en rfl s70))
            have s82 := (hg 82).trans es
            clear hg
            refine xc_cond s82 (fun hc => ?_) (fun hc => ?_)
            ·
              rcases (show r = true ∨ r = false by cases r <;> simp) with hr | hr
              ·
                skip
                refine xc_seq (fun K hK33 => ?_)
                refine xc_seq (fun K hK34 => ?_)
                subst hr
                obtain ⟨v0, hv0⟩ := hrt rfl
                obtain ⟨i, hi, hpi⟩ := hK.there _ _ hv0
                have hil := (List.getElem?_eq_some_iff.1 hpi).1
                have hS := h
                have hS := (hS.f1).drop
                have hS := (hS.f1).drop
                refine xc_plan 11 [(0, 2), (1, 2), (2, 1), (3, 2), (4, 2), (5, 1), (9, 2), (6, 0), (7, 0), (8, 2), (10, 2)] (by kernel_rfl) rfl (by kernel_rfl) hS ?_
                have h := h.drew
                refine xp_read (i := 0) rfl (fun W => r_move s3) rfl (fun _ _ _ hh => by first | exact bodyR_np hh | exact bodyY_np hh | exact hh) ?_
                refine xp_read (i := 1) rfl (fun W => r_fieldAddr (o' := 1) Try.underlying40 rfl Try.sizeOf3 rfl (en rfl s8) rfl) rfl (fun _ _ _ hh => by first | exact bodyR_np hh | exact bodyY_np hh | exact hh) ?_
                refine xp_load (i := 2) rfl (fun W hW => r_load hW 0 rfl Try.isAgg3 es gc1) rfl (fun _ _ _ hh => by first | exact bodyR_np hh | exact bodyY_np hh | exact hh) ?_
                refine xp_read (i := 3) rfl (fun W => r_move (en rfl (en rfl (en rfl s4)))) rfl (fun _ _ _ hh => by first | exact bodyR_np hh | exact bodyY_np hh | exact hh) ?_
                refine xp_read (i := 4) rfl (fun W => r_fieldAddr (o' := 2) Try.underlying40 rfl Try.sizeOf2 rfl (en rfl (en rfl (en rfl (en rfl s8)))) rfl) rfl (fun _ _ _ hh => by first | exact bodyR_np hh | exact bodyY_np hh | exact hh) ?_
                refine xp_load (i := 5) rfl (fun W hW => r_load hW 0 rfl Try.isAgg2 es gc2) rfl (fun _ _ _ hh => by first | exact bodyR_np hh | exact bodyY_np hh | exact hh) ?_
                refine xp_read (i := 9) rfl (fun W => r_move (en rfl (en rfl (en rfl (en rfl (en rfl (en rfl s10))))))) rfl (fun _ _ _ hh => by first | exact bodyR_np hh | exact bodyY_np hh | exact hh) ?_
                refine xp_enter (i := 6) rfl (r_callv Try.call14 (en rfl (en rfl (en rfl es))) (.cons (en rfl es) .nil)) rfl (text_ok h) ?_
                rintro _ w ⟨rfl, h⟩
                refine ⟨(fun _ => ((h.f1).drop.f1).drop), ?_⟩
                have h := h.f2
                refine xp_enter (i := 7) rfl (r_call Try.call17 (.cons (en rfl (en rfl (en rfl (en rfl (en rfl (en rfl (en rfl es))))))) (.cons (en rfl (en rfl (en rfl (en rfl (en rfl es))))) (.cons es .nil)))) rfl (put_int (s := txt o.2.2) hi hpi h) ?_
                rintro _ w ⟨rfl, h⟩
                refine ⟨(fun _ => ((h.f0).drop.f1).drop), ?_⟩
                refine xp_read (i := 8) rfl (fun W => r_eql es ec (r := true) rfl) rfl (fun _ _ _ hh => by first | exact bodyR_np hh | exact bodyY_np hh | exact hh) ?_
                refine xp_read (i := 10) rfl (fun W => r_neb Try.underlying4 es (en rfl (en rfl (en rfl es))) (r := false) rfl) rfl (fun _ _ _ hh => by first | exact bodyR_np hh | exact bodyY_np hh | exact hh) ?_
                refine xp_nil ?_
                refine hK34 _ _ ?_
                refine xc_gen (fun g hg => ?_)
                have s0 := (hg 0).trans (en rfl (en rfl (en rfl (en rfl (en rfl (en rfl (en rfl (en rfl (en rfl (en rfl (en rfl s0)))))))))))
                have s3 := (hg 3).trans (en rfl (en rfl (en rfl (en rfl (en rfl (en rfl (en rfl (en rfl (en rfl (en rfl (en rfl s3)))))))))))
                have s4 := (hg 4).trans (en rfl (en rfl (en rfl (en rfl (en rfl (en rfl (en rfl (en rfl (en rfl (en rfl (en rfl s4)))))))))))
                have s5 := (hg 5).trans (en rfl (en rfl (en rfl (en rfl (en rfl (en rfl (en rfl (en rfl (en rfl (en rfl (en rfl s5)))))))))))
                have s6 := (hg 6).trans (en rfl (en rfl (en rfl (en rfl (en rfl (en rfl (en rfl (en rfl (en rfl (en rfl (en rfl s6)))))))))))
                have s8 := (hg 8).trans (en rfl (en rfl (en rfl (en rfl (en rfl (en rfl (en rfl (en rfl (en rfl (en rfl (en rfl s8)))))))))))
                have s10 := (hg 10).trans (en rfl (en rfl (en rfl (en rfl (en rfl (en rfl (en rfl (en rfl (en rfl (en rfl (en rfl s10)))))))))))
                have s25 := (hg 25).trans (en rfl (en rfl (en rfl (en rfl (en rfl (en rfl (en rfl (en rfl (en rfl (en rfl (en rfl s25)))))))))))
                have s32 := (hg 32).trans (en rfl (en rfl (en rfl (en rfl (en rfl (en rfl (en rfl (en rfl (en rfl (en rfl (en rfl s32)))))))))))
                have s33 := (hg 33).trans (en rfl (en rfl (en rfl (en rfl (en rfl (en rfl (en rfl (en rfl (en rfl (en rfl (en rfl s33)))))))))))
                have s34 := (hg 34).trans (en rfl (en rfl (en rfl (en rfl (en rfl (en rfl (en rfl (en rfl (en rfl (en rfl (en rfl s34)))))))))))
                have s35 := (hg 35).trans (en rfl (en rfl (en rfl (en rfl (en rfl (en rfl (en rfl (en rfl (en rfl (en rfl (en rfl s35)))))))))))
                have s46 := (hg 46).trans (en rfl (en rfl (en rfl (en rfl (en rfl (en rfl (en rfl (en rfl (en rfl (en rfl (en rfl s46)))))))))))
                have s47 := (hg 47).trans (en rfl (en rfl (en rfl (en rfl (en rfl (en rfl (en rfl (en rfl (en rfl (en rfl (en rfl s47)))))))))))
                have s70 := (hg 70).trans (en rfl (en rfl (en rfl (en rfl (en rfl (en rfl (en rfl (en rfl (en rfl (en rfl (en rfl s70)))))))))))
                have s82 := (hg 82).trans (en rfl (en rfl (en rfl (en rfl (en rfl (en rfl (en rfl (en rfl (en rfl (en rfl (en rfl s82)))))))))))
                have s94 := (hg 94).trans es
                clear hg
                refine xc_cond s94 (fun hc => by cases hc) (fun _ => ?_)
                refine xc_skip ?_
                refine hK33 _ _ ?_
                refine xc_seq (fun K hK35 => ?_)
                have h := h.f2
                refine xc_region ?_
                refine x_val (r_move s10) (nd_of rfl) rfl ?_
                refine xw_nil ?_
                refine hK35 _ _ ?_
                refine xc_gen (fun g hg => ?_)
                have s0 := (hg 0).trans (en rfl s0)
                have s3 := (hg 3).trans (en rfl s3)
                have s4 := (hg 4).trans (en rfl s4)
                have s5 := (hg 5).trans (en rfl s5)
                have s6 := (hg 6).trans (en rfl s6)
                have s8 := (hg 8).trans (en rfl s8)
                have s10 := (hg 10).trans (en rfl s10)
                have s25 := (hg 25).trans (en rfl s25)
                have s32 := (hg 32).trans (en rfl s32)
                have s33 := (hg 33).trans (en rfl s33)
                have s34 := (hg 34).trans (en rfl s34)
                have s35 := (hg 35).trans (en rfl s35)
                have s46 := (hg 46).trans (en rfl s46)
                have s47 := (hg 47).trans (en rfl s47)
                have s70 := (hg 70).trans (en rfl s70)
                have s82 := (hg 82).trans (en rfl s82)
                have s94 := (hg 94).trans (en rfl s94)
                have s95 := (hg 95).trans es
                clear hg
                refine xc_cond s95 (fun _ => ?_) (fun hc => by cases hc)
                refine xc_region ?_
                refine x_val (r_move s5) (nd_of rfl) rfl ?_
                refine x_val (r_fieldAddr (o' := 1) Try.underlying40 rfl Try.sizeOf3 rfl (en rfl s8) rfl) (nd_of rfl) rfl ?_
                refine x_val (r_load h 2 rfl Try.isAgg3 es gc1) (nd_of rfl) rfl ?_
                refine x_val (r_fieldAddr (o' := 2) Try.underlying40 rfl Try.sizeOf2 rfl (en rfl (en rfl (en rfl s8))) rfl) (nd_of rfl) rfl ?_
                refine x_val (r_load h 2 rfl Try.isAgg2 es gc2) (nd_of rfl) rfl ?_
                obtain ⟨l2, clock2, w2, hup, h, hok2, hin2, hlen1, hlen2⟩ := run_updateM (w := w) h hok Try.underlying38 Try.underlying3 o.2.1 o.2.2; refine x_skip (r_update (en rfl (en rfl (en rfl (en rfl es)))) (en rfl (en rfl es)) es hup) (nd_of rfl) ?_
                refine xw_nil ?_
                have hlen := hlen1 ⟨v0, hv0⟩
                rw [hi] at hin2
                have h := h.f1
                have h := h.f1
                have h := h.f2
                exact ⟨⟨_, _, l2, clock2, by simp; omega, by simp; omega, hK.put hil hin2 hlen, hok2, h⟩, ⟨((en rfl (en rfl (en rfl (en rfl (en rfl s0)))))).trans zG16_0.symm, ((en rfl (en rfl (en rfl (en rfl (en rfl s3)))))).trans zG16_3.symm, ((en rfl (en rfl (en rfl (en rfl (en rfl s4)))))).trans zG16_4.symm, ((en rfl (en rfl (en rfl (en rfl (en rfl s5)))))).trans zG16_5.symm, ((en rfl (en rfl (en rfl (en rfl (en rfl s6)))))).trans zG16_6.symm, ((en rfl (en rfl (en rfl (en rfl (en rfl s8)))))).trans zG16_8.symm, ((en rfl (en rfl (en rfl (en rfl (en rfl s10)))))).trans zG16_10.symm, ((en rfl (en rfl (en rfl (en rfl (en rfl s25)))))).trans zG16_25.symm, ((en rfl (en rfl (en rfl (en rfl (en rfl s32)))))).trans zG16_32.symm, ((en rfl (en rfl (en rfl (en rfl (en rfl s33)))))).trans zG16_33.symm, ((en rfl (en rfl (en rfl (en rfl (en rfl s34)))))).trans zG16_34.symm, ((en rfl (en rfl (en rfl (en rfl (en rfl s35)))))).trans zG16_35.symm⟩⟩
              ·
                skip
                refine xc_seq (fun K hK36 => ?_)
                refine xc_seq (fun K hK37 => ?_)
                subst hr
                have hno := hrf rfl
                have hS := h
                have hS := (hS.f1).drop
                have hS := (hS.f1).drop
                refine xc_plan 11 [(0, 2), (1, 2), (2, 1), (3, 2), (4, 2), (5, 1), (9, 2), (6, 0), (7, 0), (8, 2), (10, 2)] (by kernel_rfl) rfl (by kernel_rfl) hS ?_
                have h := h.drew
                refine xp_read (i := 0) rfl (fun W => r_move s3) rfl (fun _ _ _ hh => by first | exact bodyR_np hh | exact bodyY_np hh | exact hh) ?_
                refine xp_read (i := 1) rfl (fun W => r_fieldAddr (o' := 1) Try.underlying40 rfl Try.sizeOf3 rfl (en rfl s8) rfl) rfl (fun _ _ _ hh => by first | exact bodyR_np hh | exact bodyY_np hh | exact hh) ?_
                refine xp_load (i := 2) rfl (fun W hW => r_load hW 0 rfl Try.isAgg3 es gc1) rfl (fun _ _ _ hh => by first | exact bodyR_np hh | exact bodyY_np hh | exact hh) ?_
                refine xp_read (i := 3) rfl (fun W => r_move (en rfl (en rfl (en rfl s4)))) rfl (fun _ _ _ hh => by first | exact bodyR_np hh | exact bodyY_np hh | exact hh) ?_
                refine xp_read (i := 4) rfl (fun W => r_fieldAddr (o' := 2) Try.underlying40 rfl Try.sizeOf2 rfl (en rfl (en rfl (en rfl (en rfl s8)))) rfl) rfl (fun _ _ _ hh => by first | exact bodyR_np hh | exact bodyY_np hh | exact hh) ?_
                refine xp_load (i := 5) rfl (fun W hW => r_load hW 0 rfl Try.isAgg2 es gc2) rfl (fun _ _ _ hh => by first | exact bodyR_np hh | exact bodyY_np hh | exact hh) ?_
                refine xp_read (i := 9) rfl (fun W => r_move (en rfl (en rfl (en rfl (en rfl (en rfl (en rfl s10))))))) rfl (fun _ _ _ hh => by first | exact bodyR_np hh | exact bodyY_np hh | exact hh) ?_
                refine xp_enter (i := 6) rfl (r_callv Try.call14 (en rfl (en rfl (en rfl es))) (.cons (en rfl es) .nil)) rfl (text_ok h) ?_
                rintro _ w ⟨rfl, h⟩
                refine ⟨(fun _ => ((h.f1).drop.f1).drop), ?_⟩
                have h := h.f2
                refine xp_enter (i := 7) rfl (r_call Try.call17 (.cons (en rfl (en rfl (en rfl (en rfl (en rfl (en rfl (en rfl es))))))) (.cons (en rfl (en rfl (en rfl (en rfl (en rfl es))))) (.cons es .nil)))) rfl (S.put_no (x := txt o.2.2) (hK.no hno) h) ?_
                rintro _ w ⟨rfl, h⟩
                refine ⟨(fun _ => ((h.f0).drop.f1).drop), ?_⟩
                refine xp_read (i := 8) rfl (fun W => r_eql es ec (r := false) rfl) rfl (fun _ _ _ hh => by first | exact bodyR_np hh | exact bodyY_np hh | exact hh) ?_
                refine xp_read (i := 10) rfl (fun W => r_neb Try.underlying4 es (en rfl (en rfl (en rfl es))) (r := false) rfl) rfl (fun _ _ _ hh => by first | exact bodyR_np hh | exact bodyY_np hh | exact hh) ?_
                refine xp_nil ?_
                refine hK37 _ _ ?_
                refine xc_gen (fun g hg => ?_)
                have s0 := (hg 0).trans (en rfl (en rfl (en rfl (en rfl (en rfl (en rfl (en rfl (en rfl (en rfl (en rfl (en rfl s0)))))))))))
                have s3 := (hg 3).trans (en rfl (en rfl (en rfl (en rfl (en rfl (en rfl (en rfl (en rfl (en rfl (en rfl (en rfl s3)))))))))))
                have s4 := (hg 4).trans (en rfl (en rfl (en rfl (en rfl (en rfl (en rfl (en rfl (en rfl (en rfl (en rfl (en rfl s4)))))))))))
                have s5 := (hg 5).trans (en rfl (en rfl (en rfl (en rfl (en rfl (en rfl (en rfl (en rfl (en rfl (en rfl (en rfl s5)))))))))))
                have s6 := (hg 6).trans (en rfl (en rfl (en rfl (en rfl (en rfl (en rfl (en rfl (en rfl (en rfl (en rfl (en rfl s6)))))))))))
                have s8 := (hg 8).trans (en rfl (en rfl (en rfl (en rfl (en rfl (en rfl (en rfl (en rfl (en rfl (en rfl (en rfl s8)))))))))))
                have s10 := (hg 10).trans (en rfl (en rfl (en rfl (en rfl (en rfl (en rfl (en rfl (en rfl (en rfl (en rfl (en rfl s10)))))))))))
                have s25 := (hg 25).trans (en rfl (en rfl (en rfl (en rfl (en rfl (en rfl (en rfl (en rfl (en rfl (en rfl (en rfl s25)))))))))))
                have s32 := (hg 32).trans (en rfl (en rfl (en rfl (en rfl (en rfl (en rfl (en rfl (en rfl (en rfl (en rfl (en rfl s32)))))))))))
                have s33 := (hg 33).trans (en rfl (en rfl (en rfl (en rfl (en rfl (en rfl (en rfl (en rfl (en rfl (en rfl (en rfl s33)))))))))))
                have s34 := (hg 34).trans (en rfl (en rfl (en rfl (en rfl (en rfl (en rfl (en rfl (en rfl (en rfl (en rfl (en rfl s34)))))))))))
                have s35 := (hg 35).trans (en rfl (en rfl (en rfl (en rfl (en rfl (en rfl (en rfl (en rfl (en rfl (en rfl (en rfl s35)))))))))))
                have s46 := (hg 46).trans (en rfl (en rfl (en rfl (en rfl (en rfl (en rfl (en rfl (en rfl (en rfl (en rfl (en rfl s46)))))))))))
                have s47 := (hg 47).trans (en rfl (en rfl (en rfl (en rfl (en rfl (en rfl (en rfl (en rfl (en rfl (en rfl (en rfl s47)))))))))))
                have s70 := (hg 70).trans (en rfl (en rfl (en rfl (en rfl (en rfl (en rfl (en rfl (en rfl (en rfl (en rfl (en rfl s70)))))))))))
                have s82 := (hg 82).trans (en rfl (en rfl (en rfl (en rfl (en rfl (en rfl (en rfl (en rfl (en rfl (en rfl (en rfl s82)))))))))))
                have s94 := (hg 94).trans es
                clear hg
                refine xc_cond s94 (fun hc => by cases hc) (fun _ => ?_)
                refine xc_skip ?_
                refine hK36 _ _ ?_
                refine xc_seq (fun K hK38 => ?_)
                refine xc_region ?_
                refine x_val (r_move s10) (nd_of rfl) rfl ?_
                refine xw_nil ?_
                refine hK38 _ _ ?_
                refine xc_gen (fun g hg => ?_)
                have s0 := (hg 0).trans (en rfl s0)
                have s3 := (hg 3).trans (en rfl s3)
                have s4 := (hg 4).trans (en rfl s4)
                have s5 := (hg 5).trans (en rfl s5)
                have s6 := (hg 6).trans (en rfl s6)
                have s8 := (hg 8).trans (en rfl s8)
                have s10 := (hg 10).trans (en rfl s10)
                have s25 := (hg 25).trans (en rfl s25)
                have s32 := (hg 32).trans (en rfl s32)
                have s33 := (hg 33).trans (en rfl s33)
                have s34 := (hg 34).trans (en rfl s34)
                have s35 := (hg 35).trans (en rfl s35)
                have s46 := (hg 46).trans (en rfl s46)
                have s47 := (hg 47).trans (en rfl s47)
                have s70 := (hg 70).trans (en rfl s70)
                have s82 := (hg 82).trans (en rfl s82)
                have s94 := (hg 94).trans (en rfl s94)
                have s95 := (hg 95).trans es
                clear hg
                refine xc_cond s95 (fun hc => by cases hc) (fun _ => ?_)
                refine xc_skip ?_
                have h := h.f2
                have h := h.f2
                exact ⟨⟨_, _, l, clock, by omega, by omega, hK, hok, h⟩, ⟨(s0).trans zG16_0.symm, (s3).trans zG16_3.symm, (s4).trans zG16_4.symm, (s5).trans zG16_5.symm, (s6).trans zG16_6.symm, (s8).trans zG16_8.symm, (s10).trans zG16_10.symm, (s25).trans zG16_25.symm, (s32).trans zG16_32.symm, (s33).trans zG16_33.symm, (s34).trans zG16_34.symm, (s35).trans zG16_35.symm⟩⟩
            ·
              refine xc_skip ?_
              exact ⟨⟨_, _, l, clock, by omega, by omega, hK, hok, h⟩, ⟨(s0).trans zG16_0.symm, (s3).trans zG16_3.symm, (s4).trans zG16_4.symm, (s5).trans zG16_5.symm, (s6).trans zG16_6.symm, (s8).trans zG16_8.symm, (s10).trans zG16_10.symm, (s25).trans zG16_25.symm, (s32).trans zG16_32.symm, (s33).trans zG16_33.symm, (s34).trans zG16_34.symm, (s35).trans zG16_35.symm⟩⟩
      ·
        rintro g w ⟨⟨pl2, fr2, l2, clock2, hmx, hpl2, hK2, hok2, h⟩, ⟨y0, y3, y4, y5, y6, y8, y10, y25, y32, y33, y34, y35⟩⟩
        have s0 := y0.trans zG16_0
        have s3 := y3.trans zG16_3
        have s4 := y4.trans zG16_4
        have s5 := y5.trans zG16_5
        have s6 := y6.trans zG16_6
        have s8 := y8.trans zG16_8
        have s10 := y10.trans zG16_10
        have s25 := y25.trans zG16_25
        have s32 := y32.trans zG16_32
        have s33 := y33.trans zG16_33
        have s34 := y34.trans zG16_34
        have s35 := y35.trans zG16_35
        refine xc_seq (fun K hK39 => ?_)
        have hcnt := hK2.count
        refine xc_region ?_
        refine x_val (r_move s6) (nd_of rfl) rfl ?_
        refine x_val (r_move (en rfl s5)) (nd_of rfl) rfl ?_
        refine x_val (r_lenM es (run_lenM h 1 rfl Try.underlying38)) (nd_of rfl) rfl ?_
        refine x_val (r_max (en rfl (en rfl es)) es (show _ = ((pl2.length : Int) : Int) from by split <;> omega)) (nd_of rfl) rfl ?_
        refine x_val (r_assign es) (nd_of rfl) rfl ?_
        refine xw_nil ?_
        refine hK39 _ _ ?_
        refine xc_gen (fun g hg => ?_)
        have s0 := (hg 0).trans (en rfl (en rfl (en rfl (en rfl (en rfl s0)))))
        have s3 := (hg 3).trans (en rfl (en rfl (en rfl (en rfl (en rfl s3)))))
        have s4 := (hg 4).trans (en rfl (en rfl (en rfl (en rfl (en rfl s4)))))
        have s5 := (hg 5).trans (en rfl (en rfl (en rfl (en rfl (en rfl s5)))))
        have s6 := (hg 6).trans es
        have s8 := (hg 8).trans (en rfl (en rfl (en rfl (en rfl (en rfl s8)))))
        have s10 := (hg 10).trans (en rfl (en rfl (en rfl (en rfl (en rfl s10)))))
        have s25 := (hg 25).trans (en rfl (en rfl (en rfl (en rfl (en rfl s25)))))
        have s32 := (hg 32).trans (en rfl (en rfl (en rfl (en rfl (en rfl s32)))))
        have s33 := (hg 33).trans (en rfl (en rfl (en rfl (en rfl (en rfl s33)))))
        have s34 := (hg 34).trans (en rfl (en rfl (en rfl (en rfl (en rfl s34)))))
        have s35 := (hg 35).trans (en rfl (en rfl (en rfl (en rfl (en rfl s35)))))
        clear hg
        refine xc_seq (fun K hK40 => ?_)
        refine xc_seq (fun K hK41 => ?_)
        have h := h.f1
        refine xc_region ?_
        refine x_val (r_move s5) (nd_of rfl) rfl ?_
        refine x_range h Try.underlying38 es rfl ?_; intro it w h
        refine xw_nil ?_
        refine hK41 _ _ ?_
        refine xc_gen (fun g hg => ?_)
        have s0 := (hg 0).trans (en rfl (en rfl s0))
        have s3 := (hg 3).trans (en rfl (en rfl s3))
        have s4 := (hg 4).trans (en rfl (en rfl s4))
        have s5 := (hg 5).trans (en rfl (en rfl s5))
        have s6 := (hg 6).trans (en rfl (en rfl s6))
        have s8 := (hg 8).trans (en rfl (en rfl s8))
        have s10 := (hg 10).trans (en rfl (en rfl s10))
        have s25 := (hg 25).trans (en rfl (en rfl s25))
        have s32 := (hg 32).trans (en rfl (en rfl s32))
        have s33 := (hg 33).trans (en rfl (en rfl s33))
        have s34 := (hg 34).trans (en rfl (en rfl s34))
        have s35 := (hg 35).trans (en rfl (en rfl s35))
        have s106 := (hg 106).trans es
        clear hg
        refine xc_block ?_
        obtain ⟨G42, hG42⟩ : ∃ g0 : Nat → Value, g0 = g := ⟨_, rfl⟩
        have zG42_0 : G42 0 = _ := (congrFun hG42 0).trans s0
        have zG42_3 : G42 3 = _ := (congrFun hG42 3).trans s3
        have zG42_4 : G42 4 = _ := (congrFun hG42 4).trans s4
        have zG42_5 : G42 5 = _ := (congrFun hG42 5).trans s5
        have zG42_6 : G42 6 = _ := (congrFun hG42 6).trans s6
        have zG42_8 : G42 8 = _ := (congrFun hG42 8).trans s8
        have zG42_10 : G42 10 = _ := (congrFun hG42 10).trans s10
        have zG42_25 : G42 25 = _ := (congrFun hG42 25).trans s25
        have zG42_32 : G42 32 = _ := (congrFun hG42 32).trans s32
        have zG42_33 : G42 33 = _ := (congrFun hG42 33).trans s33
        have zG42_34 : G42 34 = _ := (congrFun hG42 34).trans s34
        have zG42_35 : G42 35 = _ := (congrFun hG42 35).trans s35
        have zG42_106 : G42 106 = _ := (congrFun hG42 106).trans s106
        refine xc_loop (fun m f w => (∃ (seen : List Nat), m = (leftK l2 seen).length ∧ SatL E w (IterS it mm clock2 seen :: MapS mm l2 clock2 :: Cells b8 #[.int .i64 o.1, .int .i64 o.2.1, .int .i64 o.2.2] 40 :: S.Ar ba pl2 fr2 :: Old W :: R)) ∧ (f 0 = G42 0 ∧ f 3 = G42 3 ∧ f 4 = G42 4 ∧ f 5 = G42 5 ∧ f 6 = G42 6 ∧ f 8 = G42 8 ∧ f 10 = G42 10 ∧ f 25 = G42 25 ∧ f 32 = G42 32 ∧ f 33 = G42 33 ∧ f 34 = G42 34 ∧ f 35 = G42 35 ∧ f 106 = G42 106)) ((leftK l2 []).length) ⟨⟨[], rfl, h⟩, ⟨congrFun hG42.symm 0, congrFun hG42.symm 3, congrFun hG42.symm 4, congrFun hG42.symm 5, congrFun hG42.symm 6, congrFun hG42.symm 8, congrFun hG42.symm 10, congrFun hG42.symm 25, congrFun hG42.symm 32, congrFun hG42.symm 33, congrFun hG42.symm 34, congrFun hG42.symm 35, congrFun hG42.symm 106⟩⟩ ?_
        rintro m g w ⟨⟨seen, hm2, h⟩, ⟨y0, y3, y4, y5, y6, y8, y10, y25, y32, y33, y34, y35, y106⟩⟩
        have s0 := y0.trans zG42_0
        have s3 := y3.trans zG42_3
        have s4 := y4.trans zG42_4
        have s5 := y5.trans zG42_5
        have s6 := y6.trans zG42_6
        have s8 := y8.trans zG42_8
        have s10 := y10.trans zG42_10
        have s25 := y25.trans zG42_25
        have s32 := y32.trans zG42_32
        have s33 := y33.trans zG42_33
        have s34 := y34.trans zG42_34
        have s35 := y35.trans zG42_35
        have s106 := y106.trans zG42_106
        rcases run_nextM (P := Try.prog) (ty := 0) h hok2 with hnx | ⟨p, hp, w2, hnx, h⟩
        ·
          skip
          refine xc_seq (fun K hK43 => ?_)
          refine xc_region ?_
          refine x_val (r_next s106 hnx) (nd_of rfl) rfl ?_
          have h := (h.f0).drop
          refine x_val (r_extract es gc0) (nd_of rfl) rfl ?_
          refine xw_nil ?_
          refine hK43 _ _ ?_
          refine xc_gen (fun g hg => ?_)
          have s0 := (hg 0).trans (en rfl (en rfl s0))
          have s3 := (hg 3).trans (en rfl (en rfl s3))
          have s4 := (hg 4).trans (en rfl (en rfl s4))
          have s5 := (hg 5).trans (en rfl (en rfl s5))
          have s6 := (hg 6).trans (en rfl (en rfl s6))
          have s8 := (hg 8).trans (en rfl (en rfl s8))
          have s10 := (hg 10).trans (en rfl (en rfl s10))
          have s25 := (hg 25).trans (en rfl (en rfl s25))
          have s32 := (hg 32).trans (en rfl (en rfl s32))
          have s33 := (hg 33).trans (en rfl (en rfl s33))
          have s34 := (hg 34).trans (en rfl (en rfl s34))
          have s35 := (hg 35).trans (en rfl (en rfl s35))
          have s106 := (hg 106).trans (en rfl (en rfl s106))
          have s108 := (hg 108).trans es
          clear hg
          refine xc_seq (fun K hK44 => ?_)
          refine xc_cond s108 (fun hc => by cases hc) (fun _ => ?_)
          refine xc_exit ?_
          refine hK40 _ _ ?_
          refine xc_seq (fun K hK45 => ?_)
          refine xc_region ?_
          refine x_val (r_move s3) (nd_of rfl) rfl ?_
          have h := h.f2
          refine x_enter (r_call Try.call19 (.cons es .nil)) (nd_of rfl) rfl (S.len_ok h (by omega)) ?_
          rintro _ w ⟨rfl, h⟩
          have h := h.f1
          have h := h.f2
          refine x_val (r_move (en rfl (en rfl s5))) (nd_of rfl) rfl ?_
          refine x_val (r_lenM es (run_lenM h 1 rfl Try.underlying38)) (nd_of rfl) rfl ?_
          refine x_val (r_neq (en rfl (en rfl es)) es (decide_eq_false (by omega))) (nd_of rfl) rfl ?_
          refine x_val (r_move es) (nd_of rfl) rfl ?_
          refine x_take (d := 132) rfl rfl es ?_
          refine x_val (r_move (en rfl (en rfl (en rfl (en rfl (en rfl (en rfl s3))))))) (nd_of rfl) rfl ?_
          refine x_take (d := 132) rfl rfl (en rfl es) ?_
          have h := h.f2
          refine x_enter (r_call Try.call20 (.cons es .nil)) (nd_of rfl) rfl (S.cap_ok h) ?_
          rintro _ w ⟨rfl, h⟩
          refine x_take (d := 132) rfl rfl (en rfl (en rfl es)) ?_
          refine x_val (r_move (en rfl (en rfl (en rfl (en rfl (en rfl (en rfl (en rfl (en rfl s6))))))))) (nd_of rfl) rfl ?_
          refine x_take (d := 132) rfl rfl (en rfl (en rfl (en rfl es))) ?_
          refine x_val (r_neq (en rfl es) es (decide_eq_false (by simp))) (nd_of rfl) rfl ?_
          have h := (h.f1).drop
          have h := h.f1
          refine x_val (r_pick_f (en rfl (en rfl (en rfl (en rfl es)))) es) (nd_of rfl) rfl ?_
          refine xw_nil ?_
          refine hK45 _ _ ?_
          refine xc_gen (fun g hg => ?_)
          have s0 := (hg 0).trans (en rfl (en rfl (en rfl (en rfl (en rfl (en rfl (en rfl (en rfl (en rfl (en rfl (en rfl s0)))))))))))
          have s3 := (hg 3).trans (en rfl (en rfl (en rfl (en rfl (en rfl (en rfl (en rfl (en rfl (en rfl (en rfl (en rfl s3)))))))))))
          have s4 := (hg 4).trans (en rfl (en rfl (en rfl (en rfl (en rfl (en rfl (en rfl (en rfl (en rfl (en rfl (en rfl s4)))))))))))
          have s5 := (hg 5).trans (en rfl (en rfl (en rfl (en rfl (en rfl (en rfl (en rfl (en rfl (en rfl (en rfl (en rfl s5)))))))))))
          have s6 := (hg 6).trans (en rfl (en rfl (en rfl (en rfl (en rfl (en rfl (en rfl (en rfl (en rfl (en rfl (en rfl s6)))))))))))
          have s8 := (hg 8).trans (en rfl (en rfl (en rfl (en rfl (en rfl (en rfl (en rfl (en rfl (en rfl (en rfl (en rfl s8)))))))))))
          have s10 := (hg 10).trans (en rfl (en rfl (en rfl (en rfl (en rfl (en rfl (en rfl (en rfl (en rfl (en rfl (en rfl s10)))))))))))
          have s25 := (hg 25).trans (en rfl (en rfl (en rfl (en rfl (en rfl (en rfl (en rfl (en rfl (en rfl (en rfl (en rfl s25)))))))))))
          have s32 := (hg 32).trans (en rfl (en rfl (en rfl (en rfl (en rfl (en rfl (en rfl (en rfl (en rfl (en rfl (en rfl s32)))))))))))
          have s33 := (hg 33).trans (en rfl (en rfl (en rfl (en rfl (en rfl (en rfl (en rfl (en rfl (en rfl (en rfl (en rfl s33)))))))))))
          have s34 := (hg 34).trans (en rfl (en rfl (en rfl (en rfl (en rfl (en rfl (en rfl (en rfl (en rfl (en rfl (en rfl s34)))))))))))
          have s35 := (hg 35).trans (en rfl (en rfl (en rfl (en rfl (en rfl (en rfl (en rfl (en rfl (en rfl (en rfl (en rfl s35)))))))))))
          have s106 := (hg 106).trans (en rfl (en rfl (en rfl (en rfl (en rfl (en rfl (en rfl (en rfl (en rfl (en rfl (en rfl s106)))))))))))
          have s108 := (hg 108).trans (en rfl (en rfl (en rfl (en rfl (en rfl (en rfl (en rfl (en rfl (en rfl (en rfl (en rfl s108)))))))))))
          have s137 := (hg 137).trans es
          clear hg
          refine xc_cond s137 (fun hc => by cases hc) (fun _ => ?_)
          refine xc_skip ?_
          refine hK13 _ _ ?_
          refine xc_region ?_
          refine x_val (r_add s34 ec (show _ = (((n + 1 : Nat) : Int) : Int) from by omega) (by unfold I64; omega)) (nd_of rfl) rfl ?_
          refine x_val (r_move es) (nd_of rfl) rfl ?_
          refine xw_nil ?_
          exact ⟨os.length - (n + 1), by omega, ⟨n + 1, pl2, fr2, l2, clock2, rfl, by omega, hpl2, hK2, hok2, es, (en rfl (en rfl s6)), h⟩, ⟨((en rfl (en rfl s0))).trans zG10_0.symm, ((en rfl (en rfl s3))).trans zG10_3.symm, ((en rfl (en rfl s4))).trans zG10_4.symm, ((en rfl (en rfl s5))).trans zG10_5.symm, ((en rfl (en rfl s25))).trans zG10_25.symm, ((en rfl (en rfl s32))).trans zG10_32.symm, ((en rfl (en rfl s33))).trans zG10_33.symm⟩⟩
        ·
          skip
          refine xc_seq (fun K hK46 => ?_)
          have hpl := (List.mem_filter.1 hp).1
          have hlt := left_lt hp
          obtain ⟨i, hi, hpi⟩ := hK2.there p.1 p.2.1 ⟨p.2.2, hpl⟩
          refine xc_region ?_
          refine x_val (r_next s106 hnx) (nd_of rfl) rfl ?_
          refine x_val (r_extract es gc0) (nd_of rfl) rfl ?_
          refine xw_nil ?_
          refine hK46 _ _ ?_
          refine xc_gen (fun g hg => ?_)
          have s0 := (hg 0).trans (en rfl (en rfl s0))
          have s3 := (hg 3).trans (en rfl (en rfl s3))
          have s4 := (hg 4).trans (en rfl (en rfl s4))
          have s5 := (hg 5).trans (en rfl (en rfl s5))
          have s6 := (hg 6).trans (en rfl (en rfl s6))
          have s8 := (hg 8).trans (en rfl (en rfl s8))
          have s10 := (hg 10).trans (en rfl (en rfl s10))
          have s25 := (hg 25).trans (en rfl (en rfl s25))
          have s32 := (hg 32).trans (en rfl (en rfl s32))
          have s33 := (hg 33).trans (en rfl (en rfl s33))
          have s34 := (hg 34).trans (en rfl (en rfl s34))
          have s35 := (hg 35).trans (en rfl (en rfl s35))
          have s106 := (hg 106).trans (en rfl (en rfl s106))
          have s108 := (hg 108).trans es
          clear hg
          refine xc_seq (fun K hK47 => ?_)
          refine xc_cond s108 (fun _ => ?_) (fun hc => by cases hc)
          refine xc_skip ?_
          refine hK47 _ _ ?_
          refine xc_block ?_
          refine xc_seq (fun K hK48 => ?_)
          refine xc_region ?_
          refine x_val (r_entry s106 (run_entryM h hok2 hpl)) (nd_of rfl) rfl ?_
          refine x_val (r_extract es gc0) (nd_of rfl) rfl ?_
          refine x_val (r_extract (en rfl es) gc1) (nd_of rfl) rfl ?_
          refine x_val (r_assign (en rfl es)) (nd_of rfl) rfl ?_
          refine x_val (r_assign (en rfl es)) (nd_of rfl) rfl ?_
          refine xw_nil ?_
          refine hK48 _ _ ?_
          refine xc_gen (fun g hg => ?_)
          have s0 := (hg 0).trans (en rfl (en rfl (en rfl (en rfl (en rfl s0)))))
          have s3 := (hg 3).trans (en rfl (en rfl (en rfl (en rfl (en rfl s3)))))
          have s4 := (hg 4).trans (en rfl (en rfl (en rfl (en rfl (en rfl s4)))))
          have s5 := (hg 5).trans (en rfl (en rfl (en rfl (en rfl (en rfl s5)))))
          have s6 := (hg 6).trans (en rfl (en rfl (en rfl (en rfl (en rfl s6)))))
          have s8 := (hg 8).trans (en rfl (en rfl (en rfl (en rfl (en rfl s8)))))
          have s10 := (hg 10).trans (en rfl (en rfl (en rfl (en rfl (en rfl s10)))))
          have s14 := (hg 14).trans (en rfl es)
          have s15 := (hg 15).trans es
          have s25 := (hg 25).trans (en rfl (en rfl (en rfl (en rfl (en rfl s25)))))
          have s32 := (hg 32).trans (en rfl (en rfl (en rfl (en rfl (en rfl s32)))))
          have s33 := (hg 33).trans (en rfl (en rfl (en rfl (en rfl (en rfl s33)))))
          have s34 := (hg 34).trans (en rfl (en rfl (en rfl (en rfl (en rfl s34)))))
          have s35 := (hg 35).trans (en rfl (en rfl (en rfl (en rfl (en rfl s35)))))
          have s106 := (hg 106).trans (en rfl (en rfl (en rfl (en rfl (en rfl s106)))))
          have s108 := (hg 108).trans (en rfl (en rfl (en rfl (en rfl (en rfl s108)))))
          clear hg
          refine xc_seq (fun K hK49 => ?_)
          refine xc_region ?_
          refine x_val (r_move s3) (nd_of rfl) rfl ?_
          refine x_val (r_move (en rfl s14)) (nd_of rfl) rfl ?_
          have h := h.f3
          refine x_enter (r_call Try.call18 (.cons (en rfl es) (.cons es .nil))) (nd_of rfl) rfl (at_int hi hpi h) ?_
          rintro _ w ⟨rfl, h⟩
          refine x_val (r_move es) (nd_of rfl) rfl ?_
          refine x_val (r_extract es gc0) (nd_of rfl) rfl ?_
          refine x_val (r_extract (en rfl es) gc1) (nd_of rfl) rfl ?_
          refine x_val (r_assign (en rfl es)) (nd_of rfl) rfl ?_
          refine x_val (r_assign (en rfl es)) (nd_of rfl) rfl ?_
          refine xw_nil ?_
          refine hK49 _ _ ?_
          refine xc_gen (fun g hg => ?_)
          have s0 := (hg 0).trans (en rfl (en rfl (en rfl (en rfl (en rfl (en rfl (en rfl (en rfl s0))))))))
          have s3 := (hg 3).trans (en rfl (en rfl (en rfl (en rfl (en rfl (en rfl (en rfl (en rfl s3))))))))
          have s4 := (hg 4).trans (en rfl (en rfl (en rfl (en rfl (en rfl (en rfl (en rfl (en rfl s4))))))))
          have s5 := (hg 5).trans (en rfl (en rfl (en rfl (en rfl (en rfl (en rfl (en rfl (en rfl s5))))))))
          have s6 := (hg 6).trans (en rfl (en rfl (en rfl (en rfl (en rfl (en rfl (en rfl (en rfl s6))))))))
          have s8 := (hg 8).trans (en rfl (en rfl (en rfl (en rfl (en rfl (en rfl (en rfl (en rfl s8))))))))
          have s10 := (hg 10).trans (en rfl (en rfl (en rfl (en rfl (en rfl (en rfl (en rfl (en rfl s10))))))))
          have s14 := (hg 14).trans (en rfl (en rfl (en rfl (en rfl (en rfl (en rfl (en rfl (en rfl s14))))))))
          have s15 := (hg 15).trans (en rfl (en rfl (en rfl (en rfl (en rfl (en rfl (en rfl (en rfl s15))))))))
          have s16 := (hg 16).trans (en rfl es)
          have s17 := (hg 17).trans es
          have s25 := (hg 25).trans (en rfl (en rfl (en rfl (en rfl (en rfl (en rfl (en rfl (en rfl s25))))))))
          have s32 := (hg 32).trans (en rfl (en rfl (en rfl (en rfl (en rfl (en rfl (en rfl (en rfl s32))))))))
          have s33 := (hg 33).trans (en rfl (en rfl (en rfl (en rfl (en rfl (en rfl (en rfl (en rfl s33))))))))
          have s34 := (hg 34).trans (en rfl (en rfl (en rfl (en rfl (en rfl (en rfl (en rfl (en rfl s34))))))))
          have s35 := (hg 35).trans (en rfl (en rfl (en rfl (en rfl (en rfl (en rfl (en rfl (en rfl s35))))))))
          have s106 := (hg 106).trans (en rfl (en rfl (en rfl (en rfl (en rfl (en rfl (en rfl (en rfl s106))))))))
          have s108 := (hg 108).trans (en rfl (en rfl (en rfl (en rfl (en rfl (en rfl (en rfl (en rfl s108))))))))
          clear hg
          refine xc_seq (fun K hK50 => ?_)
          refine xc_region ?_
          refine x_val (r_move s17) (nd_of rfl) rfl ?_
          refine x_val (r_neq es ec (r := false) rfl) (nd_of rfl) rfl ?_
          refine x_val (r_move es) (nd_of rfl) rfl ?_
          refine x_take (d := 120) rfl rfl es ?_
          refine x_val (r_move (en rfl (en rfl (en rfl s16)))) (nd_of rfl) rfl ?_
          refine x_take (d := 120) rfl rfl (en rfl es) ?_
          refine x_val (r_move (en rfl (en rfl (en rfl (en rfl s4))))) (nd_of rfl) rfl ?_
          refine x_take (d := 120) rfl rfl (en rfl (en rfl es)) ?_
          refine x_val (r_move (en rfl (en rfl (en rfl (en rfl (en rfl s15)))))) (nd_of rfl) rfl ?_
          refine x_take (d := 120) rfl rfl (en rfl (en rfl (en rfl es))) ?_
          refine x_enter (r_callv Try.call14 (en rfl es) (.cons es .nil)) (nd_of rfl) rfl (text_ok h) ?_
          rintro _ w ⟨rfl, h⟩
          refine x_take (d := 120) rfl rfl (en rfl (en rfl (en rfl (en rfl es)))) ?_
          refine x_val (r_nes (en rfl (en rfl (en rfl es))) es (r := false) (by simp)) (nd_of rfl) rfl ?_
          refine x_val (r_pick_f (en rfl (en rfl (en rfl (en rfl (en rfl es))))) es) (nd_of rfl) rfl ?_
          refine xw_nil ?_
          refine hK50 _ _ ?_
          refine xc_gen (fun g hg => ?_)
          have s0 := (hg 0).trans (en rfl (en rfl (en rfl (en rfl (en rfl (en rfl (en rfl (en rfl (en rfl s0)))))))))
          have s3 := (hg 3).trans (en rfl (en rfl (en rfl (en rfl (en rfl (en rfl (en rfl (en rfl (en rfl s3)))))))))
          have s4 := (hg 4).trans (en rfl (en rfl (en rfl (en rfl (en rfl (en rfl (en rfl (en rfl (en rfl s4)))))))))
          have s5 := (hg 5).trans (en rfl (en rfl (en rfl (en rfl (en rfl (en rfl (en rfl (en rfl (en rfl s5)))))))))
          have s6 := (hg 6).trans (en rfl (en rfl (en rfl (en rfl (en rfl (en rfl (en rfl (en rfl (en rfl s6)))))))))
          have s8 := (hg 8).trans (en rfl (en rfl (en rfl (en rfl (en rfl (en rfl (en rfl (en rfl (en rfl s8)))))))))
          have s10 := (hg 10).trans (en rfl (en rfl (en rfl (en rfl (en rfl (en rfl (en rfl (en rfl (en rfl s10)))))))))
          have s14 := (hg 14).trans (en rfl (en rfl (en rfl (en rfl (en rfl (en rfl (en rfl (en rfl (en rfl s14)))))))))
          have s15 := (hg 15).trans (en rfl (en rfl (en rfl (en rfl (en rfl (en rfl (en rfl (en rfl (en rfl s15)))))))))
          have s16 := (hg 16).trans (en rfl (en rfl (en rfl (en rfl (en rfl (en rfl (en rfl (en rfl (en rfl s16)))))))))
          have s17 := (hg 17).trans (en rfl (en rfl (en rfl (en rfl (en rfl (en rfl (en rfl (en rfl (en rfl s17)))))))))
          have s25 := (hg 25).trans (en rfl (en rfl (en rfl (en rfl (en rfl (en rfl (en rfl (en rfl (en rfl s25)))))))))
          have s32 := (hg 32).trans (en rfl (en rfl (en rfl (en rfl (en rfl (en rfl (en rfl (en rfl (en rfl s32)))))))))
          have s33 := (hg 33).trans (en rfl (en rfl (en rfl (en rfl (en rfl (en rfl (en rfl (en rfl (en rfl s33)))))))))
          have s34 := (hg 34).trans (en rfl (en rfl (en rfl (en rfl (en rfl (en rfl (en rfl (en rfl (en rfl s34)))))))))
          have s35 := (hg 35).trans (en rfl (en rfl (en rfl (en rfl (en rfl (en rfl (en rfl (en rfl (en rfl s35)))))))))
          have s106 := (hg 106).trans (en rfl (en rfl (en rfl (en rfl (en rfl (en rfl (en rfl (en rfl (en rfl s106)))))))))
          have s108 := (hg 108).trans (en rfl (en rfl (en rfl (en rfl (en rfl (en rfl (en rfl (en rfl (en rfl s108)))))))))
          have s126 := (hg 126).trans es
          clear hg
          refine xc_cond s126 (fun hc => by cases hc) (fun _ => ?_)
          refine xc_skip ?_
          have h := h.f3
          have h := h.f3
          have h := h.f3
          exact ⟨(leftK l2 (seen ++ [p.2.2])).length, by omega, ⟨seen ++ [p.2.2], rfl, h⟩, ⟨(s0).trans zG42_0.symm, (s3).trans zG42_3.symm, (s4).trans zG42_4.symm, (s5).trans zG42_5.symm, (s6).trans zG42_6.symm, (s8).trans zG42_8.symm, (s10).trans zG42_10.symm, (s25).trans zG42_25.symm, (s32).trans zG42_32.symm, (s33).trans zG42_33.symm, (s34).trans zG42_34.symm, (s35).trans zG42_35.symm, (s106).trans zG42_106.symm⟩⟩
  ·
    refine xc_exit ?_
    refine hK8 _ _ ?_
    refine xc_seq (fun K hK51 => ?_)
    refine xc_region ?_
    refine x_enter (r_call Try.call7 .nil) (nd_of rfl) rfl (known_ok h) ?_
    rintro _ w ⟨rfl, h⟩
    refine x_val (r_assign es) (nd_of rfl) rfl ?_
    refine xw_nil ?_
    refine hK51 _ _ ?_
    refine xc_gen (fun g hg => ?_)
    have s0 := (hg 0).trans (en rfl (en rfl s0))
    have s2 := (hg 2).trans es
    have s3 := (hg 3).trans (en rfl (en rfl s3))
    have s4 := (hg 4).trans (en rfl (en rfl s4))
    have s5 := (hg 5).trans (en rfl (en rfl s5))
    have s6 := (hg 6).trans (en rfl (en rfl s6))
    have s25 := (hg 25).trans (en rfl (en rfl s25))
    have s32 := (hg 32).trans (en rfl (en rfl s32))
    have s33 := (hg 33).trans (en rfl (en rfl s33))
    have s34 := (hg 34).trans (en rfl (en rfl s34))
    have s35 := (hg 35).trans (en rfl (en rfl s35))
    clear hg
    refine xc_ret ?_
    refine bodyR_1 rfl s2 ?_
    exact ⟨rfl, h.drop.drop⟩
theorem keeps_all (hv : OpsAt W v os) (h : SatL E w (Old W :: R)) : Calls Try.prog 4 #[v] w (Ret fun u w' => u = .bool true ∧ SatL E w' (Old W :: R)) := by
  rcases Nat.lt_or_ge 200 os.length with h1 | h1
  · exact keeps_long hv h1 h
  · exact keeps_ok hv h1 h
end
end Go.Proofs.Ytfmhcefjbghhlaa
