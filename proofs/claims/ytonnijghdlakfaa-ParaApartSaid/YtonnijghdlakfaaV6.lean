/-
ParaApart: the walk.
-/
import Derived.Test.YtonnijghdlakfaaV5
namespace Go.Proofs.Ytonnijghdlakfaa
open Go Go.RowKit
theorem ins_le {L M : List (List Atr)} {i : Int} : L.length ≤ (insL L i M).length := by
  unfold insL
  split
  · rename_i hp
    obtain ⟨h0, h1, h2⟩ := hp
    simp only [List.length_append, List.length_take, List.length_drop]; omega
  · exact Nat.le_refl _
theorem apart_int {L M : List (List Atr)} {X : List Chg} {k m i : Int} (h1 : isPart L.length k m) (h2 : isPart L.length i i) (hmi : m ≤ i) : insL (patL L k m X) i M = patL (insL L i M) k m X := by
  obtain ⟨a0, a1, a2⟩ := h1
  obtain ⟨b0, b1, b2⟩ := h2
  obtain ⟨nk, rfl⟩ := Int.eq_ofNat_of_zero_le a0
  obtain ⟨nm, rfl⟩ := Int.eq_ofNat_of_zero_le (Int.le_trans a0 a1)
  obtain ⟨ni, rfl⟩ := Int.eq_ofNat_of_zero_le b0
  exact apart_eq (by omega) (by omega) (by omega)
section
variable {E : Env} {R : List SProp} {w : World} {W : World} {v : Value} {os : List OpV} {oa ob : OpV}
theorem apart_ok (hv : OpsAt W v os) (ha : OpWf W oa) (hb : OpWf W ob) (hl : os.length * 72 ≤ 140737488351232) (h : SatL E w (Old W :: R)) : Calls Try.prog 4 #[v, .agg (opC oa).toArray, .agg (opC ob).toArray] w (Ret fun u w' => u = .bool true ∧ SatL E w' (Old W :: R)) := by
  have hv0 := hv
  obtain ⟨⟨a, cap, rfl, _, hread⟩, hwfs⟩ := hv
  have hoka : Ok 5 #[.int .i64 oa.kind, .int .i64 oa.k, .int .i64 oa.m, oa.lv, oa.xv] := ha.ok
  have hokb : Ok 5 #[.int .i64 ob.kind, .int .i64 ob.k, .int .i64 ob.m, ob.lv, ob.xv] := hb.ok
  have hall : ∀ o ∈ [oa, ob] ++ os, OpWf W o := by
    intro o ho
    simp at ho
    rcases ho with rfl | rfl | ho
    · exact ha
    · exact hb
    · exact hwfs o ho
  unfold opC
  refine calls_x Try.func4 rfl Try.ntmps4 rfl ?_
  refine xc_gen (fun g hg => ?_)
  have s0 := (hg 0).trans arg0
  have s1 := (hg 1).trans arg1
  have s2 := (hg 2).trans arg2
  clear hg
  refine xc_seq (fun K hK1 => ?_)
  refine xc_region ?_
  refine x_boxA h s1 rfl ?_
  intro b4 w h
  refine x_boxA h (en rfl s2) rfl ?_
  intro b5 w h
  refine x_val (r_assign ec) (nd_of rfl) rfl ?_
  refine xw_nil ?_
  refine hK1 _ _ ?_
  refine xc_gen (fun g hg => ?_)
  have s0 := (hg 0).trans (en rfl (en rfl (en rfl s0)))
  have s1 := (hg 1).trans (en rfl (en rfl (en rfl s1)))
  have s2 := (hg 2).trans (en rfl (en rfl (en rfl s2)))
  have s4 := (hg 4).trans (en rfl (en rfl es))
  have s5 := (hg 5).trans (en rfl es)
  have s6 := (hg 6).trans es
  clear hg
  refine xc_seq (fun K hK2 => ?_)
  refine xc_region ?_
  refine x_enter (r_call Try.call7 .nil) (nd_of rfl) rfl (newP h) ?_
  rintro _ w ⟨bp, rfl, h⟩
  refine x_enter (r_call Try.call7 .nil) (nd_of rfl) rfl (newP h) ?_
  rintro _ w ⟨bq, rfl, h⟩
  refine x_val (r_assign (en rfl es)) (nd_of rfl) rfl ?_
  refine x_val (r_assign (en rfl es)) (nd_of rfl) rfl ?_
  refine xw_nil ?_
  refine hK2 _ _ ?_
  refine xc_gen (fun g hg => ?_)
  have s0 := (hg 0).trans (en rfl (en rfl (en rfl (en rfl s0))))
  have s1 := (hg 1).trans (en rfl (en rfl (en rfl (en rfl s1))))
  have s2 := (hg 2).trans (en rfl (en rfl (en rfl (en rfl s2))))
  have s4 := (hg 4).trans (en rfl (en rfl (en rfl (en rfl s4))))
  have s5 := (hg 5).trans (en rfl (en rfl (en rfl (en rfl s5))))
  have s6 := (hg 6).trans (en rfl (en rfl (en rfl (en rfl s6))))
  have s7 := (hg 7).trans (en rfl es)
  have s8 := (hg 8).trans es
  clear hg
  refine xc_seq (fun K hK3 => ?_)
  refine xc_seq (fun K hK4 => ?_)
  refine xc_region ?_
  refine x_val (r_move s7) (nd_of rfl) rfl ?_
  refine x_val (r_eqnil Try.underlying27 es ec (r := false) rfl) (nd_of rfl) rfl ?_
  refine x_val (r_move es) (nd_of rfl) rfl ?_
  refine x_take (d := 20) rfl rfl es ?_
  refine x_val (r_move (en rfl (en rfl (en rfl s8)))) (nd_of rfl) rfl ?_
  refine x_take (d := 20) rfl rfl (en rfl es) ?_
  refine x_val (r_eqnil Try.underlying27 es ec (r := false) rfl) (nd_of rfl) rfl ?_
  refine x_val (r_pick_f (en rfl (en rfl es)) es) (nd_of rfl) rfl ?_
  refine x_val (r_move es) (nd_of rfl) rfl ?_
  refine x_take (d := 24) rfl rfl es ?_
  refine x_val (r_loadAgg h 3 rfl Try.isAgg26 Try.sizeOf26 (en rfl (en rfl (en rfl (en rfl (en rfl (en rfl (en rfl s4))))))) (by exact Nat.le_refl _) (ext_full rfl)) (nd_of rfl) rfl ?_
  refine x_take (d := 24) rfl rfl (en rfl es) ?_
  refine x_val (r_loadAgg h 2 rfl Try.isAgg26 Try.sizeOf26 (en rfl (en rfl (en rfl (en rfl (en rfl (en rfl (en rfl (en rfl s5)))))))) (by exact Nat.le_refl _) (ext_full rfl)) (nd_of rfl) rfl ?_
  refine x_take (d := 24) rfl rfl (en rfl (en rfl es)) ?_
  refine x_bsliceL (c := #[.int .i64 oa.kind, .int .i64 oa.k, .int .i64 oa.m, oa.lv, oa.xv, .int .i64 ob.kind, .int .i64 ob.k, .int .i64 ob.m, ob.lv, ob.xv]) h Try.underlying22 Try.sizeOf26 zOp rfl (by kernel_rfl) rfl rfl rfl ?_; intro bs w h
  have h : SatL E w (Row 26 5 (.slice (some ⟨bs, 0, none⟩) 2 2) [oa, ob].length (oflat [oa, ob]) :: _) := h.closeRow ⟨rfl, rfl, Nat.le_refl _, by unfold maxLen; decide, rfl, rfl⟩
  obtain ⟨v2, w2, hr2, h⟩ := append_ops (ty := 22) (i := 4) h hv0 rfl (by simp only [List.length_cons, List.length_nil]; omega)
  refine x_take (d := 24) rfl rfl (en rfl (en rfl (en rfl es))) ?_
  refine x_val (r_move (en rfl (en rfl (en rfl (en rfl (en rfl (en rfl (en rfl (en rfl (en rfl (en rfl s0))))))))))) (nd_of rfl) rfl ?_
  refine x_take (d := 24) rfl rfl (en rfl (en rfl (en rfl (en rfl es)))) ?_
  refine x_val (r_append (en rfl es) es hr2) (nd_of rfl) rfl ?_
  refine x_take (d := 24) rfl rfl (en rfl (en rfl (en rfl (en rfl (en rfl es))))) ?_
  refine x_enter (r_call Try.call8 (.cons es .nil)) (nd_of rfl) rfl (small_ok (oreads_row (i := 4) hall rfl h) h) ?_
  rintro _ w ⟨r, rfl, hr, h⟩
  refine x_take (d := 24) rfl rfl (en rfl (en rfl (en rfl (en rfl (en rfl (en rfl es)))))) ?_
  refine x_val (r_not es rfl) (nd_of rfl) rfl ?_
  refine x_val (r_pick_f (en rfl (en rfl (en rfl (en rfl (en rfl (en rfl (en rfl es))))))) es) (nd_of rfl) rfl ?_
  refine xw_nil ?_
  refine hK4 _ _ ?_
  refine xc_gen (fun g hg => ?_)
  have s0 := (hg 0).trans (en rfl (en rfl (en rfl (en rfl (en rfl (en rfl (en rfl (en rfl (en rfl (en rfl (en rfl (en rfl (en rfl (en rfl (en rfl s0)))))))))))))))
  have s1 := (hg 1).trans (en rfl (en rfl (en rfl (en rfl (en rfl (en rfl (en rfl (en rfl (en rfl (en rfl (en rfl (en rfl (en rfl (en rfl (en rfl s1)))))))))))))))
  have s2 := (hg 2).trans (en rfl (en rfl (en rfl (en rfl (en rfl (en rfl (en rfl (en rfl (en rfl (en rfl (en rfl (en rfl (en rfl (en rfl (en rfl s2)))))))))))))))
  have s4 := (hg 4).trans (en rfl (en rfl (en rfl (en rfl (en rfl (en rfl (en rfl (en rfl (en rfl (en rfl (en rfl (en rfl (en rfl (en rfl (en rfl s4)))))))))))))))
  have s5 := (hg 5).trans (en rfl (en rfl (en rfl (en rfl (en rfl (en rfl (en rfl (en rfl (en rfl (en rfl (en rfl (en rfl (en rfl (en rfl (en rfl s5)))))))))))))))
  have s6 := (hg 6).trans (en rfl (en rfl (en rfl (en rfl (en rfl (en rfl (en rfl (en rfl (en rfl (en rfl (en rfl (en rfl (en rfl (en rfl (en rfl s6)))))))))))))))
  have s7 := (hg 7).trans (en rfl (en rfl (en rfl (en rfl (en rfl (en rfl (en rfl (en rfl (en rfl (en rfl (en rfl (en rfl (en rfl (en rfl (en rfl s7)))))))))))))))
  have s8 := (hg 8).trans (en rfl (en rfl (en rfl (en rfl (en rfl (en rfl (en rfl (en rfl (en rfl (en rfl (en rfl (en rfl (en rfl (en rfl (en rfl s8)))))))))))))))
  have s32 := (hg 32).trans es
  clear hg
  refine xc_cond s32 (fun hc => ?_) (fun hc => ?_)
  ·
    refine xc_seq (fun K hK5 => ?_)
    refine xc_region ?_
    refine x_val (r_move s7) (nd_of rfl) rfl ?_
    refine x_val (r_nenil Try.underlying27 es ec (r := true) rfl) (nd_of rfl) rfl ?_
    refine x_val (r_move es) (nd_of rfl) rfl ?_
    refine x_take (d := 35) rfl rfl es ?_
    refine x_val (r_move (en rfl (en rfl (en rfl s8)))) (nd_of rfl) rfl ?_
    refine x_take (d := 35) rfl rfl (en rfl es) ?_
    refine x_val (r_nenil Try.underlying27 es ec (r := true) rfl) (nd_of rfl) rfl ?_
    refine x_val (r_pick_t (en rfl (en rfl es)) es) (nd_of rfl) rfl ?_
    refine x_val (r_move es) (nd_of rfl) rfl ?_
    refine x_take (d := 39) rfl rfl es ?_
    refine x_enter (r_call Try.call9 .nil) (nd_of rfl) rfl (known_ok h) ?_
    rintro _ w ⟨rfl, h⟩
    refine x_val (r_pick_t (en rfl es) es) (nd_of rfl) rfl ?_
    refine x_val (r_assign es) (nd_of rfl) rfl ?_
    refine xw_nil ?_
    refine hK5 _ _ ?_
    refine xc_gen (fun g hg => ?_)
    have s0 := (hg 0).trans (en rfl (en rfl (en rfl (en rfl (en rfl (en rfl (en rfl (en rfl (en rfl (en rfl s0))))))))))
    have s1 := (hg 1).trans (en rfl (en rfl (en rfl (en rfl (en rfl (en rfl (en rfl (en rfl (en rfl (en rfl s1))))))))))
    have s2 := (hg 2).trans (en rfl (en rfl (en rfl (en rfl (en rfl (en rfl (en rfl (en rfl (en rfl (en rfl s2))))))))))
    have s4 := (hg 4).trans (en rfl (en rfl (en rfl (en rfl (en rfl (en rfl (en rfl (en rfl (en rfl (en rfl s4))))))))))
    have s5 := (hg 5).trans (en rfl (en rfl (en rfl (en rfl (en rfl (en rfl (en rfl (en rfl (en rfl (en rfl s5))))))))))
    have s6 := (hg 6).trans es
    have s7 := (hg 7).trans (en rfl (en rfl (en rfl (en rfl (en rfl (en rfl (en rfl (en rfl (en rfl (en rfl s7))))))))))
    have s8 := (hg 8).trans (en rfl (en rfl (en rfl (en rfl (en rfl (en rfl (en rfl (en rfl (en rfl (en rfl s8))))))))))
    have s32 := (hg 32).trans (en rfl (en rfl (en rfl (en rfl (en rfl (en rfl (en rfl (en rfl (en rfl (en rfl s32))))))))))
    clear hg
    refine xc_ret ?_
    refine bodyR_1 rfl s6 ?_
    exact ⟨rfl, h.drop.drop.drop.drop.drop⟩
  ·
    refine xc_skip ?_
    refine hK3 _ _ ?_
    refine xc_seq (fun K hK6 => ?_)
    refine xc_seq (fun K hK7 => ?_)
    obtain ⟨hosl, hsmo⟩ := hr (by simpa using hc)
    have hosl : os.length ≤ 58 := by simp at hosl; omega
    have hsa := hsmo oa (by simp)
    have hsb := hsmo ob (by simp)
    have h := (h.f0).drop
    refine xc_region ?_
    refine x_val (r_move s0) (nd_of rfl) rfl ?_
    refine x_val (r_len Try.underlying22 es) (nd_of rfl) rfl ?_
    refine x_val (r_move ec) (nd_of rfl) rfl ?_
    refine xw_nil ?_
    refine hK7 _ _ ?_
    refine xc_gen (fun g hg => ?_)
    have s0 := (hg 0).trans (en rfl (en rfl (en rfl s0)))
    have s1 := (hg 1).trans (en rfl (en rfl (en rfl s1)))
    have s2 := (hg 2).trans (en rfl (en rfl (en rfl s2)))
    have s4 := (hg 4).trans (en rfl (en rfl (en rfl s4)))
    have s5 := (hg 5).trans (en rfl (en rfl (en rfl s5)))
    have s6 := (hg 6).trans (en rfl (en rfl (en rfl s6)))
    have s7 := (hg 7).trans (en rfl (en rfl (en rfl s7)))
    have s8 := (hg 8).trans (en rfl (en rfl (en rfl s8)))
    have s32 := (hg 32).trans (en rfl (en rfl (en rfl s32)))
    have s42 := (hg 42).trans (en rfl (en rfl es))
    have s43 := (hg 43).trans (en rfl es)
    have s44 := (hg 44).trans es
    clear hg
    refine xc_block ?_
    obtain ⟨G8, hG8⟩ : ∃ g0 : Nat → Value, g0 = g := ⟨_, rfl⟩
    have zG8_0 : G8 0 = _ := (congrFun hG8 0).trans s0
    have zG8_1 : G8 1 = _ := (congrFun hG8 1).trans s1
    have zG8_2 : G8 2 = _ := (congrFun hG8 2).trans s2
    have zG8_4 : G8 4 = _ := (congrFun hG8 4).trans s4
    have zG8_5 : G8 5 = _ := (congrFun hG8 5).trans s5
    have zG8_6 : G8 6 = _ := (congrFun hG8 6).trans s6
    have zG8_7 : G8 7 = _ := (congrFun hG8 7).trans s7
    have zG8_8 : G8 8 = _ := (congrFun hG8 8).trans s8
    have zG8_32 : G8 32 = _ := (congrFun hG8 32).trans s32
    have zG8_42 : G8 42 = _ := (congrFun hG8 42).trans s42
    have zG8_43 : G8 43 = _ := (congrFun hG8 43).trans s43
    refine xc_loop (fun m f w => (∃ (n : Nat) (L : List (List Atr)), m = os.length - n ∧ n ≤ os.length ∧ InvP L n ∧ f 44 = .int .i64 (n : Int) ∧ SatL E w (Pa bq L (plc n) :: Pa bp L (plc n) :: Cells b5 #[.int .i64 ob.kind, .int .i64 ob.k, .int .i64 ob.m, ob.lv, ob.xv] 26 :: Cells b4 #[.int .i64 oa.kind, .int .i64 oa.k, .int .i64 oa.m, oa.lv, oa.xv] 26 :: Old W :: R)) ∧ (f 0 = G8 0 ∧ f 1 = G8 1 ∧ f 2 = G8 2 ∧ f 4 = G8 4 ∧ f 5 = G8 5 ∧ f 6 = G8 6 ∧ f 7 = G8 7 ∧ f 8 = G8 8 ∧ f 32 = G8 32 ∧ f 42 = G8 42 ∧ f 43 = G8 43)) (os.length) ⟨⟨0, [], by omega, by omega, InvP.nil, s44, h⟩, ⟨congrFun hG8.symm 0, congrFun hG8.symm 1, congrFun hG8.symm 2, congrFun hG8.symm 4, congrFun hG8.symm 5, congrFun hG8.symm 6, congrFun hG8.symm 7, congrFun hG8.symm 8, congrFun hG8.symm 32, congrFun hG8.symm 42, congrFun hG8.symm 43⟩⟩ ?_
    rintro m g w ⟨⟨n, L, hm, hn, hinv, s44, h⟩, ⟨y0, y1, y2, y4, y5, y6, y7, y8, y32, y42, y43⟩⟩
    have s0 := y0.trans zG8_0
    have s1 := y1.trans zG8_1
    have s2 := y2.trans zG8_2
    have s4 := y4.trans zG8_4
    have s5 := y5.trans zG8_5
    have s6 := y6.trans zG8_6
    have s7 := y7.trans zG8_7
    have s8 := y8.trans zG8_8
    have s32 := y32.trans zG8_32
    have s42 := y42.trans zG8_42
    have s43 := y43.trans zG8_43
    refine xc_seq (fun K hK9 => ?_)
    refine xc_region ?_
    refine x_val (r_lss s44 s43 rfl) (nd_of rfl) rfl ?_
    refine xw_nil ?_
    refine hK9 _ _ ?_
    refine xc_gen (fun g hg => ?_)
    have s0 := (hg 0).trans (en rfl s0)
    have s1 := (hg 1).trans (en rfl s1)
    have s2 := (hg 2).trans (en rfl s2)
    have s4 := (hg 4).trans (en rfl s4)
    have s5 := (hg 5).trans (en rfl s5)
    have s6 := (hg 6).trans (en rfl s6)
    have s7 := (hg 7).trans (en rfl s7)
    have s8 := (hg 8).trans (en rfl s8)
    have s32 := (hg 32).trans (en rfl s32)
    have s42 := (hg 42).trans (en rfl s42)
    have s43 := (hg 43).trans (en rfl s43)
    have s44 := (hg 44).trans (en rfl s44)
    have s45 := (hg 45).trans es
    clear hg
    refine xc_seq (fun K hK10 => ?_)
    refine xc_cond s45 (fun hc => ?_) (fun hc => ?_)
    ·
      refine xc_skip ?_
      refine hK10 _ _ ?_
      refine xc_seq (fun K hK11 => ?_)
      refine xc_block ?_
      refine xc_seq (fun K hK12 => ?_)
      have hn2 : n < os.length := by have := of_decide_eq_true hc; omega
      obtain ⟨o, ho⟩ : ∃ o, os[n]? = some o := ⟨_, List.getElem?_eq_getElem hn2⟩
      obtain ⟨ad, rfl, hcell⟩ := hread n o ho
      have hwf := hwfs o (List.mem_of_getElem? ho)
      have hso := hsmo o (by simp [List.mem_of_getElem? ho])
      have hoko : Ok 5 (opC o).toArray := hwf.ok
      refine xc_region ?_
      refine x_val (r_indexAny Try.underlying22 Try.sizeOf26 s42 s44 (by omega) (by omega)) (nd_of rfl) rfl ?_
      refine x_val (r_loadAggAt (cs := opC o) Try.isAgg26 Try.sizeOf26 es rfl (fun j u hj => h.oldCell 4 rfl (hcell j u hj))) (nd_of rfl) rfl ?_
      refine x_declA h Try.zeroValue26 Try.sizeOf26 rfl (en rfl es) (by first | assumption | exact Ok.node (by assumption) | exact xOk.cells (by assumption) | exact ChOk.ok (by assumption)) rfl ?_
      intro b10 w h
      refine xw_nil ?_
      refine hK12 _ _ ?_
      refine xc_gen (fun g hg => ?_)
      have s0 := (hg 0).trans (en rfl (en rfl (en rfl s0)))
      have s1 := (hg 1).trans (en rfl (en rfl (en rfl s1)))
      have s2 := (hg 2).trans (en rfl (en rfl (en rfl s2)))
      have s4 := (hg 4).trans (en rfl (en rfl (en rfl s4)))
      have s5 := (hg 5).trans (en rfl (en rfl (en rfl s5)))
      have s6 := (hg 6).trans (en rfl (en rfl (en rfl s6)))
      have s7 := (hg 7).trans (en rfl (en rfl (en rfl s7)))
      have s8 := (hg 8).trans (en rfl (en rfl (en rfl s8)))
      have s10 := (hg 10).trans es
      have s32 := (hg 32).trans (en rfl (en rfl (en rfl s32)))
      have s42 := (hg 42).trans (en rfl (en rfl (en rfl s42)))
      have s43 := (hg 43).trans (en rfl (en rfl (en rfl s43)))
      have s44 := (hg 44).trans (en rfl (en rfl (en rfl s44)))
      have s45 := (hg 45).trans (en rfl (en rfl (en rfl s45)))
      clear hg
      refine xc_seq (fun K hK13 => ?_)
      have h : SatL E w (Cells b10 #[.int .i64 o.kind, .int .i64 o.k, .int .i64 o.m, o.lv, o.xv] 26 :: _) := h
      refine xc_region ?_
      refine x_val (r_fieldAddr (o' := 0) Try.underlying26 rfl Try.sizeOf3 rfl s10 rfl) (nd_of rfl) rfl ?_
      refine x_val (r_load h 0 rfl Try.isAgg3 es gc0) (nd_of rfl) rfl ?_
      refine x_val (r_eql es ec rfl) (nd_of rfl) rfl ?_
      refine xw_nil ?_
      refine hK13 _ _ ?_
      refine xc_gen (fun g hg => ?_)
      have s0 := (hg 0).trans (en rfl (en rfl (en rfl s0)))
      have s1 := (hg 1).trans (en rfl (en rfl (en rfl s1)))
      have s2 := (hg 2).trans (en rfl (en rfl (en rfl s2)))
      have s4 := (hg 4).trans (en rfl (en rfl (en rfl s4)))
      have s5 := (hg 5).trans (en rfl (en rfl (en rfl s5)))
      have s6 := (hg 6).trans (en rfl (en rfl (en rfl s6)))
      have s7 := (hg 7).trans (en rfl (en rfl (en rfl s7)))
      have s8 := (hg 8).trans (en rfl (en rfl (en rfl s8)))
      have s10 := (hg 10).trans (en rfl (en rfl (en rfl s10)))
      have s32 := (hg 32).trans (en rfl (en rfl (en rfl s32)))
      have s42 := (hg 42).trans (en rfl (en rfl (en rfl s42)))
      have s43 := (hg 43).trans (en rfl (en rfl (en rfl s43)))
      have s44 := (hg 44).trans (en rfl (en rfl (en rfl s44)))
      have s45 := (hg 45).trans (en rfl (en rfl (en rfl s45)))
      have s50 := (hg 50).trans es
      clear hg
      refine xc_cond s50 (fun hc => ?_) (fun hc => ?_)
      ·
        refine xc_seq (fun K hK14 => ?_)
        refine xc_region ?_
        refine x_val (r_move s7) (nd_of rfl) rfl ?_
        refine x_val (r_fieldAddr (o' := 1) Try.underlying26 rfl Try.sizeOf3 rfl (en rfl s10) rfl) (nd_of rfl) rfl ?_
        refine x_val (r_load h 0 rfl Try.isAgg3 es gc1) (nd_of rfl) rfl ?_
        refine x_val (r_fieldAddr (o' := 2) Try.underlying26 rfl Try.sizeOf3 rfl (en rfl (en rfl (en rfl s10))) rfl) (nd_of rfl) rfl ?_
        refine x_val (r_load h 0 rfl Try.isAgg3 es gc2) (nd_of rfl) rfl ?_
        have h := h.f2
        refine x_enter (r_call Try.call11 (.cons (en rfl (en rfl (en rfl (en rfl es)))) (.cons (en rfl (en rfl es)) (.cons es .nil)))) (nd_of rfl) rfl (delP hinv (by omega) h) ?_
        rintro _ w ⟨rfl, h⟩
        refine xw_nil ?_
        refine hK14 _ _ ?_
        refine xc_gen (fun g hg => ?_)
        have s0 := (hg 0).trans (en rfl (en rfl (en rfl (en rfl (en rfl (en rfl s0))))))
        have s1 := (hg 1).trans (en rfl (en rfl (en rfl (en rfl (en rfl (en rfl s1))))))
        have s2 := (hg 2).trans (en rfl (en rfl (en rfl (en rfl (en rfl (en rfl s2))))))
        have s4 := (hg 4).trans (en rfl (en rfl (en rfl (en rfl (en rfl (en rfl s4))))))
        have s5 := (hg 5).trans (en rfl (en rfl (en rfl (en rfl (en rfl (en rfl s5))))))
        have s6 := (hg 6).trans (en rfl (en rfl (en rfl (en rfl (en rfl (en rfl s6))))))
        have s7 := (hg 7).trans (en rfl (en rfl (en rfl (en rfl (en rfl (en rfl s7))))))
        have s8 := (hg 8).trans (en rfl (en rfl (en rfl (en rfl (en rfl (en rfl s8))))))
        have s10 := (hg 10).trans (en rfl (en rfl (en rfl (en rfl (en rfl (en rfl s10))))))
        have s32 := (hg 32).trans (en rfl (en rfl (en rfl (en rfl (en rfl (en rfl s32))))))
        have s42 := (hg 42).trans (en rfl (en rfl (en rfl (en rfl (en rfl (en rfl s42))))))
        have s43 := (hg 43).trans (en rfl (en rfl (en rfl (en rfl (en rfl (en rfl s43))))))
        have s44 := (hg 44).trans (en rfl (en rfl (en rfl (en rfl (en rfl (en rfl s44))))))
        have s45 := (hg 45).trans (en rfl (en rfl (en rfl (en rfl (en rfl (en rfl s45))))))
        have s50 := (hg 50).trans (en rfl (en rfl (en rfl (en rfl (en rfl (en rfl s50))))))
        clear hg
        refine xc_region ?_
        refine x_val (r_move s8) (nd_of rfl) rfl ?_
        refine x_val (r_fieldAddr (o' := 1) Try.underlying26 rfl Try.sizeOf3 rfl (en rfl s10) rfl) (nd_of rfl) rfl ?_
        refine x_val (r_load h 1 rfl Try.isAgg3 es gc1) (nd_of rfl) rfl ?_
        refine x_val (r_fieldAddr (o' := 2) Try.underlying26 rfl Try.sizeOf3 rfl (en rfl (en rfl (en rfl s10))) rfl) (nd_of rfl) rfl ?_
        refine x_val (r_load h 1 rfl Try.isAgg3 es gc2) (nd_of rfl) rfl ?_
        have h := h.f2
        refine x_enter (r_call Try.call11 (.cons (en rfl (en rfl (en rfl (en rfl es)))) (.cons (en rfl (en rfl es)) (.cons es .nil)))) (nd_of rfl) rfl (delP hinv (by omega) h) ?_
        rintro _ w ⟨rfl, h⟩
        refine xw_nil ?_
        refine hK11 _ _ ?_
        refine xc_gen (fun g hg => ?_)
        have s0 := (hg 0).trans (en rfl (en rfl (en rfl (en rfl (en rfl (en rfl s0))))))
        have s1 := (hg 1).trans (en rfl (en rfl (en rfl (en rfl (en rfl (en rfl s1))))))
        have s2 := (hg 2).trans (en rfl (en rfl (en rfl (en rfl (en rfl (en rfl s2))))))
        have s4 := (hg 4).trans (en rfl (en rfl (en rfl (en rfl (en rfl (en rfl s4))))))
        have s5 := (hg 5).trans (en rfl (en rfl (en rfl (en rfl (en rfl (en rfl s5))))))
        have s6 := (hg 6).trans (en rfl (en rfl (en rfl (en rfl (en rfl (en rfl s6))))))
        have s7 := (hg 7).trans (en rfl (en rfl (en rfl (en rfl (en rfl (en rfl s7))))))
        have s8 := (hg 8).trans (en rfl (en rfl (en rfl (en rfl (en rfl (en rfl s8))))))
        have s10 := (hg 10).trans (en rfl (en rfl (en rfl (en rfl (en rfl (en rfl s10))))))
        have s32 := (hg 32).trans (en rfl (en rfl (en rfl (en rfl (en rfl (en rfl s32))))))
        have s42 := (hg 42).trans (en rfl (en rfl (en rfl (en rfl (en rfl (en rfl s42))))))
        have s43 := (hg 43).trans (en rfl (en rfl (en rfl (en rfl (en rfl (en rfl s43))))))
        have s44 := (hg 44).trans (en rfl (en rfl (en rfl (en rfl (en rfl (en rfl s44))))))
        have s45 := (hg 45).trans (en rfl (en rfl (en rfl (en rfl (en rfl (en rfl s45))))))
        have s50 := (hg 50).trans (en rfl (en rfl (en rfl (en rfl (en rfl (en rfl s50))))))
        clear hg
        have h := (h.f2).drop
        have h := h.f3
        have h := h.f3
        have h := h.f3
        have h := h.f3
        refine xc_region ?_
        refine x_val (r_add s44 ec (show _ = (((n + 1 : Nat) : Int) : Int) from by omega) (by unfold I64; omega)) (nd_of rfl) rfl ?_
        refine x_val (r_move es) (nd_of rfl) rfl ?_
        refine xw_nil ?_
        exact ⟨os.length - (n + 1), by omega, ⟨n + 1, _, rfl, by omega, hinv.del, es, h⟩, ⟨((en rfl (en rfl s0))).trans zG8_0.symm, ((en rfl (en rfl s1))).trans zG8_1.symm, ((en rfl (en rfl s2))).trans zG8_2.symm, ((en rfl (en rfl s4))).trans zG8_4.symm, ((en rfl (en rfl s5))).trans zG8_5.symm, ((en rfl (en rfl s6))).trans zG8_6.symm, ((en rfl (en rfl s7))).trans zG8_7.symm, ((en rfl (en rfl s8))).trans zG8_8.symm, ((en rfl (en rfl s32))).trans zG8_32.symm, ((en rfl (en rfl s42))).trans zG8_42.symm, ((en rfl (en rfl s43))).trans zG8_43.symm⟩⟩
      ·
        refine xc_seq (fun K hK15 => ?_)
        refine xc_region ?_
        refine x_val (r_move s7) (nd_of rfl) rfl ?_
        refine x_val (r_fieldAddr (o' := 1) Try.underlying26 rfl Try.sizeOf3 rfl (en rfl s10) rfl) (nd_of rfl) rfl ?_
        refine x_val (r_load h 0 rfl Try.isAgg3 es gc1) (nd_of rfl) rfl ?_
        refine x_val (r_fieldAddr (o' := 3) Try.underlying26 rfl Try.sizeOf23 rfl (en rfl (en rfl (en rfl s10))) rfl) (nd_of rfl) rfl ?_
        refine x_val (r_load h 0 rfl Try.isAgg23 es gc3) (nd_of rfl) rfl ?_
        have h := h.f2
        refine x_enter (r_call Try.call10 (.cons (en rfl (en rfl (en rfl (en rfl es)))) (.cons (en rfl (en rfl es)) (.cons es .nil)))) (nd_of rfl) rfl (insP hinv (hso.sets hwf) (by omega) (hwf.sp.sreads 4 rfl) h) ?_
        rintro _ w ⟨rfl, h⟩
        refine xw_nil ?_
        refine hK15 _ _ ?_
        refine xc_gen (fun g hg => ?_)
        have s0 := (hg 0).trans (en rfl (en rfl (en rfl (en rfl (en rfl (en rfl s0))))))
        have s1 := (hg 1).trans (en rfl (en rfl (en rfl (en rfl (en rfl (en rfl s1))))))
        have s2 := (hg 2).trans (en rfl (en rfl (en rfl (en rfl (en rfl (en rfl s2))))))
        have s4 := (hg 4).trans (en rfl (en rfl (en rfl (en rfl (en rfl (en rfl s4))))))
        have s5 := (hg 5).trans (en rfl (en rfl (en rfl (en rfl (en rfl (en rfl s5))))))
        have s6 := (hg 6).trans (en rfl (en rfl (en rfl (en rfl (en rfl (en rfl s6))))))
        have s7 := (hg 7).trans (en rfl (en rfl (en rfl (en rfl (en rfl (en rfl s7))))))
        have s8 := (hg 8).trans (en rfl (en rfl (en rfl (en rfl (en rfl (en rfl s8))))))
        have s10 := (hg 10).trans (en rfl (en rfl (en rfl (en rfl (en rfl (en rfl s10))))))
        have s32 := (hg 32).trans (en rfl (en rfl (en rfl (en rfl (en rfl (en rfl s32))))))
        have s42 := (hg 42).trans (en rfl (en rfl (en rfl (en rfl (en rfl (en rfl s42))))))
        have s43 := (hg 43).trans (en rfl (en rfl (en rfl (en rfl (en rfl (en rfl s43))))))
        have s44 := (hg 44).trans (en rfl (en rfl (en rfl (en rfl (en rfl (en rfl s44))))))
        have s45 := (hg 45).trans (en rfl (en rfl (en rfl (en rfl (en rfl (en rfl s45))))))
        have s50 := (hg 50).trans (en rfl (en rfl (en rfl (en rfl (en rfl (en rfl s50))))))
        clear hg
        refine xc_region ?_
        refine x_val (r_move s8) (nd_of rfl) rfl ?_
        refine x_val (r_fieldAddr (o' := 1) Try.underlying26 rfl Try.sizeOf3 rfl (en rfl s10) rfl) (nd_of rfl) rfl ?_
        refine x_val (r_load h 1 rfl Try.isAgg3 es gc1) (nd_of rfl) rfl ?_
        refine x_val (r_fieldAddr (o' := 3) Try.underlying26 rfl Try.sizeOf23 rfl (en rfl (en rfl (en rfl s10))) rfl) (nd_of rfl) rfl ?_
        refine x_val (r_load h 1 rfl Try.isAgg23 es gc3) (nd_of rfl) rfl ?_
        have h := h.f2
        refine x_enter (r_call Try.call10 (.cons (en rfl (en rfl (en rfl (en rfl es)))) (.cons (en rfl (en rfl es)) (.cons es .nil)))) (nd_of rfl) rfl (insP hinv (hso.sets hwf) (by omega) (hwf.sp.sreads 4 rfl) h) ?_
        rintro _ w ⟨rfl, h⟩
        refine xw_nil ?_
        refine hK11 _ _ ?_
        refine xc_gen (fun g hg => ?_)
        have s0 := (hg 0).trans (en rfl (en rfl (en rfl (en rfl (en rfl (en rfl s0))))))
        have s1 := (hg 1).trans (en rfl (en rfl (en rfl (en rfl (en rfl (en rfl s1))))))
        have s2 := (hg 2).trans (en rfl (en rfl (en rfl (en rfl (en rfl (en rfl s2))))))
        have s4 := (hg 4).trans (en rfl (en rfl (en rfl (en rfl (en rfl (en rfl s4))))))
        have s5 := (hg 5).trans (en rfl (en rfl (en rfl (en rfl (en rfl (en rfl s5))))))
        have s6 := (hg 6).trans (en rfl (en rfl (en rfl (en rfl (en rfl (en rfl s6))))))
        have s7 := (hg 7).trans (en rfl (en rfl (en rfl (en rfl (en rfl (en rfl s7))))))
        have s8 := (hg 8).trans (en rfl (en rfl (en rfl (en rfl (en rfl (en rfl s8))))))
        have s10 := (hg 10).trans (en rfl (en rfl (en rfl (en rfl (en rfl (en rfl s10))))))
        have s32 := (hg 32).trans (en rfl (en rfl (en rfl (en rfl (en rfl (en rfl s32))))))
        have s42 := (hg 42).trans (en rfl (en rfl (en rfl (en rfl (en rfl (en rfl s42))))))
        have s43 := (hg 43).trans (en rfl (en rfl (en rfl (en rfl (en rfl (en rfl s43))))))
        have s44 := (hg 44).trans (en rfl (en rfl (en rfl (en rfl (en rfl (en rfl s44))))))
        have s45 := (hg 45).trans (en rfl (en rfl (en rfl (en rfl (en rfl (en rfl s45))))))
        have s50 := (hg 50).trans (en rfl (en rfl (en rfl (en rfl (en rfl (en rfl s50))))))
        clear hg
        have h := (h.f2).drop
        have h := h.f3
        have h := h.f3
        have h := h.f3
        have h := h.f3
        refine xc_region ?_
        refine x_val (r_add s44 ec (show _ = (((n + 1 : Nat) : Int) : Int) from by omega) (by unfold I64; omega)) (nd_of rfl) rfl ?_
        refine x_val (r_move es) (nd_of rfl) rfl ?_
        refine xw_nil ?_
        exact ⟨os.length - (n + 1), by omega, ⟨n + 1, _, rfl, by omega, hinv.ins (hso.sets hwf), es, h⟩, ⟨((en rfl (en rfl s0))).trans zG8_0.symm, ((en rfl (en rfl s1))).trans zG8_1.symm, ((en rfl (en rfl s2))).trans zG8_2.symm, ((en rfl (en rfl s4))).trans zG8_4.symm, ((en rfl (en rfl s5))).trans zG8_5.symm, ((en rfl (en rfl s6))).trans zG8_6.symm, ((en rfl (en rfl s7))).trans zG8_7.symm, ((en rfl (en rfl s8))).trans zG8_8.symm, ((en rfl (en rfl s32))).trans zG8_32.symm, ((en rfl (en rfl s42))).trans zG8_42.symm, ((en rfl (en rfl s43))).trans zG8_43.symm⟩⟩
    ·
      refine xc_exit ?_
      refine hK6 _ _ ?_
      rcases Int.lt_or_le oa.k ob.m with hq | hq
      ·
        skip
        refine xc_seq (fun K hK16 => ?_)
        refine xc_seq (fun K hK17 => ?_)
        refine xc_region ?_
        refine x_val (r_fieldAddr (o' := 2) Try.underlying26 rfl Try.sizeOf3 rfl s5 rfl) (nd_of rfl) rfl ?_
        refine x_val (r_load h 2 rfl Try.isAgg3 es gc2) (nd_of rfl) rfl ?_
        refine x_val (r_fieldAddr (o' := 1) Try.underlying26 rfl Try.sizeOf3 rfl (en rfl (en rfl s4)) rfl) (nd_of rfl) rfl ?_
        refine x_val (r_load h 3 rfl Try.isAgg3 es gc1) (nd_of rfl) rfl ?_
        refine x_val (r_gtr (en rfl (en rfl es)) es (decide_eq_true (by omega))) (nd_of rfl) rfl ?_
        refine x_val (r_move es) (nd_of rfl) rfl ?_
        refine x_pass (d := 81) rfl rfl es rfl ?_
        refine x_pass (d := 81) rfl rfl (en rfl es) rfl ?_
        refine x_pass (d := 81) rfl rfl (en rfl (en rfl es)) rfl ?_
        refine x_pass (d := 81) rfl rfl (en rfl (en rfl (en rfl es))) rfl ?_
        refine x_pass (d := 81) rfl rfl (en rfl (en rfl (en rfl (en rfl es)))) rfl ?_
        refine x_pass (d := 81) rfl rfl (en rfl (en rfl (en rfl (en rfl (en rfl es))))) rfl ?_
        refine x_pass (d := 81) rfl rfl (en rfl (en rfl (en rfl (en rfl (en rfl (en rfl es)))))) rfl ?_
        refine x_pass (d := 81) rfl rfl (en rfl (en rfl (en rfl (en rfl (en rfl (en rfl (en rfl es))))))) rfl ?_
        refine x_pass (d := 81) rfl rfl (en rfl (en rfl (en rfl (en rfl (en rfl (en rfl (en rfl (en rfl es)))))))) rfl ?_
        refine x_val (r_pick_t (en rfl (en rfl (en rfl (en rfl (en rfl (en rfl (en rfl (en rfl (en rfl es))))))))) ec) (nd_of rfl) rfl ?_
        refine x_val (r_move es) (nd_of rfl) rfl ?_
        refine x_pass (d := 92) rfl rfl es rfl ?_
        refine x_pass (d := 92) rfl rfl (en rfl es) rfl ?_
        refine x_pass (d := 92) rfl rfl (en rfl (en rfl es)) rfl ?_
        refine x_pass (d := 92) rfl rfl (en rfl (en rfl (en rfl es))) rfl ?_
        refine x_pass (d := 92) rfl rfl (en rfl (en rfl (en rfl (en rfl es)))) rfl ?_
        refine x_pass (d := 92) rfl rfl (en rfl (en rfl (en rfl (en rfl (en rfl es))))) rfl ?_
        refine x_pass (d := 92) rfl rfl (en rfl (en rfl (en rfl (en rfl (en rfl (en rfl es)))))) rfl ?_
        refine x_val (r_pick_t (en rfl (en rfl (en rfl (en rfl (en rfl (en rfl (en rfl es))))))) ec) (nd_of rfl) rfl ?_
        refine xw_nil ?_
        refine hK17 _ _ ?_
        refine xc_gen (fun g hg => ?_)
        have s0 := (hg 0).trans (en rfl (en rfl (en rfl (en rfl (en rfl (en rfl (en rfl (en rfl (en rfl (en rfl (en rfl (en rfl (en rfl (en rfl (en rfl (en rfl (en rfl (en rfl (en rfl (en rfl (en rfl (en rfl (en rfl (en rfl (en rfl s0)))))))))))))))))))))))))
        have s1 := (hg 1).trans (en rfl (en rfl (en rfl (en rfl (en rfl (en rfl (en rfl (en rfl (en rfl (en rfl (en rfl (en rfl (en rfl (en rfl (en rfl (en rfl (en rfl (en rfl (en rfl (en rfl (en rfl (en rfl (en rfl (en rfl (en rfl s1)))))))))))))))))))))))))
        have s2 := (hg 2).trans (en rfl (en rfl (en rfl (en rfl (en rfl (en rfl (en rfl (en rfl (en rfl (en rfl (en rfl (en rfl (en rfl (en rfl (en rfl (en rfl (en rfl (en rfl (en rfl (en rfl (en rfl (en rfl (en rfl (en rfl (en rfl s2)))))))))))))))))))))))))
        have s4 := (hg 4).trans (en rfl (en rfl (en rfl (en rfl (en rfl (en rfl (en rfl (en rfl (en rfl (en rfl (en rfl (en rfl (en rfl (en rfl (en rfl (en rfl (en rfl (en rfl (en rfl (en rfl (en rfl (en rfl (en rfl (en rfl (en rfl s4)))))))))))))))))))))))))
        have s5 := (hg 5).trans (en rfl (en rfl (en rfl (en rfl (en rfl (en rfl (en rfl (en rfl (en rfl (en rfl (en rfl (en rfl (en rfl (en rfl (en rfl (en rfl (en rfl (en rfl (en rfl (en rfl (en rfl (en rfl (en rfl (en rfl (en rfl s5)))))))))))))))))))))))))
        have s6 := (hg 6).trans (en rfl (en rfl (en rfl (en rfl (en rfl (en rfl (en rfl (en rfl (en rfl (en rfl (en rfl (en rfl (en rfl (en rfl (en rfl (en rfl (en rfl (en rfl (en rfl (en rfl (en rfl (en rfl (en rfl (en rfl (en rfl s6)))))))))))))))))))))))))
        have s7 := (hg 7).trans (en rfl (en rfl (en rfl (en rfl (en rfl (en rfl (en rfl (en rfl (en rfl (en rfl (en rfl (en rfl (en rfl (en rfl (en rfl (en rfl (en rfl (en rfl (en rfl (en rfl (en rfl (en rfl (en rfl (en rfl (en rfl s7)))))))))))))))))))))))))
        have s8 := (hg 8).trans (en rfl (en rfl (en rfl (en rfl (en rfl (en rfl (en rfl (en rfl (en rfl (en rfl (en rfl (en rfl (en rfl (en rfl (en rfl (en rfl (en rfl (en rfl (en rfl (en rfl (en rfl (en rfl (en rfl (en rfl (en rfl s8)))))))))))))))))))))))))
        have s32 := (hg 32).trans (en rfl (en rfl (en rfl (en rfl (en rfl (en rfl (en rfl (en rfl (en rfl (en rfl (en rfl (en rfl (en rfl (en rfl (en rfl (en rfl (en rfl (en rfl (en rfl (en rfl (en rfl (en rfl (en rfl (en rfl (en rfl s32)))))))))))))))))))))))))
        have s42 := (hg 42).trans (en rfl (en rfl (en rfl (en rfl (en rfl (en rfl (en rfl (en rfl (en rfl (en rfl (en rfl (en rfl (en rfl (en rfl (en rfl (en rfl (en rfl (en rfl (en rfl (en rfl (en rfl (en rfl (en rfl (en rfl (en rfl s42)))))))))))))))))))))))))
        have s43 := (hg 43).trans (en rfl (en rfl (en rfl (en rfl (en rfl (en rfl (en rfl (en rfl (en rfl (en rfl (en rfl (en rfl (en rfl (en rfl (en rfl (en rfl (en rfl (en rfl (en rfl (en rfl (en rfl (en rfl (en rfl (en rfl (en rfl s43)))))))))))))))))))))))))
        have s44 := (hg 44).trans (en rfl (en rfl (en rfl (en rfl (en rfl (en rfl (en rfl (en rfl (en rfl (en rfl (en rfl (en rfl (en rfl (en rfl (en rfl (en rfl (en rfl (en rfl (en rfl (en rfl (en rfl (en rfl (en rfl (en rfl (en rfl s44)))))))))))))))))))))))))
        have s45 := (hg 45).trans (en rfl (en rfl (en rfl (en rfl (en rfl (en rfl (en rfl (en rfl (en rfl (en rfl (en rfl (en rfl (en rfl (en rfl (en rfl (en rfl (en rfl (en rfl (en rfl (en rfl (en rfl (en rfl (en rfl (en rfl (en rfl s45)))))))))))))))))))))))))
        have s100 := (hg 100).trans es
        clear hg
        refine xc_cond s100 (fun _ => ?_) (fun hc => by cases hc)
        refine xc_seq (fun K hK18 => ?_)
        refine xc_region ?_
        refine x_enter (r_call Try.call9 .nil) (nd_of rfl) rfl (known_ok h) ?_
        rintro _ w ⟨rfl, h⟩
        refine x_val (r_assign es) (nd_of rfl) rfl ?_
        refine xw_nil ?_
        refine hK18 _ _ ?_
        refine xc_gen (fun g hg => ?_)
        have s0 := (hg 0).trans (en rfl (en rfl s0))
        have s1 := (hg 1).trans (en rfl (en rfl s1))
        have s2 := (hg 2).trans (en rfl (en rfl s2))
        have s4 := (hg 4).trans (en rfl (en rfl s4))
        have s5 := (hg 5).trans (en rfl (en rfl s5))
        have s6 := (hg 6).trans es
        have s7 := (hg 7).trans (en rfl (en rfl s7))
        have s8 := (hg 8).trans (en rfl (en rfl s8))
        have s32 := (hg 32).trans (en rfl (en rfl s32))
        have s42 := (hg 42).trans (en rfl (en rfl s42))
        have s43 := (hg 43).trans (en rfl (en rfl s43))
        have s44 := (hg 44).trans (en rfl (en rfl s44))
        have s45 := (hg 45).trans (en rfl (en rfl s45))
        have s100 := (hg 100).trans (en rfl (en rfl s100))
        clear hg
        refine xc_ret ?_
        refine bodyR_1 rfl s6 ?_
        exact ⟨rfl, h.drop.drop.drop.drop⟩
      ·
        skip
        rcases Classical.em (isPart L.length ob.k ob.m) with hp1 | hp1
        ·
          skip
          rcases Classical.em (isPart L.length oa.k oa.k) with hp2 | hp2
          ·
            skip
            refine xc_seq (fun K hK19 => ?_)
            refine xc_seq (fun K hK20 => ?_)
            have hap := apart_int (M := oa.sets) (X := ob.cs) hp1 hp2 hq
            have hil := @ins_le L oa.sets oa.k
            refine xc_region ?_
            refine x_val (r_fieldAddr (o' := 2) Try.underlying26 rfl Try.sizeOf3 rfl s5 rfl) (nd_of rfl) rfl ?_
            refine x_val (r_load h 2 rfl Try.isAgg3 es gc2) (nd_of rfl) rfl ?_
            refine x_val (r_fieldAddr (o' := 1) Try.underlying26 rfl Try.sizeOf3 rfl (en rfl (en rfl s4)) rfl) (nd_of rfl) rfl ?_
            refine x_val (r_load h 3 rfl Try.isAgg3 es gc1) (nd_of rfl) rfl ?_
            refine x_val (r_gtr (en rfl (en rfl es)) es (decide_eq_false (by omega))) (nd_of rfl) rfl ?_
            refine x_val (r_move es) (nd_of rfl) rfl ?_
            refine x_take (d := 81) rfl rfl es ?_
            refine x_val (r_move (en rfl (en rfl (en rfl (en rfl (en rfl (en rfl s7))))))) (nd_of rfl) rfl ?_
            refine x_take (d := 81) rfl rfl (en rfl es) ?_
            refine x_val (r_fieldAddr (o' := 1) Try.underlying26 rfl Try.sizeOf3 rfl (en rfl (en rfl (en rfl (en rfl (en rfl (en rfl (en rfl s5))))))) rfl) (nd_of rfl) rfl ?_
            refine x_take (d := 81) rfl rfl (en rfl (en rfl es)) ?_
            refine x_val (r_load h 2 rfl Try.isAgg3 es gc1) (nd_of rfl) rfl ?_
            refine x_take (d := 81) rfl rfl (en rfl (en rfl (en rfl es))) ?_
            refine x_val (r_fieldAddr (o' := 2) Try.underlying26 rfl Try.sizeOf3 rfl (en rfl (en rfl (en rfl (en rfl (en rfl (en rfl (en rfl (en rfl (en rfl s5))))))))) rfl) (nd_of rfl) rfl ?_
            refine x_take (d := 81) rfl rfl (en rfl (en rfl (en rfl (en rfl es)))) ?_
            refine x_val (r_load h 2 rfl Try.isAgg3 es gc2) (nd_of rfl) rfl ?_
            refine x_take (d := 81) rfl rfl (en rfl (en rfl (en rfl (en rfl (en rfl es))))) ?_
            refine x_val (r_fieldAddr (o' := 4) Try.underlying26 rfl Try.sizeOf24 rfl (en rfl (en rfl (en rfl (en rfl (en rfl (en rfl (en rfl (en rfl (en rfl (en rfl (en rfl s5))))))))))) rfl) (nd_of rfl) rfl ?_
            refine x_take (d := 81) rfl rfl (en rfl (en rfl (en rfl (en rfl (en rfl (en rfl es)))))) ?_
            refine x_val (r_load h 2 rfl Try.isAgg24 es gc4) (nd_of rfl) rfl ?_
            refine x_take (d := 81) rfl rfl (en rfl (en rfl (en rfl (en rfl (en rfl (en rfl (en rfl es))))))) ?_
            have h := h.f1
            refine x_enter (r_call Try.call12 (.cons (en rfl (en rfl (en rfl (en rfl (en rfl (en rfl es)))))) (.cons (en rfl (en rfl (en rfl (en rfl es)))) (.cons (en rfl (en rfl es)) (.cons es .nil))))) (nd_of rfl) rfl (patP hinv (hsb.patch hb) (by omega) (hb.cp.creads 3 rfl) h) ?_
            rintro _ w ⟨rfl, h⟩
            refine x_take (d := 81) rfl rfl (en rfl (en rfl (en rfl (en rfl (en rfl (en rfl (en rfl (en rfl es)))))))) ?_
            refine x_val (r_neq es ec (decide_eq_false (by exact fun hh => hh (err_zero hp1)))) (nd_of rfl) rfl ?_
            refine x_val (r_pick_f (en rfl (en rfl (en rfl (en rfl (en rfl (en rfl (en rfl (en rfl (en rfl es))))))))) es) (nd_of rfl) rfl ?_
            refine x_val (r_move es) (nd_of rfl) rfl ?_
            refine x_take (d := 92) rfl rfl es ?_
            refine x_val (r_move (en rfl (en rfl (en rfl (en rfl (en rfl (en rfl (en rfl (en rfl (en rfl (en rfl (en rfl (en rfl (en rfl (en rfl (en rfl (en rfl (en rfl s7)))))))))))))))))) (nd_of rfl) rfl ?_
            refine x_take (d := 92) rfl rfl (en rfl es) ?_
            refine x_val (r_fieldAddr (o' := 1) Try.underlying26 rfl Try.sizeOf3 rfl (en rfl (en rfl (en rfl (en rfl (en rfl (en rfl (en rfl (en rfl (en rfl (en rfl (en rfl (en rfl (en rfl (en rfl (en rfl (en rfl (en rfl (en rfl s4)))))))))))))))))) rfl) (nd_of rfl) rfl ?_
            refine x_take (d := 92) rfl rfl (en rfl (en rfl es)) ?_
            refine x_val (r_load h 3 rfl Try.isAgg3 es gc1) (nd_of rfl) rfl ?_
            refine x_take (d := 92) rfl rfl (en rfl (en rfl (en rfl es))) ?_
            refine x_val (r_fieldAddr (o' := 3) Try.underlying26 rfl Try.sizeOf23 rfl (en rfl (en rfl (en rfl (en rfl (en rfl (en rfl (en rfl (en rfl (en rfl (en rfl (en rfl (en rfl (en rfl (en rfl (en rfl (en rfl (en rfl (en rfl (en rfl (en rfl s4)))))))))))))))))))) rfl) (nd_of rfl) rfl ?_
            refine x_take (d := 92) rfl rfl (en rfl (en rfl (en rfl (en rfl es)))) ?_
            refine x_val (r_load h 3 rfl Try.isAgg23 es gc3) (nd_of rfl) rfl ?_
            refine x_take (d := 92) rfl rfl (en rfl (en rfl (en rfl (en rfl (en rfl es))))) ?_
            refine x_enter (r_call Try.call10 (.cons (en rfl (en rfl (en rfl (en rfl es)))) (.cons (en rfl (en rfl es)) (.cons es .nil)))) (nd_of rfl) rfl (insP (hinv.pat (hsb.patch hb)) (hsa.sets ha) (by omega) (ha.sp.sreads 3 rfl) h) ?_
            rintro _ w ⟨rfl, h⟩
            refine x_take (d := 92) rfl rfl (en rfl (en rfl (en rfl (en rfl (en rfl (en rfl es)))))) ?_
            refine x_val (r_neq es ec (decide_eq_false (by exact fun hh => hh (err_zero (by rw [pat_len]; exact hp2))))) (nd_of rfl) rfl ?_
            rw [hap] at h
            refine x_val (r_pick_f (en rfl (en rfl (en rfl (en rfl (en rfl (en rfl (en rfl es))))))) es) (nd_of rfl) rfl ?_
            refine xw_nil ?_
            refine hK20 _ _ ?_
            refine xc_gen (fun g hg => ?_)
            have s0 := (hg 0).trans (en rfl (en rfl (en rfl (en rfl (en rfl (en rfl (en rfl (en rfl (en rfl (en rfl (en rfl (en rfl (en rfl (en rfl (en rfl (en rfl (en rfl (en rfl (en rfl (en rfl (en rfl (en rfl (en rfl (en rfl (en rfl s0)))))))))))))))))))))))))
            have s1 := (hg 1).trans (en rfl (en rfl (en rfl (en rfl (en rfl (en rfl (en rfl (en rfl (en rfl (en rfl (en rfl (en rfl (en rfl (en rfl (en rfl (en rfl (en rfl (en rfl (en rfl (en rfl (en rfl (en rfl (en rfl (en rfl (en rfl s1)))))))))))))))))))))))))
            have s2 := (hg 2).trans (en rfl (en rfl (en rfl (en rfl (en rfl (en rfl (en rfl (en rfl (en rfl (en rfl (en rfl (en rfl (en rfl (en rfl (en rfl (en rfl (en rfl (en rfl (en rfl (en rfl (en rfl (en rfl (en rfl (en rfl (en rfl s2)))))))))))))))))))))))))
            have s4 := (hg 4).trans (en rfl (en rfl (en rfl (en rfl (en rfl (en rfl (en rfl (en rfl (en rfl (en rfl (en rfl (en rfl (en rfl (en rfl (en rfl (en rfl (en rfl (en rfl (en rfl (en rfl (en rfl (en rfl (en rfl (en rfl (en rfl s4)))))))))))))))))))))))))
            have s5 := (hg 5).trans (en rfl (en rfl (en rfl (en rfl (en rfl (en rfl (en rfl (en rfl (en rfl (en rfl (en rfl (en rfl (en rfl (en rfl (en rfl (en rfl (en rfl (en rfl (en rfl (en rfl (en rfl (en rfl (en rfl (en rfl (en rfl s5)))))))))))))))))))))))))
            have s6 := (hg 6).trans (en rfl (en rfl (en rfl (en rfl (en rfl (en rfl (en rfl (en rfl (en rfl (en rfl (en rfl (en rfl (en rfl (en rfl (en rfl (en rfl (en rfl (en rfl (en rfl (en rfl (en rfl (en rfl (en rfl (en rfl (en rfl s6)))))))))))))))))))))))))
            have s7 := (hg 7).trans (en rfl (en rfl (en rfl (en rfl (en rfl (en rfl (en rfl (en rfl (en rfl (en rfl (en rfl (en rfl (en rfl (en rfl (en rfl (en rfl (en rfl (en rfl (en rfl (en rfl (en rfl (en rfl (en rfl (en rfl (en rfl s7)))))))))))))))))))))))))
            have s8 := (hg 8).trans (en rfl (en rfl (en rfl (en rfl (en rfl (en rfl (en rfl (en rfl (en rfl (en rfl (en rfl (en rfl (en rfl (en rfl (en rfl (en rfl (en rfl (en rfl (en rfl (en rfl (en rfl (en rfl (en rfl (en rfl (en rfl s8)))))))))))))))))))))))))
            have s32 := (hg 32).trans (en rfl (en rfl (en rfl (en rfl (en rfl (en rfl (en rfl (en rfl (en rfl (en rfl (en rfl (en rfl (en rfl (en rfl (en rfl (en rfl (en rfl (en rfl (en rfl (en rfl (en rfl (en rfl (en rfl (en rfl (en rfl s32)))))))))))))))))))))))))
            have s42 := (hg 42).trans (en rfl (en rfl (en rfl (en rfl (en rfl (en rfl (en rfl (en rfl (en rfl (en rfl (en rfl (en rfl (en rfl (en rfl (en rfl (en rfl (en rfl (en rfl (en rfl (en rfl (en rfl (en rfl (en rfl (en rfl (en rfl s42)))))))))))))))))))))))))
            have s43 := (hg 43).trans (en rfl (en rfl (en rfl (en rfl (en rfl (en rfl (en rfl (en rfl (en rfl (en rfl (en rfl (en rfl (en rfl (en rfl (en rfl (en rfl (en rfl (en rfl (en rfl (en rfl (en rfl (en rfl (en rfl (en rfl (en rfl s43)))))))))))))))))))))))))
            have s44 := (hg 44).trans (en rfl (en rfl (en rfl (en rfl (en rfl (en rfl (en rfl (en rfl (en rfl (en rfl (en rfl (en rfl (en rfl (en rfl (en rfl (en rfl (en rfl (en rfl (en rfl (en rfl (en rfl (en rfl (en rfl (en rfl (en rfl s44)))))))))))))))))))))))))
            have s45 := (hg 45).trans (en rfl (en rfl (en rfl (en rfl (en rfl (en rfl (en rfl (en rfl (en rfl (en rfl (en rfl (en rfl (en rfl (en rfl (en rfl (en rfl (en rfl (en rfl (en rfl (en rfl (en rfl (en rfl (en rfl (en rfl (en rfl s45)))))))))))))))))))))))))
            have s100 := (hg 100).trans es
            clear hg
            refine xc_cond s100 (fun hc => by cases hc) (fun _ => ?_)
            refine xc_skip ?_
            refine hK19 _ _ ?_
            refine xc_seq (fun K hK21 => ?_)
            refine xc_seq (fun K hK22 => ?_)
            refine xc_region ?_
            refine x_val (r_move s8) (nd_of rfl) rfl ?_
            refine x_val (r_fieldAddr (o' := 1) Try.underlying26 rfl Try.sizeOf3 rfl (en rfl s4) rfl) (nd_of rfl) rfl ?_
            refine x_val (r_load h 3 rfl Try.isAgg3 es gc1) (nd_of rfl) rfl ?_
            refine x_val (r_fieldAddr (o' := 3) Try.underlying26 rfl Try.sizeOf23 rfl (en rfl (en rfl (en rfl s4))) rfl) (nd_of rfl) rfl ?_
            refine x_val (r_load h 3 rfl Try.isAgg23 es gc3) (nd_of rfl) rfl ?_
            have h := h.f1
            refine x_enter (r_call Try.call10 (.cons (en rfl (en rfl (en rfl (en rfl es)))) (.cons (en rfl (en rfl es)) (.cons es .nil)))) (nd_of rfl) rfl (insP hinv (hsa.sets ha) (by omega) (ha.sp.sreads 3 rfl) h) ?_
            rintro _ w ⟨rfl, h⟩
            refine x_val (r_neq es ec (decide_eq_false (by exact fun hh => hh (err_zero hp2)))) (nd_of rfl) rfl ?_
            refine x_val (r_move es) (nd_of rfl) rfl ?_
            refine x_take (d := 109) rfl rfl es ?_
            refine x_val (r_move (en rfl (en rfl (en rfl (en rfl (en rfl (en rfl (en rfl (en rfl s8))))))))) (nd_of rfl) rfl ?_
            refine x_take (d := 109) rfl rfl (en rfl es) ?_
            refine x_val (r_fieldAddr (o' := 1) Try.underlying26 rfl Try.sizeOf3 rfl (en rfl (en rfl (en rfl (en rfl (en rfl (en rfl (en rfl (en rfl (en rfl s5))))))))) rfl) (nd_of rfl) rfl ?_
            refine x_take (d := 109) rfl rfl (en rfl (en rfl es)) ?_
            refine x_val (r_load h 2 rfl Try.isAgg3 es gc1) (nd_of rfl) rfl ?_
            refine x_take (d := 109) rfl rfl (en rfl (en rfl (en rfl es))) ?_
            refine x_val (r_fieldAddr (o' := 2) Try.underlying26 rfl Try.sizeOf3 rfl (en rfl (en rfl (en rfl (en rfl (en rfl (en rfl (en rfl (en rfl (en rfl (en rfl (en rfl s5))))))))))) rfl) (nd_of rfl) rfl ?_
            refine x_take (d := 109) rfl rfl (en rfl (en rfl (en rfl (en rfl es)))) ?_
            refine x_val (r_load h 2 rfl Try.isAgg3 es gc2) (nd_of rfl) rfl ?_
            refine x_take (d := 109) rfl rfl (en rfl (en rfl (en rfl (en rfl (en rfl es))))) ?_
            refine x_val (r_fieldAddr (o' := 4) Try.underlying26 rfl Try.sizeOf24 rfl (en rfl (en rfl (en rfl (en rfl (en rfl (en rfl (en rfl (en rfl (en rfl (en rfl (en rfl (en rfl (en rfl s5))))))))))))) rfl) (nd_of rfl) rfl ?_
            refine x_take (d := 109) rfl rfl (en rfl (en rfl (en rfl (en rfl (en rfl (en rfl es)))))) ?_
            refine x_val (r_load h 2 rfl Try.isAgg24 es gc4) (nd_of rfl) rfl ?_
            refine x_take (d := 109) rfl rfl (en rfl (en rfl (en rfl (en rfl (en rfl (en rfl (en rfl es))))))) ?_
            refine x_enter (r_call Try.call12 (.cons (en rfl (en rfl (en rfl (en rfl (en rfl (en rfl es)))))) (.cons (en rfl (en rfl (en rfl (en rfl es)))) (.cons (en rfl (en rfl es)) (.cons es .nil))))) (nd_of rfl) rfl (patP (hinv.ins (hsa.sets ha)) (hsb.patch hb) (by omega) (hb.cp.creads 3 rfl) h) ?_
            rintro _ w ⟨rfl, h⟩
            refine x_take (d := 109) rfl rfl (en rfl (en rfl (en rfl (en rfl (en rfl (en rfl (en rfl (en rfl es)))))))) ?_
            refine x_val (r_neq es ec (decide_eq_false (by exact fun hh => hh (err_zero ⟨hp1.1, hp1.2.1, by have := hp1.2.2; omega⟩)))) (nd_of rfl) rfl ?_
            have hI2 := (hinv.ins (i := oa.k) (hsa.sets ha)).pat (i := ob.k) (j := ob.m) (hsb.patch hb)
            obtain ⟨LL, hLL⟩ : ∃ LL, LL = patL (insL L oa.k oa.sets) ob.k ob.m ob.cs := ⟨_, rfl⟩
            rw [← hLL] at h hI2
            refine x_val (r_pick_f (en rfl (en rfl (en rfl (en rfl (en rfl (en rfl (en rfl (en rfl (en rfl es))))))))) es) (nd_of rfl) rfl ?_
            refine x_val (r_move es) (nd_of rfl) rfl ?_
            refine x_take (d := 120) rfl rfl es ?_
            refine x_val (r_move (en rfl (en rfl (en rfl (en rfl (en rfl (en rfl (en rfl (en rfl (en rfl (en rfl (en rfl (en rfl (en rfl (en rfl (en rfl (en rfl (en rfl (en rfl (en rfl s7)))))))))))))))))))) (nd_of rfl) rfl ?_
            refine x_take (d := 120) rfl rfl (en rfl es) ?_
            have h := h.f1
            refine x_enter (r_call Try.call14 (.cons es .nil)) (nd_of rfl) rfl (lenP h) ?_
            rintro _ w ⟨rfl, h⟩
            refine x_take (d := 120) rfl rfl (en rfl (en rfl es)) ?_
            refine x_val (r_move (en rfl (en rfl (en rfl (en rfl (en rfl (en rfl (en rfl (en rfl (en rfl (en rfl (en rfl (en rfl (en rfl (en rfl (en rfl (en rfl (en rfl (en rfl (en rfl (en rfl (en rfl s8)))))))))))))))))))))) (nd_of rfl) rfl ?_
            refine x_take (d := 120) rfl rfl (en rfl (en rfl (en rfl es))) ?_
            have h := h.f1
            refine x_enter (r_call Try.call14 (.cons es .nil)) (nd_of rfl) rfl (lenP h) ?_
            rintro _ w ⟨rfl, h⟩
            have h := h.f3
            have h := h.f3
            have h := h.f2
            have h := h.f3
            refine x_take (d := 120) rfl rfl (en rfl (en rfl (en rfl (en rfl es)))) ?_
            refine x_val (r_neq (en rfl (en rfl es)) es (decide_eq_false (by simp))) (nd_of rfl) rfl ?_
            have hLb := hI2.len
            obtain ⟨B2, hB2⟩ : ∃ B2, B2 = plc (n + 1 + 1) := ⟨_, rfl⟩
            rw [← hB2] at h
            refine x_val (r_pick_f (en rfl (en rfl (en rfl (en rfl (en rfl es))))) es) (nd_of rfl) rfl ?_
            refine xw_nil ?_
            refine hK22 _ _ ?_
            refine xc_gen (fun g hg => ?_)
            have s0 := (hg 0).trans (en rfl (en rfl (en rfl (en rfl (en rfl (en rfl (en rfl (en rfl (en rfl (en rfl (en rfl (en rfl (en rfl (en rfl (en rfl (en rfl (en rfl (en rfl (en rfl (en rfl (en rfl (en rfl (en rfl (en rfl (en rfl s0)))))))))))))))))))))))))
            have s1 := (hg 1).trans (en rfl (en rfl (en rfl (en rfl (en rfl (en rfl (en rfl (en rfl (en rfl (en rfl (en rfl (en rfl (en rfl (en rfl (en rfl (en rfl (en rfl (en rfl (en rfl (en rfl (en rfl (en rfl (en rfl (en rfl (en rfl s1)))))))))))))))))))))))))
            have s2 := (hg 2).trans (en rfl (en rfl (en rfl (en rfl (en rfl (en rfl (en rfl (en rfl (en rfl (en rfl (en rfl (en rfl (en rfl (en rfl (en rfl (en rfl (en rfl (en rfl (en rfl (en rfl (en rfl (en rfl (en rfl (en rfl (en rfl s2)))))))))))))))))))))))))
            have s4 := (hg 4).trans (en rfl (en rfl (en rfl (en rfl (en rfl (en rfl (en rfl (en rfl (en rfl (en rfl (en rfl (en rfl (en rfl (en rfl (en rfl (en rfl (en rfl (en rfl (en rfl (en rfl (en rfl (en rfl (en rfl (en rfl (en rfl s4)))))))))))))))))))))))))
            have s5 := (hg 5).trans (en rfl (en rfl (en rfl (en rfl (en rfl (en rfl (en rfl (en rfl (en rfl (en rfl (en rfl (en rfl (en rfl (en rfl (en rfl (en rfl (en rfl (en rfl (en rfl (en rfl (en rfl (en rfl (en rfl (en rfl (en rfl s5)))))))))))))))))))))))))
            have s6 := (hg 6).trans (en rfl (en rfl (en rfl (en rfl (en rfl (en rfl (en rfl (en rfl (en rfl (en rfl (en rfl (en rfl (en rfl (en rfl (en rfl (en rfl (en rfl (en rfl (en rfl (en rfl (en rfl (en rfl (en rfl (en rfl (en rfl s6)))))))))))))))))))))))))
            have s7 := (hg 7).trans (en rfl (en rfl (en rfl (en rfl (en rfl (en rfl (en rfl (en rfl (en rfl (en rfl (en rfl (en rfl (en rfl (en rfl (en rfl (en rfl (en rfl (en rfl (en rfl (en rfl (en rfl (en rfl (en rfl (en rfl (en rfl s7)))))))))))))))))))))))))
            have s8 := (hg 8).trans (en rfl (en rfl (en rfl (en rfl (en rfl (en rfl (en rfl (en rfl (en rfl (en rfl (en rfl (en rfl (en rfl (en rfl (en rfl (en rfl (en rfl (en rfl (en rfl (en rfl (en rfl (en rfl (en rfl (en rfl (en rfl s8)))))))))))))))))))))))))
            have s32 := (hg 32).trans (en rfl (en rfl (en rfl (en rfl (en rfl (en rfl (en rfl (en rfl (en rfl (en rfl (en rfl (en rfl (en rfl (en rfl (en rfl (en rfl (en rfl (en rfl (en rfl (en rfl (en rfl (en rfl (en rfl (en rfl (en rfl s32)))))))))))))))))))))))))
            have s42 := (hg 42).trans (en rfl (en rfl (en rfl (en rfl (en rfl (en rfl (en rfl (en rfl (en rfl (en rfl (en rfl (en rfl (en rfl (en rfl (en rfl (en rfl (en rfl (en rfl (en rfl (en rfl (en rfl (en rfl (en rfl (en rfl (en rfl s42)))))))))))))))))))))))))
            have s43 := (hg 43).trans (en rfl (en rfl (en rfl (en rfl (en rfl (en rfl (en rfl (en rfl (en rfl (en rfl (en rfl (en rfl (en rfl (en rfl (en rfl (en rfl (en rfl (en rfl (en rfl (en rfl (en rfl (en rfl (en rfl (en rfl (en rfl s43)))))))))))))))))))))))))
            have s44 := (hg 44).trans (en rfl (en rfl (en rfl (en rfl (en rfl (en rfl (en rfl (en rfl (en rfl (en rfl (en rfl (en rfl (en rfl (en rfl (en rfl (en rfl (en rfl (en rfl (en rfl (en rfl (en rfl (en rfl (en rfl (en rfl (en rfl s44)))))))))))))))))))))))))
            have s45 := (hg 45).trans (en rfl (en rfl (en rfl (en rfl (en rfl (en rfl (en rfl (en rfl (en rfl (en rfl (en rfl (en rfl (en rfl (en rfl (en rfl (en rfl (en rfl (en rfl (en rfl (en rfl (en rfl (en rfl (en rfl (en rfl (en rfl s45)))))))))))))))))))))))))
            have s100 := (hg 100).trans (en rfl (en rfl (en rfl (en rfl (en rfl (en rfl (en rfl (en rfl (en rfl (en rfl (en rfl (en rfl (en rfl (en rfl (en rfl (en rfl (en rfl (en rfl (en rfl (en rfl (en rfl (en rfl (en rfl (en rfl (en rfl s100)))))))))))))))))))))))))
            have s126 := (hg 126).trans es
            clear hg
            refine xc_cond s126 (fun hc => by cases hc) (fun _ => ?_)
            refine xc_skip ?_
            refine hK21 _ _ ?_
            refine xc_seq (fun K hK23 => ?_)
            refine xc_seq (fun K hK24 => ?_)
            refine xc_region ?_
            refine x_val (r_move s7) (nd_of rfl) rfl ?_
            refine x_enter (r_call Try.call14 (.cons es .nil)) (nd_of rfl) rfl (lenP h) ?_
            rintro _ w ⟨rfl, h⟩
            refine x_val (r_move ec) (nd_of rfl) rfl ?_
            refine xw_nil ?_
            refine hK24 _ _ ?_
            refine xc_gen (fun g hg => ?_)
            have s0 := (hg 0).trans (en rfl (en rfl (en rfl s0)))
            have s1 := (hg 1).trans (en rfl (en rfl (en rfl s1)))
            have s2 := (hg 2).trans (en rfl (en rfl (en rfl s2)))
            have s4 := (hg 4).trans (en rfl (en rfl (en rfl s4)))
            have s5 := (hg 5).trans (en rfl (en rfl (en rfl s5)))
            have s6 := (hg 6).trans (en rfl (en rfl (en rfl s6)))
            have s7 := (hg 7).trans (en rfl (en rfl (en rfl s7)))
            have s8 := (hg 8).trans (en rfl (en rfl (en rfl s8)))
            have s32 := (hg 32).trans (en rfl (en rfl (en rfl s32)))
            have s42 := (hg 42).trans (en rfl (en rfl (en rfl s42)))
            have s43 := (hg 43).trans (en rfl (en rfl (en rfl s43)))
            have s44 := (hg 44).trans (en rfl (en rfl (en rfl s44)))
            have s45 := (hg 45).trans (en rfl (en rfl (en rfl s45)))
            have s100 := (hg 100).trans (en rfl (en rfl (en rfl s100)))
            have s126 := (hg 126).trans (en rfl (en rfl (en rfl s126)))
            have s128 := (hg 128).trans (en rfl es)
            have s129 := (hg 129).trans es
            clear hg
            refine xc_block ?_
            obtain ⟨G25, hG25⟩ : ∃ g0 : Nat → Value, g0 = g := ⟨_, rfl⟩
            have zG25_0 : G25 0 = _ := (congrFun hG25 0).trans s0
            have zG25_1 : G25 1 = _ := (congrFun hG25 1).trans s1
            have zG25_2 : G25 2 = _ := (congrFun hG25 2).trans s2
            have zG25_4 : G25 4 = _ := (congrFun hG25 4).trans s4
            have zG25_5 : G25 5 = _ := (congrFun hG25 5).trans s5
            have zG25_7 : G25 7 = _ := (congrFun hG25 7).trans s7
            have zG25_8 : G25 8 = _ := (congrFun hG25 8).trans s8
            have zG25_32 : G25 32 = _ := (congrFun hG25 32).trans s32
            have zG25_42 : G25 42 = _ := (congrFun hG25 42).trans s42
            have zG25_43 : G25 43 = _ := (congrFun hG25 43).trans s43
            have zG25_44 : G25 44 = _ := (congrFun hG25 44).trans s44
            have zG25_45 : G25 45 = _ := (congrFun hG25 45).trans s45
            have zG25_100 : G25 100 = _ := (congrFun hG25 100).trans s100
            have zG25_126 : G25 126 = _ := (congrFun hG25 126).trans s126
            have zG25_128 : G25 128 = _ := (congrFun hG25 128).trans s128
            refine xc_loop (fun m f w => (∃ (k : Nat), m = LL.length - k ∧ k ≤ LL.length ∧ f 129 = .int .i64 (k : Int) ∧ SatL E w (Pa bp LL B2 :: Pa bq LL B2 :: Cells b5 #[.int .i64 ob.kind, .int .i64 ob.k, .int .i64 ob.m, ob.lv, ob.xv] 26 :: Cells b4 #[.int .i64 oa.kind, .int .i64 oa.k, .int .i64 oa.m, oa.lv, oa.xv] 26 :: Old W :: R)) ∧ (f 0 = G25 0 ∧ f 1 = G25 1 ∧ f 2 = G25 2 ∧ f 4 = G25 4 ∧ f 5 = G25 5 ∧ f 7 = G25 7 ∧ f 8 = G25 8 ∧ f 32 = G25 32 ∧ f 42 = G25 42 ∧ f 43 = G25 43 ∧ f 44 = G25 44 ∧ f 45 = G25 45 ∧ f 100 = G25 100 ∧ f 126 = G25 126 ∧ f 128 = G25 128)) (LL.length) ⟨⟨0, by omega, by omega, s129, h⟩, ⟨congrFun hG25.symm 0, congrFun hG25.symm 1, congrFun hG25.symm 2, congrFun hG25.symm 4, congrFun hG25.symm 5, congrFun hG25.symm 7, congrFun hG25.symm 8, congrFun hG25.symm 32, congrFun hG25.symm 42, congrFun hG25.symm 43, congrFun hG25.symm 44, congrFun hG25.symm 45, congrFun hG25.symm 100, congrFun hG25.symm 126, congrFun hG25.symm 128⟩⟩ ?_
            rintro m g w ⟨⟨k, hm, hkl, s129, h⟩, ⟨y0, y1, y2, y4, y5, y7, y8, y32, y42, y43, y44, y45, y100, y126, y128⟩⟩
            have s0 := y0.trans zG25_0
            have s1 := y1.trans zG25_1
            have s2 := y2.trans zG25_2
            have s4 := y4.trans zG25_4
            have s5 := y5.trans zG25_5
            have s7 := y7.trans zG25_7
            have s8 := y8.trans zG25_8
            have s32 := y32.trans zG25_32
            have s42 := y42.trans zG25_42
            have s43 := y43.trans zG25_43
            have s44 := y44.trans zG25_44
            have s45 := y45.trans zG25_45
            have s100 := y100.trans zG25_100
            have s126 := y126.trans zG25_126
            have s128 := y128.trans zG25_128
            refine xc_seq (fun K hK26 => ?_)
            refine xc_region ?_
            refine x_val (r_lss s129 s128 rfl) (nd_of rfl) rfl ?_
            refine xw_nil ?_
            refine hK26 _ _ ?_
            refine xc_gen (fun g hg => ?_)
            have s0 := (hg 0).trans (en rfl s0)
            have s1 := (hg 1).trans (en rfl s1)
            have s2 := (hg 2).trans (en rfl s2)
            have s4 := (hg 4).trans (en rfl s4)
            have s5 := (hg 5).trans (en rfl s5)
            have s7 := (hg 7).trans (en rfl s7)
            have s8 := (hg 8).trans (en rfl s8)
            have s32 := (hg 32).trans (en rfl s32)
            have s42 := (hg 42).trans (en rfl s42)
            have s43 := (hg 43).trans (en rfl s43)
            have s44 := (hg 44).trans (en rfl s44)
            have s45 := (hg 45).trans (en rfl s45)
            have s100 := (hg 100).trans (en rfl s100)
            have s126 := (hg 126).trans (en rfl s126)
            have s128 := (hg 128).trans (en rfl s128)
            have s129 := (hg 129).trans (en rfl s129)
            have s130 := (hg 130).trans es
            clear hg
            refine xc_seq (fun K hK27 => ?_)
            refine xc_cond s130 (fun hc => ?_) (fun hc => ?_)
            ·
              refine xc_skip ?_
              refine hK27 _ _ ?_
              refine xc_seq (fun K hK28 => ?_)
              refine xc_block ?_
              refine xc_seq (fun K hK29 => ?_)
              have hkl2 : k < LL.length := by have := of_decide_eq_true hc; omega
              obtain ⟨l, hl⟩ : ∃ l, LL[k]? = some l := ⟨_, List.getElem?_eq_getElem hkl2⟩
              have hle := hI2.each l (List.mem_of_getElem? hl)
              refine xc_region ?_
              refine x_val (r_move s129) (nd_of rfl) rfl ?_
              refine x_val (r_assign es) (nd_of rfl) rfl ?_
              refine xw_nil ?_
              refine hK29 _ _ ?_
              refine xc_gen (fun g hg => ?_)
              have s0 := (hg 0).trans (en rfl (en rfl s0))
              have s1 := (hg 1).trans (en rfl (en rfl s1))
              have s2 := (hg 2).trans (en rfl (en rfl s2))
              have s4 := (hg 4).trans (en rfl (en rfl s4))
              have s5 := (hg 5).trans (en rfl (en rfl s5))
              have s7 := (hg 7).trans (en rfl (en rfl s7))
              have s8 := (hg 8).trans (en rfl (en rfl s8))
              have s11 := (hg 11).trans es
              have s32 := (hg 32).trans (en rfl (en rfl s32))
              have s42 := (hg 42).trans (en rfl (en rfl s42))
              have s43 := (hg 43).trans (en rfl (en rfl s43))
              have s44 := (hg 44).trans (en rfl (en rfl s44))
              have s45 := (hg 45).trans (en rfl (en rfl s45))
              have s100 := (hg 100).trans (en rfl (en rfl s100))
              have s126 := (hg 126).trans (en rfl (en rfl s126))
              have s128 := (hg 128).trans (en rfl (en rfl s128))
              have s129 := (hg 129).trans (en rfl (en rfl s129))
              have s130 := (hg 130).trans (en rfl (en rfl s130))
              clear hg
              refine xc_seq (fun K hK30 => ?_)
              refine xc_region ?_
              refine x_val (r_move s7) (nd_of rfl) rfl ?_
              refine x_val (r_move (en rfl s11)) (nd_of rfl) rfl ?_
              refine x_enter (r_call Try.call15 (.cons (en rfl es) (.cons es .nil))) (nd_of rfl) rfl (atP (n := k) (l := l) hl (by omega) (by omega) h) ?_
              rintro _ w ⟨v3, rfl, h⟩
              refine x_val (r_move es) (nd_of rfl) rfl ?_
              refine x_val (r_extract es gc0) (nd_of rfl) rfl ?_
              refine x_val (r_extract (en rfl es) gc1) (nd_of rfl) rfl ?_
              refine x_val (r_assign (en rfl es)) (nd_of rfl) rfl ?_
              refine x_val (r_assign (en rfl es)) (nd_of rfl) rfl ?_
              refine xw_nil ?_
              refine hK30 _ _ ?_
              refine xc_gen (fun g hg => ?_)
              have s0 := (hg 0).trans (en rfl (en rfl (en rfl (en rfl (en rfl (en rfl (en rfl (en rfl s0))))))))
              have s1 := (hg 1).trans (en rfl (en rfl (en rfl (en rfl (en rfl (en rfl (en rfl (en rfl s1))))))))
              have s2 := (hg 2).trans (en rfl (en rfl (en rfl (en rfl (en rfl (en rfl (en rfl (en rfl s2))))))))
              have s4 := (hg 4).trans (en rfl (en rfl (en rfl (en rfl (en rfl (en rfl (en rfl (en rfl s4))))))))
              have s5 := (hg 5).trans (en rfl (en rfl (en rfl (en rfl (en rfl (en rfl (en rfl (en rfl s5))))))))
              have s7 := (hg 7).trans (en rfl (en rfl (en rfl (en rfl (en rfl (en rfl (en rfl (en rfl s7))))))))
              have s8 := (hg 8).trans (en rfl (en rfl (en rfl (en rfl (en rfl (en rfl (en rfl (en rfl s8))))))))
              have s11 := (hg 11).trans (en rfl (en rfl (en rfl (en rfl (en rfl (en rfl (en rfl (en rfl s11))))))))
              have s12 := (hg 12).trans (en rfl es)
              have s13 := (hg 13).trans es
              have s32 := (hg 32).trans (en rfl (en rfl (en rfl (en rfl (en rfl (en rfl (en rfl (en rfl s32))))))))
              have s42 := (hg 42).trans (en rfl (en rfl (en rfl (en rfl (en rfl (en rfl (en rfl (en rfl s42))))))))
              have s43 := (hg 43).trans (en rfl (en rfl (en rfl (en rfl (en rfl (en rfl (en rfl (en rfl s43))))))))
              have s44 := (hg 44).trans (en rfl (en rfl (en rfl (en rfl (en rfl (en rfl (en rfl (en rfl s44))))))))
              have s45 := (hg 45).trans (en rfl (en rfl (en rfl (en rfl (en rfl (en rfl (en rfl (en rfl s45))))))))
              have s100 := (hg 100).trans (en rfl (en rfl (en rfl (en rfl (en rfl (en rfl (en rfl (en rfl s100))))))))
              have s126 := (hg 126).trans (en rfl (en rfl (en rfl (en rfl (en rfl (en rfl (en rfl (en rfl s126))))))))
              have s128 := (hg 128).trans (en rfl (en rfl (en rfl (en rfl (en rfl (en rfl (en rfl (en rfl s128))))))))
              have s129 := (hg 129).trans (en rfl (en rfl (en rfl (en rfl (en rfl (en rfl (en rfl (en rfl s129))))))))
              have s130 := (hg 130).trans (en rfl (en rfl (en rfl (en rfl (en rfl (en rfl (en rfl (en rfl s130))))))))
              clear hg
              refine xc_seq (fun K hK31 => ?_)
              refine xc_region ?_
              refine x_val (r_move s8) (nd_of rfl) rfl ?_
              refine x_val (r_move (en rfl s11)) (nd_of rfl) rfl ?_
              have h := h.f2
              refine x_enter (r_call Try.call15 (.cons (en rfl es) (.cons es .nil))) (nd_of rfl) rfl (atP (n := k) (l := l) hl (by omega) (by omega) h) ?_
              rintro _ w ⟨v4, rfl, h⟩
              refine x_val (r_move es) (nd_of rfl) rfl ?_
              refine x_val (r_extract es gc0) (nd_of rfl) rfl ?_
              refine x_val (r_extract (en rfl es) gc1) (nd_of rfl) rfl ?_
              refine x_val (r_assign (en rfl es)) (nd_of rfl) rfl ?_
              refine x_val (r_assign (en rfl es)) (nd_of rfl) rfl ?_
              refine xw_nil ?_
              refine hK31 _ _ ?_
              refine xc_gen (fun g hg => ?_)
              have s0 := (hg 0).trans (en rfl (en rfl (en rfl (en rfl (en rfl (en rfl (en rfl (en rfl s0))))))))
              have s1 := (hg 1).trans (en rfl (en rfl (en rfl (en rfl (en rfl (en rfl (en rfl (en rfl s1))))))))
              have s2 := (hg 2).trans (en rfl (en rfl (en rfl (en rfl (en rfl (en rfl (en rfl (en rfl s2))))))))
              have s4 := (hg 4).trans (en rfl (en rfl (en rfl (en rfl (en rfl (en rfl (en rfl (en rfl s4))))))))
              have s5 := (hg 5).trans (en rfl (en rfl (en rfl (en rfl (en rfl (en rfl (en rfl (en rfl s5))))))))
              have s7 := (hg 7).trans (en rfl (en rfl (en rfl (en rfl (en rfl (en rfl (en rfl (en rfl s7))))))))
              have s8 := (hg 8).trans (en rfl (en rfl (en rfl (en rfl (en rfl (en rfl (en rfl (en rfl s8))))))))
              have s11 := (hg 11).trans (en rfl (en rfl (en rfl (en rfl (en rfl (en rfl (en rfl (en rfl s11))))))))
              have s12 := (hg 12).trans (en rfl (en rfl (en rfl (en rfl (en rfl (en rfl (en rfl (en rfl s12))))))))
              have s13 := (hg 13).trans (en rfl (en rfl (en rfl (en rfl (en rfl (en rfl (en rfl (en rfl s13))))))))
              have s14 := (hg 14).trans (en rfl es)
              have s15 := (hg 15).trans es
              have s32 := (hg 32).trans (en rfl (en rfl (en rfl (en rfl (en rfl (en rfl (en rfl (en rfl s32))))))))
              have s42 := (hg 42).trans (en rfl (en rfl (en rfl (en rfl (en rfl (en rfl (en rfl (en rfl s42))))))))
              have s43 := (hg 43).trans (en rfl (en rfl (en rfl (en rfl (en rfl (en rfl (en rfl (en rfl s43))))))))
              have s44 := (hg 44).trans (en rfl (en rfl (en rfl (en rfl (en rfl (en rfl (en rfl (en rfl s44))))))))
              have s45 := (hg 45).trans (en rfl (en rfl (en rfl (en rfl (en rfl (en rfl (en rfl (en rfl s45))))))))
              have s100 := (hg 100).trans (en rfl (en rfl (en rfl (en rfl (en rfl (en rfl (en rfl (en rfl s100))))))))
              have s126 := (hg 126).trans (en rfl (en rfl (en rfl (en rfl (en rfl (en rfl (en rfl (en rfl s126))))))))
              have s128 := (hg 128).trans (en rfl (en rfl (en rfl (en rfl (en rfl (en rfl (en rfl (en rfl s128))))))))
              have s129 := (hg 129).trans (en rfl (en rfl (en rfl (en rfl (en rfl (en rfl (en rfl (en rfl s129))))))))
              have s130 := (hg 130).trans (en rfl (en rfl (en rfl (en rfl (en rfl (en rfl (en rfl (en rfl s130))))))))
              clear hg
              refine xc_seq (fun K hK32 => ?_)
              refine xc_region ?_
              refine x_val (r_move s13) (nd_of rfl) rfl ?_
              refine x_val (r_neq es ec (r := false) rfl) (nd_of rfl) rfl ?_
              refine x_val (r_move es) (nd_of rfl) rfl ?_
              refine x_take (d := 146) rfl rfl es ?_
              refine x_val (r_move (en rfl (en rfl (en rfl s15)))) (nd_of rfl) rfl ?_
              refine x_take (d := 146) rfl rfl (en rfl es) ?_
              refine x_val (r_neq es ec (r := false) rfl) (nd_of rfl) rfl ?_
              refine x_val (r_pick_f (en rfl (en rfl es)) es) (nd_of rfl) rfl ?_
              refine x_val (r_move es) (nd_of rfl) rfl ?_
              refine x_take (d := 150) rfl rfl es ?_
              refine x_val (r_move (en rfl (en rfl (en rfl (en rfl (en rfl (en rfl (en rfl s12)))))))) (nd_of rfl) rfl ?_
              refine x_take (d := 150) rfl rfl (en rfl es) ?_
              refine x_val (r_move (en rfl (en rfl (en rfl (en rfl (en rfl (en rfl (en rfl (en rfl s14))))))))) (nd_of rfl) rfl ?_
              refine x_take (d := 150) rfl rfl (en rfl (en rfl es)) ?_
              refine x_enter (r_call Try.call16 (.cons (en rfl es) (.cons es .nil))) (nd_of rfl) rfl (same_yes (l := l) ((a_row h.f2).weak (fun _ h => h.f2)) (a_row h) hle.2.2 (by omega) h) ?_
              rintro _ w ⟨rfl, h⟩
              have h := (h.f0).drop
              have h := (h.f1).drop
              have h := h.f3
              have h := h.f3
              have h := h.f2
              have h := h.f3
              refine x_take (d := 150) rfl rfl (en rfl (en rfl (en rfl es))) ?_
              refine x_val (r_not es rfl) (nd_of rfl) rfl ?_
              refine x_val (r_pick_f (en rfl (en rfl (en rfl (en rfl es)))) es) (nd_of rfl) rfl ?_
              refine xw_nil ?_
              refine hK32 _ _ ?_
              refine xc_gen (fun g hg => ?_)
              have s0 := (hg 0).trans (en rfl (en rfl (en rfl (en rfl (en rfl (en rfl (en rfl (en rfl (en rfl (en rfl (en rfl (en rfl s0))))))))))))
              have s1 := (hg 1).trans (en rfl (en rfl (en rfl (en rfl (en rfl (en rfl (en rfl (en rfl (en rfl (en rfl (en rfl (en rfl s1))))))))))))
              have s2 := (hg 2).trans (en rfl (en rfl (en rfl (en rfl (en rfl (en rfl (en rfl (en rfl (en rfl (en rfl (en rfl (en rfl s2))))))))))))
              have s4 := (hg 4).trans (en rfl (en rfl (en rfl (en rfl (en rfl (en rfl (en rfl (en rfl (en rfl (en rfl (en rfl (en rfl s4))))))))))))
              have s5 := (hg 5).trans (en rfl (en rfl (en rfl (en rfl (en rfl (en rfl (en rfl (en rfl (en rfl (en rfl (en rfl (en rfl s5))))))))))))
              have s7 := (hg 7).trans (en rfl (en rfl (en rfl (en rfl (en rfl (en rfl (en rfl (en rfl (en rfl (en rfl (en rfl (en rfl s7))))))))))))
              have s8 := (hg 8).trans (en rfl (en rfl (en rfl (en rfl (en rfl (en rfl (en rfl (en rfl (en rfl (en rfl (en rfl (en rfl s8))))))))))))
              have s11 := (hg 11).trans (en rfl (en rfl (en rfl (en rfl (en rfl (en rfl (en rfl (en rfl (en rfl (en rfl (en rfl (en rfl s11))))))))))))
              have s12 := (hg 12).trans (en rfl (en rfl (en rfl (en rfl (en rfl (en rfl (en rfl (en rfl (en rfl (en rfl (en rfl (en rfl s12))))))))))))
              have s13 := (hg 13).trans (en rfl (en rfl (en rfl (en rfl (en rfl (en rfl (en rfl (en rfl (en rfl (en rfl (en rfl (en rfl s13))))))))))))
              have s14 := (hg 14).trans (en rfl (en rfl (en rfl (en rfl (en rfl (en rfl (en rfl (en rfl (en rfl (en rfl (en rfl (en rfl s14))))))))))))
              have s15 := (hg 15).trans (en rfl (en rfl (en rfl (en rfl (en rfl (en rfl (en rfl (en rfl (en rfl (en rfl (en rfl (en rfl s15))))))))))))
              have s32 := (hg 32).trans (en rfl (en rfl (en rfl (en rfl (en rfl (en rfl (en rfl (en rfl (en rfl (en rfl (en rfl (en rfl s32))))))))))))
              have s42 := (hg 42).trans (en rfl (en rfl (en rfl (en rfl (en rfl (en rfl (en rfl (en rfl (en rfl (en rfl (en rfl (en rfl s42))))))))))))
              have s43 := (hg 43).trans (en rfl (en rfl (en rfl (en rfl (en rfl (en rfl (en rfl (en rfl (en rfl (en rfl (en rfl (en rfl s43))))))))))))
              have s44 := (hg 44).trans (en rfl (en rfl (en rfl (en rfl (en rfl (en rfl (en rfl (en rfl (en rfl (en rfl (en rfl (en rfl s44))))))))))))
              have s45 := (hg 45).trans (en rfl (en rfl (en rfl (en rfl (en rfl (en rfl (en rfl (en rfl (en rfl (en rfl (en rfl (en rfl s45))))))))))))
              have s100 := (hg 100).trans (en rfl (en rfl (en rfl (en rfl (en rfl (en rfl (en rfl (en rfl (en rfl (en rfl (en rfl (en rfl s100))))))))))))
              have s126 := (hg 126).trans (en rfl (en rfl (en rfl (en rfl (en rfl (en rfl (en rfl (en rfl (en rfl (en rfl (en rfl (en rfl s126))))))))))))
              have s128 := (hg 128).trans (en rfl (en rfl (en rfl (en rfl (en rfl (en rfl (en rfl (en rfl (en rfl (en rfl (en rfl (en rfl s128))))))))))))
              have s129 := (hg 129).trans (en rfl (en rfl (en rfl (en rfl (en rfl (en rfl (en rfl (en rfl (en rfl (en rfl (en rfl (en rfl s129))))))))))))
              have s130 := (hg 130).trans (en rfl (en rfl (en rfl (en rfl (en rfl (en rfl (en rfl (en rfl (en rfl (en rfl (en rfl (en rfl s130))))))))))))
              have s155 := (hg 155).trans es
              clear hg
              refine xc_cond s155 (fun hc => by cases hc) (fun _ => ?_)
              refine xc_skip ?_
              refine hK28 _ _ ?_
              refine xc_region ?_
              refine x_val (r_add s129 ec (show _ = (((k + 1 : Nat) : Int) : Int) from by omega) (by unfold I64; omega)) (nd_of rfl) rfl ?_
              refine x_val (r_move es) (nd_of rfl) rfl ?_
              refine xw_nil ?_
              exact ⟨LL.length - (k + 1), by omega, ⟨k + 1, rfl, by omega, es, h⟩, ⟨((en rfl (en rfl s0))).trans zG25_0.symm, ((en rfl (en rfl s1))).trans zG25_1.symm, ((en rfl (en rfl s2))).trans zG25_2.symm, ((en rfl (en rfl s4))).trans zG25_4.symm, ((en rfl (en rfl s5))).trans zG25_5.symm, ((en rfl (en rfl s7))).trans zG25_7.symm, ((en rfl (en rfl s8))).trans zG25_8.symm, ((en rfl (en rfl s32))).trans zG25_32.symm, ((en rfl (en rfl s42))).trans zG25_42.symm, ((en rfl (en rfl s43))).trans zG25_43.symm, ((en rfl (en rfl s44))).trans zG25_44.symm, ((en rfl (en rfl s45))).trans zG25_45.symm, ((en rfl (en rfl s100))).trans zG25_100.symm, ((en rfl (en rfl s126))).trans zG25_126.symm, ((en rfl (en rfl s128))).trans zG25_128.symm⟩⟩
            ·
              refine xc_exit ?_
              refine hK23 _ _ ?_
              refine xc_seq (fun K hK33 => ?_)
              refine xc_region ?_
              refine x_enter (r_call Try.call9 .nil) (nd_of rfl) rfl (known_ok h) ?_
              rintro _ w ⟨rfl, h⟩
              refine x_val (r_assign es) (nd_of rfl) rfl ?_
              refine xw_nil ?_
              refine hK33 _ _ ?_
              refine xc_gen (fun g hg => ?_)
              have s0 := (hg 0).trans (en rfl (en rfl s0))
              have s1 := (hg 1).trans (en rfl (en rfl s1))
              have s2 := (hg 2).trans (en rfl (en rfl s2))
              have s4 := (hg 4).trans (en rfl (en rfl s4))
              have s5 := (hg 5).trans (en rfl (en rfl s5))
              have s6 := (hg 6).trans es
              have s7 := (hg 7).trans (en rfl (en rfl s7))
              have s8 := (hg 8).trans (en rfl (en rfl s8))
              have s32 := (hg 32).trans (en rfl (en rfl s32))
              have s42 := (hg 42).trans (en rfl (en rfl s42))
              have s43 := (hg 43).trans (en rfl (en rfl s43))
              have s44 := (hg 44).trans (en rfl (en rfl s44))
              have s45 := (hg 45).trans (en rfl (en rfl s45))
              have s100 := (hg 100).trans (en rfl (en rfl s100))
              have s126 := (hg 126).trans (en rfl (en rfl s126))
              have s128 := (hg 128).trans (en rfl (en rfl s128))
              have s129 := (hg 129).trans (en rfl (en rfl s129))
              have s130 := (hg 130).trans (en rfl (en rfl s130))
              clear hg
              refine xc_ret ?_
              refine bodyR_1 rfl s6 ?_
              exact ⟨rfl, h.drop.drop.drop.drop⟩
          ·
            skip
            refine xc_seq (fun K hK34 => ?_)
            refine xc_seq (fun K hK35 => ?_)
            refine xc_region ?_
            refine x_val (r_fieldAddr (o' := 2) Try.underlying26 rfl Try.sizeOf3 rfl s5 rfl) (nd_of rfl) rfl ?_
            refine x_val (r_load h 2 rfl Try.isAgg3 es gc2) (nd_of rfl) rfl ?_
            refine x_val (r_fieldAddr (o' := 1) Try.underlying26 rfl Try.sizeOf3 rfl (en rfl (en rfl s4)) rfl) (nd_of rfl) rfl ?_
            refine x_val (r_load h 3 rfl Try.isAgg3 es gc1) (nd_of rfl) rfl ?_
            refine x_val (r_gtr (en rfl (en rfl es)) es (decide_eq_false (by omega))) (nd_of rfl) rfl ?_
            refine x_val (r_move es) (nd_of rfl) rfl ?_
            refine x_take (d := 81) rfl rfl es ?_
            refine x_val (r_move (en rfl (en rfl (en rfl (en rfl (en rfl (en rfl s7))))))) (nd_of rfl) rfl ?_
            refine x_take (d := 81) rfl rfl (en rfl es) ?_
            refine x_val (r_fieldAddr (o' := 1) Try.underlying26 rfl Try.sizeOf3 rfl (en rfl (en rfl (en rfl (en rfl (en rfl (en rfl (en rfl s5))))))) rfl) (nd_of rfl) rfl ?_
            refine x_take (d := 81) rfl rfl (en rfl (en rfl es)) ?_
            refine x_val (r_load h 2 rfl Try.isAgg3 es gc1) (nd_of rfl) rfl ?_
            refine x_take (d := 81) rfl rfl (en rfl (en rfl (en rfl es))) ?_
            refine x_val (r_fieldAddr (o' := 2) Try.underlying26 rfl Try.sizeOf3 rfl (en rfl (en rfl (en rfl (en rfl (en rfl (en rfl (en rfl (en rfl (en rfl s5))))))))) rfl) (nd_of rfl) rfl ?_
            refine x_take (d := 81) rfl rfl (en rfl (en rfl (en rfl (en rfl es)))) ?_
            refine x_val (r_load h 2 rfl Try.isAgg3 es gc2) (nd_of rfl) rfl ?_
            refine x_take (d := 81) rfl rfl (en rfl (en rfl (en rfl (en rfl (en rfl es))))) ?_
            refine x_val (r_fieldAddr (o' := 4) Try.underlying26 rfl Try.sizeOf24 rfl (en rfl (en rfl (en rfl (en rfl (en rfl (en rfl (en rfl (en rfl (en rfl (en rfl (en rfl s5))))))))))) rfl) (nd_of rfl) rfl ?_
            refine x_take (d := 81) rfl rfl (en rfl (en rfl (en rfl (en rfl (en rfl (en rfl es)))))) ?_
            refine x_val (r_load h 2 rfl Try.isAgg24 es gc4) (nd_of rfl) rfl ?_
            refine x_take (d := 81) rfl rfl (en rfl (en rfl (en rfl (en rfl (en rfl (en rfl (en rfl es))))))) ?_
            have h := h.f1
            refine x_enter (r_call Try.call12 (.cons (en rfl (en rfl (en rfl (en rfl (en rfl (en rfl es)))))) (.cons (en rfl (en rfl (en rfl (en rfl es)))) (.cons (en rfl (en rfl es)) (.cons es .nil))))) (nd_of rfl) rfl (patP hinv (hsb.patch hb) (by omega) (hb.cp.creads 3 rfl) h) ?_
            rintro _ w ⟨rfl, h⟩
            refine x_take (d := 81) rfl rfl (en rfl (en rfl (en rfl (en rfl (en rfl (en rfl (en rfl (en rfl es)))))))) ?_
            refine x_val (r_neq es ec (decide_eq_false (by exact fun hh => hh (err_zero hp1)))) (nd_of rfl) rfl ?_
            refine x_val (r_pick_f (en rfl (en rfl (en rfl (en rfl (en rfl (en rfl (en rfl (en rfl (en rfl es))))))))) es) (nd_of rfl) rfl ?_
            refine x_val (r_move es) (nd_of rfl) rfl ?_
            refine x_take (d := 92) rfl rfl es ?_
            refine x_val (r_move (en rfl (en rfl (en rfl (en rfl (en rfl (en rfl (en rfl (en rfl (en rfl (en rfl (en rfl (en rfl (en rfl (en rfl (en rfl (en rfl (en rfl s7)))))))))))))))))) (nd_of rfl) rfl ?_
            refine x_take (d := 92) rfl rfl (en rfl es) ?_
            refine x_val (r_fieldAddr (o' := 1) Try.underlying26 rfl Try.sizeOf3 rfl (en rfl (en rfl (en rfl (en rfl (en rfl (en rfl (en rfl (en rfl (en rfl (en rfl (en rfl (en rfl (en rfl (en rfl (en rfl (en rfl (en rfl (en rfl s4)))))))))))))))))) rfl) (nd_of rfl) rfl ?_
            refine x_take (d := 92) rfl rfl (en rfl (en rfl es)) ?_
            refine x_val (r_load h 3 rfl Try.isAgg3 es gc1) (nd_of rfl) rfl ?_
            refine x_take (d := 92) rfl rfl (en rfl (en rfl (en rfl es))) ?_
            refine x_val (r_fieldAddr (o' := 3) Try.underlying26 rfl Try.sizeOf23 rfl (en rfl (en rfl (en rfl (en rfl (en rfl (en rfl (en rfl (en rfl (en rfl (en rfl (en rfl (en rfl (en rfl (en rfl (en rfl (en rfl (en rfl (en rfl (en rfl (en rfl s4)))))))))))))))))))) rfl) (nd_of rfl) rfl ?_
            refine x_take (d := 92) rfl rfl (en rfl (en rfl (en rfl (en rfl es)))) ?_
            refine x_val (r_load h 3 rfl Try.isAgg23 es gc3) (nd_of rfl) rfl ?_
            refine x_take (d := 92) rfl rfl (en rfl (en rfl (en rfl (en rfl (en rfl es))))) ?_
            refine x_enter (r_call Try.call10 (.cons (en rfl (en rfl (en rfl (en rfl es)))) (.cons (en rfl (en rfl es)) (.cons es .nil)))) (nd_of rfl) rfl (insP (hinv.pat (hsb.patch hb)) (hsa.sets ha) (by omega) (ha.sp.sreads 3 rfl) h) ?_
            rintro _ w ⟨rfl, h⟩
            refine x_take (d := 92) rfl rfl (en rfl (en rfl (en rfl (en rfl (en rfl (en rfl es)))))) ?_
            refine x_val (r_neq es ec (decide_eq_true (by rw [err_five (by rw [pat_len]; exact hp2)]; decide))) (nd_of rfl) rfl ?_
            refine x_val (r_pick_f (en rfl (en rfl (en rfl (en rfl (en rfl (en rfl (en rfl es))))))) es) (nd_of rfl) rfl ?_
            refine xw_nil ?_
            refine hK35 _ _ ?_
            refine xc_gen (fun g hg => ?_)
            have s0 := (hg 0).trans (en rfl (en rfl (en rfl (en rfl (en rfl (en rfl (en rfl (en rfl (en rfl (en rfl (en rfl (en rfl (en rfl (en rfl (en rfl (en rfl (en rfl (en rfl (en rfl (en rfl (en rfl (en rfl (en rfl (en rfl (en rfl s0)))))))))))))))))))))))))
            have s1 := (hg 1).trans (en rfl (en rfl (en rfl (en rfl (en rfl (en rfl (en rfl (en rfl (en rfl (en rfl (en rfl (en rfl (en rfl (en rfl (en rfl (en rfl (en rfl (en rfl (en rfl (en rfl (en rfl (en rfl (en rfl (en rfl (en rfl s1)))))))))))))))))))))))))
            have s2 := (hg 2).trans (en rfl (en rfl (en rfl (en rfl (en rfl (en rfl (en rfl (en rfl (en rfl (en rfl (en rfl (en rfl (en rfl (en rfl (en rfl (en rfl (en rfl (en rfl (en rfl (en rfl (en rfl (en rfl (en rfl (en rfl (en rfl s2)))))))))))))))))))))))))
            have s4 := (hg 4).trans (en rfl (en rfl (en rfl (en rfl (en rfl (en rfl (en rfl (en rfl (en rfl (en rfl (en rfl (en rfl (en rfl (en rfl (en rfl (en rfl (en rfl (en rfl (en rfl (en rfl (en rfl (en rfl (en rfl (en rfl (en rfl s4)))))))))))))))))))))))))
            have s5 := (hg 5).trans (en rfl (en rfl (en rfl (en rfl (en rfl (en rfl (en rfl (en rfl (en rfl (en rfl (en rfl (en rfl (en rfl (en rfl (en rfl (en rfl (en rfl (en rfl (en rfl (en rfl (en rfl (en rfl (en rfl (en rfl (en rfl s5)))))))))))))))))))))))))
            have s6 := (hg 6).trans (en rfl (en rfl (en rfl (en rfl (en rfl (en rfl (en rfl (en rfl (en rfl (en rfl (en rfl (en rfl (en rfl (en rfl (en rfl (en rfl (en rfl (en rfl (en rfl (en rfl (en rfl (en rfl (en rfl (en rfl (en rfl s6)))))))))))))))))))))))))
            have s7 := (hg 7).trans (en rfl (en rfl (en rfl (en rfl (en rfl (en rfl (en rfl (en rfl (en rfl (en rfl (en rfl (en rfl (en rfl (en rfl (en rfl (en rfl (en rfl (en rfl (en rfl (en rfl (en rfl (en rfl (en rfl (en rfl (en rfl s7)))))))))))))))))))))))))
            have s8 := (hg 8).trans (en rfl (en rfl (en rfl (en rfl (en rfl (en rfl (en rfl (en rfl (en rfl (en rfl (en rfl (en rfl (en rfl (en rfl (en rfl (en rfl (en rfl (en rfl (en rfl (en rfl (en rfl (en rfl (en rfl (en rfl (en rfl s8)))))))))))))))))))))))))
            have s32 := (hg 32).trans (en rfl (en rfl (en rfl (en rfl (en rfl (en rfl (en rfl (en rfl (en rfl (en rfl (en rfl (en rfl (en rfl (en rfl (en rfl (en rfl (en rfl (en rfl (en rfl (en rfl (en rfl (en rfl (en rfl (en rfl (en rfl s32)))))))))))))))))))))))))
            have s42 := (hg 42).trans (en rfl (en rfl (en rfl (en rfl (en rfl (en rfl (en rfl (en rfl (en rfl (en rfl (en rfl (en rfl (en rfl (en rfl (en rfl (en rfl (en rfl (en rfl (en rfl (en rfl (en rfl (en rfl (en rfl (en rfl (en rfl s42)))))))))))))))))))))))))
            have s43 := (hg 43).trans (en rfl (en rfl (en rfl (en rfl (en rfl (en rfl (en rfl (en rfl (en rfl (en rfl (en rfl (en rfl (en rfl (en rfl (en rfl (en rfl (en rfl (en rfl (en rfl (en rfl (en rfl (en rfl (en rfl (en rfl (en rfl s43)))))))))))))))))))))))))
            have s44 := (hg 44).trans (en rfl (en rfl (en rfl (en rfl (en rfl (en rfl (en rfl (en rfl (en rfl (en rfl (en rfl (en rfl (en rfl (en rfl (en rfl (en rfl (en rfl (en rfl (en rfl (en rfl (en rfl (en rfl (en rfl (en rfl (en rfl s44)))))))))))))))))))))))))
            have s45 := (hg 45).trans (en rfl (en rfl (en rfl (en rfl (en rfl (en rfl (en rfl (en rfl (en rfl (en rfl (en rfl (en rfl (en rfl (en rfl (en rfl (en rfl (en rfl (en rfl (en rfl (en rfl (en rfl (en rfl (en rfl (en rfl (en rfl s45)))))))))))))))))))))))))
            have s100 := (hg 100).trans es
            clear hg
            refine xc_cond s100 (fun _ => ?_) (fun hc => by cases hc)
            refine xc_seq (fun K hK36 => ?_)
            refine xc_region ?_
            refine x_enter (r_call Try.call9 .nil) (nd_of rfl) rfl (known_ok h) ?_
            rintro _ w ⟨rfl, h⟩
            refine x_val (r_assign es) (nd_of rfl) rfl ?_
            refine xw_nil ?_
            refine hK36 _ _ ?_
            refine xc_gen (fun g hg => ?_)
            have s0 := (hg 0).trans (en rfl (en rfl s0))
            have s1 := (hg 1).trans (en rfl (en rfl s1))
            have s2 := (hg 2).trans (en rfl (en rfl s2))
            have s4 := (hg 4).trans (en rfl (en rfl s4))
            have s5 := (hg 5).trans (en rfl (en rfl s5))
            have s6 := (hg 6).trans es
            have s7 := (hg 7).trans (en rfl (en rfl s7))
            have s8 := (hg 8).trans (en rfl (en rfl s8))
            have s32 := (hg 32).trans (en rfl (en rfl s32))
            have s42 := (hg 42).trans (en rfl (en rfl s42))
            have s43 := (hg 43).trans (en rfl (en rfl s43))
            have s44 := (hg 44).trans (en rfl (en rfl s44))
            have s45 := (hg 45).trans (en rfl (en rfl s45))
            have s100 := (hg 100).trans (en rfl (en rfl s100))
            clear hg
            refine xc_ret ?_
            refine bodyR_1 rfl s6 ?_
            exact ⟨rfl, h.drop.drop.drop.drop⟩
        ·
          skip
          refine xc_seq (fun K hK37 => ?_)
          refine xc_seq (fun K hK38 => ?_)
          refine xc_region ?_
          refine x_val (r_fieldAddr (o' := 2) Try.underlying26 rfl Try.sizeOf3 rfl s5 rfl) (nd_of rfl) rfl ?_
          refine x_val (r_load h 2 rfl Try.isAgg3 es gc2) (nd_of rfl) rfl ?_
          refine x_val (r_fieldAddr (o' := 1) Try.underlying26 rfl Try.sizeOf3 rfl (en rfl (en rfl s4)) rfl) (nd_of rfl) rfl ?_
          refine x_val (r_load h 3 rfl Try.isAgg3 es gc1) (nd_of rfl) rfl ?_
          refine x_val (r_gtr (en rfl (en rfl es)) es (decide_eq_false (by omega))) (nd_of rfl) rfl ?_
          refine x_val (r_move es) (nd_of rfl) rfl ?_
          refine x_take (d := 81) rfl rfl es ?_
          refine x_val (r_move (en rfl (en rfl (en rfl (en rfl (en rfl (en rfl s7))))))) (nd_of rfl) rfl ?_
          refine x_take (d := 81) rfl rfl (en rfl es) ?_
          refine x_val (r_fieldAddr (o' := 1) Try.underlying26 rfl Try.sizeOf3 rfl (en rfl (en rfl (en rfl (en rfl (en rfl (en rfl (en rfl s5))))))) rfl) (nd_of rfl) rfl ?_
          refine x_take (d := 81) rfl rfl (en rfl (en rfl es)) ?_
          refine x_val (r_load h 2 rfl Try.isAgg3 es gc1) (nd_of rfl) rfl ?_
          refine x_take (d := 81) rfl rfl (en rfl (en rfl (en rfl es))) ?_
          refine x_val (r_fieldAddr (o' := 2) Try.underlying26 rfl Try.sizeOf3 rfl (en rfl (en rfl (en rfl (en rfl (en rfl (en rfl (en rfl (en rfl (en rfl s5))))))))) rfl) (nd_of rfl) rfl ?_
          refine x_take (d := 81) rfl rfl (en rfl (en rfl (en rfl (en rfl es)))) ?_
          refine x_val (r_load h 2 rfl Try.isAgg3 es gc2) (nd_of rfl) rfl ?_
          refine x_take (d := 81) rfl rfl (en rfl (en rfl (en rfl (en rfl (en rfl es))))) ?_
          refine x_val (r_fieldAddr (o' := 4) Try.underlying26 rfl Try.sizeOf24 rfl (en rfl (en rfl (en rfl (en rfl (en rfl (en rfl (en rfl (en rfl (en rfl (en rfl (en rfl s5))))))))))) rfl) (nd_of rfl) rfl ?_
          refine x_take (d := 81) rfl rfl (en rfl (en rfl (en rfl (en rfl (en rfl (en rfl es)))))) ?_
          refine x_val (r_load h 2 rfl Try.isAgg24 es gc4) (nd_of rfl) rfl ?_
          refine x_take (d := 81) rfl rfl (en rfl (en rfl (en rfl (en rfl (en rfl (en rfl (en rfl es))))))) ?_
          have h := h.f1
          refine x_enter (r_call Try.call12 (.cons (en rfl (en rfl (en rfl (en rfl (en rfl (en rfl es)))))) (.cons (en rfl (en rfl (en rfl (en rfl es)))) (.cons (en rfl (en rfl es)) (.cons es .nil))))) (nd_of rfl) rfl (patP hinv (hsb.patch hb) (by omega) (hb.cp.creads 3 rfl) h) ?_
          rintro _ w ⟨rfl, h⟩
          refine x_take (d := 81) rfl rfl (en rfl (en rfl (en rfl (en rfl (en rfl (en rfl (en rfl (en rfl es)))))))) ?_
          refine x_val (r_neq es ec (decide_eq_true (by rw [err_five hp1]; decide))) (nd_of rfl) rfl ?_
          refine x_val (r_pick_f (en rfl (en rfl (en rfl (en rfl (en rfl (en rfl (en rfl (en rfl (en rfl es))))))))) es) (nd_of rfl) rfl ?_
          refine x_val (r_move es) (nd_of rfl) rfl ?_
          refine x_pass (d := 92) rfl rfl es rfl ?_
          refine x_pass (d := 92) rfl rfl (en rfl es) rfl ?_
          refine x_pass (d := 92) rfl rfl (en rfl (en rfl es)) rfl ?_
          refine x_pass (d := 92) rfl rfl (en rfl (en rfl (en rfl es))) rfl ?_
          refine x_pass (d := 92) rfl rfl (en rfl (en rfl (en rfl (en rfl es)))) rfl ?_
          refine x_pass (d := 92) rfl rfl (en rfl (en rfl (en rfl (en rfl (en rfl es))))) rfl ?_
          refine x_pass (d := 92) rfl rfl (en rfl (en rfl (en rfl (en rfl (en rfl (en rfl es)))))) rfl ?_
          refine x_val (r_pick_t (en rfl (en rfl (en rfl (en rfl (en rfl (en rfl (en rfl es))))))) ec) (nd_of rfl) rfl ?_
          refine xw_nil ?_
          refine hK38 _ _ ?_
          refine xc_gen (fun g hg => ?_)
          have s0 := (hg 0).trans (en rfl (en rfl (en rfl (en rfl (en rfl (en rfl (en rfl (en rfl (en rfl (en rfl (en rfl (en rfl (en rfl (en rfl (en rfl (en rfl (en rfl (en rfl (en rfl (en rfl (en rfl (en rfl (en rfl (en rfl (en rfl s0)))))))))))))))))))))))))
          have s1 := (hg 1).trans (en rfl (en rfl (en rfl (en rfl (en rfl (en rfl (en rfl (en rfl (en rfl (en rfl (en rfl (en rfl (en rfl (en rfl (en rfl (en rfl (en rfl (en rfl (en rfl (en rfl (en rfl (en rfl (en rfl (en rfl (en rfl s1)))))))))))))))))))))))))
          have s2 := (hg 2).trans (en rfl (en rfl (en rfl (en rfl (en rfl (en rfl (en rfl (en rfl (en rfl (en rfl (en rfl (en rfl (en rfl (en rfl (en rfl (en rfl (en rfl (en rfl (en rfl (en rfl (en rfl (en rfl (en rfl (en rfl (en rfl s2)))))))))))))))))))))))))
          have s4 := (hg 4).trans (en rfl (en rfl (en rfl (en rfl (en rfl (en rfl (en rfl (en rfl (en rfl (en rfl (en rfl (en rfl (en rfl (en rfl (en rfl (en rfl (en rfl (en rfl (en rfl (en rfl (en rfl (en rfl (en rfl (en rfl (en rfl s4)))))))))))))))))))))))))
          have s5 := (hg 5).trans (en rfl (en rfl (en rfl (en rfl (en rfl (en rfl (en rfl (en rfl (en rfl (en rfl (en rfl (en rfl (en rfl (en rfl (en rfl (en rfl (en rfl (en rfl (en rfl (en rfl (en rfl (en rfl (en rfl (en rfl (en rfl s5)))))))))))))))))))))))))
          have s6 := (hg 6).trans (en rfl (en rfl (en rfl (en rfl (en rfl (en rfl (en rfl (en rfl (en rfl (en rfl (en rfl (en rfl (en rfl (en rfl (en rfl (en rfl (en rfl (en rfl (en rfl (en rfl (en rfl (en rfl (en rfl (en rfl (en rfl s6)))))))))))))))))))))))))
          have s7 := (hg 7).trans (en rfl (en rfl (en rfl (en rfl (en rfl (en rfl (en rfl (en rfl (en rfl (en rfl (en rfl (en rfl (en rfl (en rfl (en rfl (en rfl (en rfl (en rfl (en rfl (en rfl (en rfl (en rfl (en rfl (en rfl (en rfl s7)))))))))))))))))))))))))
          have s8 := (hg 8).trans (en rfl (en rfl (en rfl (en rfl (en rfl (en rfl (en rfl (en rfl (en rfl (en rfl (en rfl (en rfl (en rfl (en rfl (en rfl (en rfl (en rfl (en rfl (en rfl (en rfl (en rfl (en rfl (en rfl (en rfl (en rfl s8)))))))))))))))))))))))))
          have s32 := (hg 32).trans (en rfl (en rfl (en rfl (en rfl (en rfl (en rfl (en rfl (en rfl (en rfl (en rfl (en rfl (en rfl (en rfl (en rfl (en rfl (en rfl (en rfl (en rfl (en rfl (en rfl (en rfl (en rfl (en rfl (en rfl (en rfl s32)))))))))))))))))))))))))
          have s42 := (hg 42).trans (en rfl (en rfl (en rfl (en rfl (en rfl (en rfl (en rfl (en rfl (en rfl (en rfl (en rfl (en rfl (en rfl (en rfl (en rfl (en rfl (en rfl (en rfl (en rfl (en rfl (en rfl (en rfl (en rfl (en rfl (en rfl s42)))))))))))))))))))))))))
          have s43 := (hg 43).trans (en rfl (en rfl (en rfl (en rfl (en rfl (en rfl (en rfl (en rfl (en rfl (en rfl (en rfl (en rfl (en rfl (en rfl (en rfl (en rfl (en rfl (en rfl (en rfl (en rfl (en rfl (en rfl (en rfl (en rfl (en rfl s43)))))))))))))))))))))))))
          have s44 := (hg 44).trans (en rfl (en rfl (en rfl (en rfl (en rfl (en rfl (en rfl (en rfl (en rfl (en rfl (en rfl (en rfl (en rfl (en rfl (en rfl (en rfl (en rfl (en rfl (en rfl (en rfl (en rfl (en rfl (en rfl (en rfl (en rfl s44)))))))))))))))))))))))))
          have s45 := (hg 45).trans (en rfl (en rfl (en rfl (en rfl (en rfl (en rfl (en rfl (en rfl (en rfl (en rfl (en rfl (en rfl (en rfl (en rfl (en rfl (en rfl (en rfl (en rfl (en rfl (en rfl (en rfl (en rfl (en rfl (en rfl (en rfl s45)))))))))))))))))))))))))
          have s100 := (hg 100).trans es
          clear hg
          refine xc_cond s100 (fun _ => ?_) (fun hc => by cases hc)
          refine xc_seq (fun K hK39 => ?_)
          refine xc_region ?_
          refine x_enter (r_call Try.call9 .nil) (nd_of rfl) rfl (known_ok h) ?_
          rintro _ w ⟨rfl, h⟩
          refine x_val (r_assign es) (nd_of rfl) rfl ?_
          refine xw_nil ?_
          refine hK39 _ _ ?_
          refine xc_gen (fun g hg => ?_)
          have s0 := (hg 0).trans (en rfl (en rfl s0))
          have s1 := (hg 1).trans (en rfl (en rfl s1))
          have s2 := (hg 2).trans (en rfl (en rfl s2))
          have s4 := (hg 4).trans (en rfl (en rfl s4))
          have s5 := (hg 5).trans (en rfl (en rfl s5))
          have s6 := (hg 6).trans es
          have s7 := (hg 7).trans (en rfl (en rfl s7))
          have s8 := (hg 8).trans (en rfl (en rfl s8))
          have s32 := (hg 32).trans (en rfl (en rfl s32))
          have s42 := (hg 42).trans (en rfl (en rfl s42))
          have s43 := (hg 43).trans (en rfl (en rfl s43))
          have s44 := (hg 44).trans (en rfl (en rfl s44))
          have s45 := (hg 45).trans (en rfl (en rfl s45))
          have s100 := (hg 100).trans (en rfl (en rfl s100))
          clear hg
          refine xc_ret ?_
          refine bodyR_1 rfl s6 ?_
          exact ⟨rfl, h.drop.drop.drop.drop⟩
end
end Go.Proofs.Ytonnijghdlakfaa
