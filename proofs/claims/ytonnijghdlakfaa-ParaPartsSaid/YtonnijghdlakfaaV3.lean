/-
ParaParts: the walk.
-/
import Derived.Test.YtonnijghdlakfaaV2
namespace Go.Proofs.Ytonnijghdlakfaa
open Go Go.RowKit
section
variable {E : Env} {R : List SProp} {w : World} {W : World} {v : Value} {os : List OpV} {i j k : Int}
theorem pparts_ok (hv : OpsAt W v os) (hi : I64 i) (hj : I64 j) (hk : I64 k) (h : SatL E w (Old W :: R)) : Calls Try.prog 5 #[v, .int .i64 i, .int .i64 j, .int .i64 k] w (Ret fun u w' => u = .bool true ∧ SatL E w' (Old W :: R)) := by
  have hv0 := hv
  obtain ⟨⟨a, cap, rfl, _, hread⟩, hwfs⟩ := hv
  refine calls_x Try.func5 rfl Try.ntmps5 rfl ?_
  refine xc_gen (fun g hg => ?_)
  have s0 := (hg 0).trans arg0
  have s1 := (hg 1).trans arg1
  have s2 := (hg 2).trans arg2
  have s3 := (hg 3).trans arg3
  clear hg
  refine xc_seq (fun K hK1 => ?_)
  refine xc_region ?_
  refine x_val (r_assign ec) (nd_of rfl) rfl ?_
  refine xw_nil ?_
  refine hK1 _ _ ?_
  refine xc_gen (fun g hg => ?_)
  have s0 := (hg 0).trans (en rfl s0)
  have s1 := (hg 1).trans (en rfl s1)
  have s2 := (hg 2).trans (en rfl s2)
  have s3 := (hg 3).trans (en rfl s3)
  have s8 := (hg 8).trans es
  clear hg
  refine xc_seq (fun K hK2 => ?_)
  refine xc_region ?_
  refine x_enter (r_call Try.call7 .nil) (nd_of rfl) rfl (newP h) ?_
  rintro _ w ⟨b, rfl, h⟩
  refine x_val (r_assign es) (nd_of rfl) rfl ?_
  refine xw_nil ?_
  refine hK2 _ _ ?_
  refine xc_gen (fun g hg => ?_)
  have s0 := (hg 0).trans (en rfl (en rfl s0))
  have s1 := (hg 1).trans (en rfl (en rfl s1))
  have s2 := (hg 2).trans (en rfl (en rfl s2))
  have s3 := (hg 3).trans (en rfl (en rfl s3))
  have s8 := (hg 8).trans (en rfl (en rfl s8))
  have s9 := (hg 9).trans es
  clear hg
  refine xc_seq (fun K hK3 => ?_)
  refine xc_seq (fun K hK4 => ?_)
  refine xc_region ?_
  refine x_val (r_move s9) (nd_of rfl) rfl ?_
  refine x_val (r_eqnil Try.underlying27 es ec (r := false) rfl) (nd_of rfl) rfl ?_
  refine x_val (r_move es) (nd_of rfl) rfl ?_
  refine x_take (d := 26) rfl rfl es ?_
  refine x_val (r_move (en rfl (en rfl (en rfl s0)))) (nd_of rfl) rfl ?_
  refine x_take (d := 26) rfl rfl (en rfl es) ?_
  refine x_enter (r_call Try.call8 (.cons es .nil)) (nd_of rfl) rfl (small_ok (hv0.oreads 1 rfl) h) ?_
  rintro _ w ⟨r, rfl, hr, h⟩
  refine x_take (d := 26) rfl rfl (en rfl (en rfl es)) ?_
  refine x_val (r_not es rfl) (nd_of rfl) rfl ?_
  refine x_val (r_pick_f (en rfl (en rfl (en rfl es))) es) (nd_of rfl) rfl ?_
  refine xw_nil ?_
  refine hK4 _ _ ?_
  refine xc_gen (fun g hg => ?_)
  have s0 := (hg 0).trans (en rfl (en rfl (en rfl (en rfl (en rfl (en rfl (en rfl s0)))))))
  have s1 := (hg 1).trans (en rfl (en rfl (en rfl (en rfl (en rfl (en rfl (en rfl s1)))))))
  have s2 := (hg 2).trans (en rfl (en rfl (en rfl (en rfl (en rfl (en rfl (en rfl s2)))))))
  have s3 := (hg 3).trans (en rfl (en rfl (en rfl (en rfl (en rfl (en rfl (en rfl s3)))))))
  have s8 := (hg 8).trans (en rfl (en rfl (en rfl (en rfl (en rfl (en rfl (en rfl s8)))))))
  have s9 := (hg 9).trans (en rfl (en rfl (en rfl (en rfl (en rfl (en rfl (en rfl s9)))))))
  have s30 := (hg 30).trans es
  clear hg
  refine xc_cond s30 (fun hc => ?_) (fun hc => ?_)
  ·
    refine xc_seq (fun K hK5 => ?_)
    refine xc_region ?_
    refine x_val (r_move s9) (nd_of rfl) rfl ?_
    refine x_val (r_nenil Try.underlying27 es ec (r := true) rfl) (nd_of rfl) rfl ?_
    refine x_val (r_move es) (nd_of rfl) rfl ?_
    refine x_take (d := 33) rfl rfl es ?_
    refine x_enter (r_call Try.call9 .nil) (nd_of rfl) rfl (known_ok h) ?_
    rintro _ w ⟨rfl, h⟩
    refine x_val (r_pick_t (en rfl es) es) (nd_of rfl) rfl ?_
    refine x_val (r_assign es) (nd_of rfl) rfl ?_
    refine xw_nil ?_
    refine hK5 _ _ ?_
    refine xc_gen (fun g hg => ?_)
    have s0 := (hg 0).trans (en rfl (en rfl (en rfl (en rfl (en rfl (en rfl s0))))))
    have s1 := (hg 1).trans (en rfl (en rfl (en rfl (en rfl (en rfl (en rfl s1))))))
    have s2 := (hg 2).trans (en rfl (en rfl (en rfl (en rfl (en rfl (en rfl s2))))))
    have s3 := (hg 3).trans (en rfl (en rfl (en rfl (en rfl (en rfl (en rfl s3))))))
    have s8 := (hg 8).trans es
    have s9 := (hg 9).trans (en rfl (en rfl (en rfl (en rfl (en rfl (en rfl s9))))))
    have s30 := (hg 30).trans (en rfl (en rfl (en rfl (en rfl (en rfl (en rfl s30))))))
    clear hg
    refine xc_ret ?_
    refine bodyR_1 rfl s8 ?_
    exact ⟨rfl, h.drop⟩
  ·
    refine xc_skip ?_
    refine hK3 _ _ ?_
    refine xc_seq (fun K hK6 => ?_)
    refine xc_seq (fun K hK7 => ?_)
    have hsm := hr (by simpa using hc)
    obtain ⟨hosl, hsmo⟩ := hsm
    refine xc_region ?_
    refine x_val (r_move s0) (nd_of rfl) rfl ?_
    refine x_val (r_len Try.underlying22 es) (nd_of rfl) rfl ?_
    refine x_val (r_move ec) (nd_of rfl) rfl ?_
    refine xw_nil ?_
    refine hK7 _ _ ?_
    refine xc_gen (fun g hg => ?_)
    have s0 := (hg 0).trans (en rfl (en rfl (en rfl s0)))
    have s1 := (hg 1).trans (en rfl (en rfl (en rfl s1)))
    have s2 := (hg 2).trans (en rfl (en rfl (en rfl s2)))
    have s3 := (hg 3).trans (en rfl (en rfl (en rfl s3)))
    have s8 := (hg 8).trans (en rfl (en rfl (en rfl s8)))
    have s9 := (hg 9).trans (en rfl (en rfl (en rfl s9)))
    have s30 := (hg 30).trans (en rfl (en rfl (en rfl s30)))
    have s36 := (hg 36).trans (en rfl (en rfl es))
    have s37 := (hg 37).trans (en rfl es)
    have s38 := (hg 38).trans es
    clear hg
    refine xc_block ?_
    obtain ⟨G8, hG8⟩ : ∃ g0 : Nat → Value, g0 = g := ⟨_, rfl⟩
    have zG8_0 : G8 0 = _ := (congrFun hG8 0).trans s0
    have zG8_1 : G8 1 = _ := (congrFun hG8 1).trans s1
    have zG8_2 : G8 2 = _ := (congrFun hG8 2).trans s2
    have zG8_3 : G8 3 = _ := (congrFun hG8 3).trans s3
    have zG8_8 : G8 8 = _ := (congrFun hG8 8).trans s8
    have zG8_9 : G8 9 = _ := (congrFun hG8 9).trans s9
    have zG8_30 : G8 30 = _ := (congrFun hG8 30).trans s30
    have zG8_36 : G8 36 = _ := (congrFun hG8 36).trans s36
    have zG8_37 : G8 37 = _ := (congrFun hG8 37).trans s37
    refine xc_loop (fun m f w => (∃ (n : Nat) (L : List (List Atr)), m = os.length - n ∧ n ≤ os.length ∧ InvP L n ∧ f 38 = .int .i64 (n : Int) ∧ SatL E w (Pa b L (plc n) :: Old W :: R)) ∧ (f 0 = G8 0 ∧ f 1 = G8 1 ∧ f 2 = G8 2 ∧ f 3 = G8 3 ∧ f 8 = G8 8 ∧ f 9 = G8 9 ∧ f 30 = G8 30 ∧ f 36 = G8 36 ∧ f 37 = G8 37)) (os.length) ⟨⟨0, [], by omega, by omega, InvP.nil, s38, h⟩, ⟨congrFun hG8.symm 0, congrFun hG8.symm 1, congrFun hG8.symm 2, congrFun hG8.symm 3, congrFun hG8.symm 8, congrFun hG8.symm 9, congrFun hG8.symm 30, congrFun hG8.symm 36, congrFun hG8.symm 37⟩⟩ ?_
    rintro m g w ⟨⟨n, L, hm, hn, hinv, s38, h⟩, ⟨y0, y1, y2, y3, y8, y9, y30, y36, y37⟩⟩
    have s0 := y0.trans zG8_0
    have s1 := y1.trans zG8_1
    have s2 := y2.trans zG8_2
    have s3 := y3.trans zG8_3
    have s8 := y8.trans zG8_8
    have s9 := y9.trans zG8_9
    have s30 := y30.trans zG8_30
    have s36 := y36.trans zG8_36
    have s37 := y37.trans zG8_37
    refine xc_seq (fun K hK9 => ?_)
    refine xc_region ?_
    refine x_val (r_lss s38 s37 rfl) (nd_of rfl) rfl ?_
    refine xw_nil ?_
    refine hK9 _ _ ?_
    refine xc_gen (fun g hg => ?_)
    have s0 := (hg 0).trans (en rfl s0)
    have s1 := (hg 1).trans (en rfl s1)
    have s2 := (hg 2).trans (en rfl s2)
    have s3 := (hg 3).trans (en rfl s3)
    have s8 := (hg 8).trans (en rfl s8)
    have s9 := (hg 9).trans (en rfl s9)
    have s30 := (hg 30).trans (en rfl s30)
    have s36 := (hg 36).trans (en rfl s36)
    have s37 := (hg 37).trans (en rfl s37)
    have s38 := (hg 38).trans (en rfl s38)
    have s39 := (hg 39).trans es
    clear hg
    refine xc_seq (fun K hK10 => ?_)
    refine xc_cond s39 (fun hc => ?_) (fun hc => ?_)
    ·
      refine xc_skip ?_
      refine hK10 _ _ ?_
      refine xc_seq (fun K hK11 => ?_)
      refine xc_block ?_
      refine xc_seq (fun K hK12 => ?_)
      have hn2 : n < os.length := by have := of_decide_eq_true hc; omega
      obtain ⟨o, ho⟩ : ∃ o, os[n]? = some o := ⟨_, List.getElem?_eq_getElem hn2⟩
      obtain ⟨ad, rfl, hcell⟩ := hread n o ho
      have hwf := hwfs o (List.mem_of_getElem? ho)
      have hso := hsmo o (List.mem_of_getElem? ho)
      have hone : o.lv.oneCell' = true := by obtain ⟨⟨a, c, e, _⟩, _⟩ := hwf.sp; rw [e]; rfl
      have hone2 : o.xv.oneCell' = true := by obtain ⟨a, c, e, _⟩ := hwf.cp; rw [e]; rfl
      have hoko : Ok 5 (opC o).toArray := ok_op hone hone2
      refine xc_region ?_
      refine x_val (r_indexAny Try.underlying22 Try.sizeOf26 s36 s38 (by omega) (by omega)) (nd_of rfl) rfl ?_
      refine x_val (r_loadAggAt (cs := opC o) Try.isAgg26 Try.sizeOf26 es rfl (fun j u hj => h.oldCell 1 rfl (hcell j u hj))) (nd_of rfl) rfl ?_
      refine x_declA h Try.zeroValue26 Try.sizeOf26 rfl (en rfl es) (by first | assumption | exact Ok.node (by assumption) | exact xOk.cells (by assumption) | exact ChOk.ok (by assumption)) rfl ?_
      intro b11 w h
      refine xw_nil ?_
      refine hK12 _ _ ?_
      refine xc_gen (fun g hg => ?_)
      have s0 := (hg 0).trans (en rfl (en rfl (en rfl s0)))
      have s1 := (hg 1).trans (en rfl (en rfl (en rfl s1)))
      have s2 := (hg 2).trans (en rfl (en rfl (en rfl s2)))
      have s3 := (hg 3).trans (en rfl (en rfl (en rfl s3)))
      have s8 := (hg 8).trans (en rfl (en rfl (en rfl s8)))
      have s9 := (hg 9).trans (en rfl (en rfl (en rfl s9)))
      have s11 := (hg 11).trans es
      have s30 := (hg 30).trans (en rfl (en rfl (en rfl s30)))
      have s36 := (hg 36).trans (en rfl (en rfl (en rfl s36)))
      have s37 := (hg 37).trans (en rfl (en rfl (en rfl s37)))
      have s38 := (hg 38).trans (en rfl (en rfl (en rfl s38)))
      have s39 := (hg 39).trans (en rfl (en rfl (en rfl s39)))
      clear hg
      refine xc_seq (fun K hK13 => ?_)
      have h : SatL E w (Cells b11 #[.int .i64 o.kind, .int .i64 o.k, .int .i64 o.m, o.lv, o.xv] 26 :: Pa b L (plc n) :: Old W :: R) := h
      refine xc_region ?_
      refine x_val (r_fieldAddr (o' := 0) Try.underlying26 rfl Try.sizeOf3 rfl s11 rfl) (nd_of rfl) rfl ?_
      refine x_val (r_load h 0 rfl Try.isAgg3 es gc0) (nd_of rfl) rfl ?_
      refine xw_nil ?_
      refine hK13 _ _ ?_
      refine xc_gen (fun g hg => ?_)
      have s0 := (hg 0).trans (en rfl (en rfl s0))
      have s1 := (hg 1).trans (en rfl (en rfl s1))
      have s2 := (hg 2).trans (en rfl (en rfl s2))
      have s3 := (hg 3).trans (en rfl (en rfl s3))
      have s8 := (hg 8).trans (en rfl (en rfl s8))
      have s9 := (hg 9).trans (en rfl (en rfl s9))
      have s11 := (hg 11).trans (en rfl (en rfl s11))
      have s30 := (hg 30).trans (en rfl (en rfl s30))
      have s36 := (hg 36).trans (en rfl (en rfl s36))
      have s37 := (hg 37).trans (en rfl (en rfl s37))
      have s38 := (hg 38).trans (en rfl (en rfl s38))
      have s39 := (hg 39).trans (en rfl (en rfl s39))
      have s43 := (hg 43).trans es
      clear hg
      refine xc_block ?_
      refine xc_seq (fun K hK14 => ?_)
      refine xc_region ?_
      refine x_val (r_eql s43 ec rfl) (nd_of rfl) rfl ?_
      refine x_val (r_assign es) (nd_of rfl) rfl ?_
      refine xw_nil ?_
      refine hK14 _ _ ?_
      refine xc_gen (fun g hg => ?_)
      have s0 := (hg 0).trans (en rfl (en rfl s0))
      have s1 := (hg 1).trans (en rfl (en rfl s1))
      have s2 := (hg 2).trans (en rfl (en rfl s2))
      have s3 := (hg 3).trans (en rfl (en rfl s3))
      have s8 := (hg 8).trans (en rfl (en rfl s8))
      have s9 := (hg 9).trans (en rfl (en rfl s9))
      have s11 := (hg 11).trans (en rfl (en rfl s11))
      have s30 := (hg 30).trans (en rfl (en rfl s30))
      have s36 := (hg 36).trans (en rfl (en rfl s36))
      have s37 := (hg 37).trans (en rfl (en rfl s37))
      have s38 := (hg 38).trans (en rfl (en rfl s38))
      have s39 := (hg 39).trans (en rfl (en rfl s39))
      have s43 := (hg 43).trans (en rfl (en rfl s43))
      have s50 := (hg 50).trans es
      clear hg
      refine xc_cond s50 (fun hc => ?_) (fun hc => ?_)
      ·
        refine xc_region ?_
        refine x_val (r_move s9) (nd_of rfl) rfl ?_
        refine x_val (r_fieldAddr (o' := 1) Try.underlying26 rfl Try.sizeOf3 rfl (en rfl s11) rfl) (nd_of rfl) rfl ?_
        refine x_val (r_load h 0 rfl Try.isAgg3 es gc1) (nd_of rfl) rfl ?_
        refine x_val (r_fieldAddr (o' := 2) Try.underlying26 rfl Try.sizeOf3 rfl (en rfl (en rfl (en rfl s11))) rfl) (nd_of rfl) rfl ?_
        refine x_val (r_load h 0 rfl Try.isAgg3 es gc2) (nd_of rfl) rfl ?_
        have h := h.f1
        refine x_enter (r_call Try.call11 (.cons (en rfl (en rfl (en rfl (en rfl es)))) (.cons (en rfl (en rfl es)) (.cons es .nil)))) (nd_of rfl) rfl (delP hinv (by omega) h) ?_
        rintro _ w ⟨rfl, h⟩
        refine xw_nil ?_
        refine hK11 _ _ ?_
        refine xc_gen (fun g hg => ?_)
        have s0 := (hg 0).trans (en rfl (en rfl (en rfl (en rfl (en rfl (en rfl s0))))))
        have s1 := (hg 1).trans (en rfl (en rfl (en rfl (en rfl (en rfl (en rfl s1))))))
        have s2 := (hg 2).trans (en rfl (en rfl (en rfl (en rfl (en rfl (en rfl s2))))))
        have s3 := (hg 3).trans (en rfl (en rfl (en rfl (en rfl (en rfl (en rfl s3))))))
        have s8 := (hg 8).trans (en rfl (en rfl (en rfl (en rfl (en rfl (en rfl s8))))))
        have s9 := (hg 9).trans (en rfl (en rfl (en rfl (en rfl (en rfl (en rfl s9))))))
        have s11 := (hg 11).trans (en rfl (en rfl (en rfl (en rfl (en rfl (en rfl s11))))))
        have s30 := (hg 30).trans (en rfl (en rfl (en rfl (en rfl (en rfl (en rfl s30))))))
        have s36 := (hg 36).trans (en rfl (en rfl (en rfl (en rfl (en rfl (en rfl s36))))))
        have s37 := (hg 37).trans (en rfl (en rfl (en rfl (en rfl (en rfl (en rfl s37))))))
        have s38 := (hg 38).trans (en rfl (en rfl (en rfl (en rfl (en rfl (en rfl s38))))))
        have s39 := (hg 39).trans (en rfl (en rfl (en rfl (en rfl (en rfl (en rfl s39))))))
        have s43 := (hg 43).trans (en rfl (en rfl (en rfl (en rfl (en rfl (en rfl s43))))))
        have s50 := (hg 50).trans (en rfl (en rfl (en rfl (en rfl (en rfl (en rfl s50))))))
        clear hg
        have h := (h.f1).drop
        refine xc_region ?_
        refine x_val (r_add s38 ec (show _ = (((n + 1 : Nat) : Int) : Int) from by omega) (by unfold I64; omega)) (nd_of rfl) rfl ?_
        refine x_val (r_move es) (nd_of rfl) rfl ?_
        refine xw_nil ?_
        exact ⟨os.length - (n + 1), by omega, ⟨n + 1, _, rfl, by omega, hinv.del, es, h⟩, ⟨((en rfl (en rfl s0))).trans zG8_0.symm, ((en rfl (en rfl s1))).trans zG8_1.symm, ((en rfl (en rfl s2))).trans zG8_2.symm, ((en rfl (en rfl s3))).trans zG8_3.symm, ((en rfl (en rfl s8))).trans zG8_8.symm, ((en rfl (en rfl s9))).trans zG8_9.symm, ((en rfl (en rfl s30))).trans zG8_30.symm, ((en rfl (en rfl s36))).trans zG8_36.symm, ((en rfl (en rfl s37))).trans zG8_37.symm⟩⟩
      ·
        refine xc_seq (fun K hK15 => ?_)
        refine xc_region ?_
        refine x_val (r_eql s43 ec rfl) (nd_of rfl) rfl ?_
        refine x_val (r_assign es) (nd_of rfl) rfl ?_
        refine xw_nil ?_
        refine hK15 _ _ ?_
        refine xc_gen (fun g hg => ?_)
        have s0 := (hg 0).trans (en rfl (en rfl s0))
        have s1 := (hg 1).trans (en rfl (en rfl s1))
        have s2 := (hg 2).trans (en rfl (en rfl s2))
        have s3 := (hg 3).trans (en rfl (en rfl s3))
        have s8 := (hg 8).trans (en rfl (en rfl s8))
        have s9 := (hg 9).trans (en rfl (en rfl s9))
        have s11 := (hg 11).trans (en rfl (en rfl s11))
        have s30 := (hg 30).trans (en rfl (en rfl s30))
        have s36 := (hg 36).trans (en rfl (en rfl s36))
        have s37 := (hg 37).trans (en rfl (en rfl s37))
        have s38 := (hg 38).trans (en rfl (en rfl s38))
        have s39 := (hg 39).trans (en rfl (en rfl s39))
        have s43 := (hg 43).trans (en rfl (en rfl s43))
        have s50 := (hg 50).trans (en rfl (en rfl s50))
        have s58 := (hg 58).trans es
        clear hg
        refine xc_cond s58 (fun hc => ?_) (fun hc => ?_)
        ·
          refine xc_region ?_
          refine x_val (r_move s9) (nd_of rfl) rfl ?_
          refine x_val (r_fieldAddr (o' := 1) Try.underlying26 rfl Try.sizeOf3 rfl (en rfl s11) rfl) (nd_of rfl) rfl ?_
          refine x_val (r_load h 0 rfl Try.isAgg3 es gc1) (nd_of rfl) rfl ?_
          refine x_val (r_fieldAddr (o' := 2) Try.underlying26 rfl Try.sizeOf3 rfl (en rfl (en rfl (en rfl s11))) rfl) (nd_of rfl) rfl ?_
          refine x_val (r_load h 0 rfl Try.isAgg3 es gc2) (nd_of rfl) rfl ?_
          refine x_val (r_fieldAddr (o' := 4) Try.underlying26 rfl Try.sizeOf24 rfl (en rfl (en rfl (en rfl (en rfl (en rfl s11))))) rfl) (nd_of rfl) rfl ?_
          refine x_val (r_load h 0 rfl Try.isAgg24 es gc4) (nd_of rfl) rfl ?_
          have h := h.f1
          refine x_enter (r_call Try.call12 (.cons (en rfl (en rfl (en rfl (en rfl (en rfl (en rfl es)))))) (.cons (en rfl (en rfl (en rfl (en rfl es)))) (.cons (en rfl (en rfl es)) (.cons es .nil))))) (nd_of rfl) rfl (patP hinv (hso.patch hwf) (by omega) (hwf.cp.creads 1 rfl) h) ?_
          rintro _ w ⟨rfl, h⟩
          refine xw_nil ?_
          refine hK11 _ _ ?_
          refine xc_gen (fun g hg => ?_)
          have s0 := (hg 0).trans (en rfl (en rfl (en rfl (en rfl (en rfl (en rfl (en rfl (en rfl s0))))))))
          have s1 := (hg 1).trans (en rfl (en rfl (en rfl (en rfl (en rfl (en rfl (en rfl (en rfl s1))))))))
          have s2 := (hg 2).trans (en rfl (en rfl (en rfl (en rfl (en rfl (en rfl (en rfl (en rfl s2))))))))
          have s3 := (hg 3).trans (en rfl (en rfl (en rfl (en rfl (en rfl (en rfl (en rfl (en rfl s3))))))))
          have s8 := (hg 8).trans (en rfl (en rfl (en rfl (en rfl (en rfl (en rfl (en rfl (en rfl s8))))))))
          have s9 := (hg 9).trans (en rfl (en rfl (en rfl (en rfl (en rfl (en rfl (en rfl (en rfl s9))))))))
          have s11 := (hg 11).trans (en rfl (en rfl (en rfl (en rfl (en rfl (en rfl (en rfl (en rfl s11))))))))
          have s30 := (hg 30).trans (en rfl (en rfl (en rfl (en rfl (en rfl (en rfl (en rfl (en rfl s30))))))))
          have s36 := (hg 36).trans (en rfl (en rfl (en rfl (en rfl (en rfl (en rfl (en rfl (en rfl s36))))))))
          have s37 := (hg 37).trans (en rfl (en rfl (en rfl (en rfl (en rfl (en rfl (en rfl (en rfl s37))))))))
          have s38 := (hg 38).trans (en rfl (en rfl (en rfl (en rfl (en rfl (en rfl (en rfl (en rfl s38))))))))
          have s39 := (hg 39).trans (en rfl (en rfl (en rfl (en rfl (en rfl (en rfl (en rfl (en rfl s39))))))))
          have s43 := (hg 43).trans (en rfl (en rfl (en rfl (en rfl (en rfl (en rfl (en rfl (en rfl s43))))))))
          have s50 := (hg 50).trans (en rfl (en rfl (en rfl (en rfl (en rfl (en rfl (en rfl (en rfl s50))))))))
          have s58 := (hg 58).trans (en rfl (en rfl (en rfl (en rfl (en rfl (en rfl (en rfl (en rfl s58))))))))
          clear hg
          have h := (h.f1).drop
          refine xc_region ?_
          refine x_val (r_add s38 ec (show _ = (((n + 1 : Nat) : Int) : Int) from by omega) (by unfold I64; omega)) (nd_of rfl) rfl ?_
          refine x_val (r_move es) (nd_of rfl) rfl ?_
          refine xw_nil ?_
          exact ⟨os.length - (n + 1), by omega, ⟨n + 1, _, rfl, by omega, hinv.pat (hso.patch hwf), es, h⟩, ⟨((en rfl (en rfl s0))).trans zG8_0.symm, ((en rfl (en rfl s1))).trans zG8_1.symm, ((en rfl (en rfl s2))).trans zG8_2.symm, ((en rfl (en rfl s3))).trans zG8_3.symm, ((en rfl (en rfl s8))).trans zG8_8.symm, ((en rfl (en rfl s9))).trans zG8_9.symm, ((en rfl (en rfl s30))).trans zG8_30.symm, ((en rfl (en rfl s36))).trans zG8_36.symm, ((en rfl (en rfl s37))).trans zG8_37.symm⟩⟩
        ·
          refine xc_region ?_
          refine x_val (r_move s9) (nd_of rfl) rfl ?_
          refine x_val (r_fieldAddr (o' := 1) Try.underlying26 rfl Try.sizeOf3 rfl (en rfl s11) rfl) (nd_of rfl) rfl ?_
          refine x_val (r_load h 0 rfl Try.isAgg3 es gc1) (nd_of rfl) rfl ?_
          refine x_val (r_fieldAddr (o' := 3) Try.underlying26 rfl Try.sizeOf23 rfl (en rfl (en rfl (en rfl s11))) rfl) (nd_of rfl) rfl ?_
          refine x_val (r_load h 0 rfl Try.isAgg23 es gc3) (nd_of rfl) rfl ?_
          have h := h.f1
          refine x_enter (r_call Try.call10 (.cons (en rfl (en rfl (en rfl (en rfl es)))) (.cons (en rfl (en rfl es)) (.cons es .nil)))) (nd_of rfl) rfl (insP hinv (hso.sets hwf) (by omega) (hwf.sp.sreads 1 rfl) h) ?_
          rintro _ w ⟨rfl, h⟩
          refine xw_nil ?_
          refine hK11 _ _ ?_
          refine xc_gen (fun g hg => ?_)
          have s0 := (hg 0).trans (en rfl (en rfl (en rfl (en rfl (en rfl (en rfl s0))))))
          have s1 := (hg 1).trans (en rfl (en rfl (en rfl (en rfl (en rfl (en rfl s1))))))
          have s2 := (hg 2).trans (en rfl (en rfl (en rfl (en rfl (en rfl (en rfl s2))))))
          have s3 := (hg 3).trans (en rfl (en rfl (en rfl (en rfl (en rfl (en rfl s3))))))
          have s8 := (hg 8).trans (en rfl (en rfl (en rfl (en rfl (en rfl (en rfl s8))))))
          have s9 := (hg 9).trans (en rfl (en rfl (en rfl (en rfl (en rfl (en rfl s9))))))
          have s11 := (hg 11).trans (en rfl (en rfl (en rfl (en rfl (en rfl (en rfl s11))))))
          have s30 := (hg 30).trans (en rfl (en rfl (en rfl (en rfl (en rfl (en rfl s30))))))
          have s36 := (hg 36).trans (en rfl (en rfl (en rfl (en rfl (en rfl (en rfl s36))))))
          have s37 := (hg 37).trans (en rfl (en rfl (en rfl (en rfl (en rfl (en rfl s37))))))
          have s38 := (hg 38).trans (en rfl (en rfl (en rfl (en rfl (en rfl (en rfl s38))))))
          have s39 := (hg 39).trans (en rfl (en rfl (en rfl (en rfl (en rfl (en rfl s39))))))
          have s43 := (hg 43).trans (en rfl (en rfl (en rfl (en rfl (en rfl (en rfl s43))))))
          have s50 := (hg 50).trans (en rfl (en rfl (en rfl (en rfl (en rfl (en rfl s50))))))
          have s58 := (hg 58).trans (en rfl (en rfl (en rfl (en rfl (en rfl (en rfl s58))))))
          clear hg
          have h := (h.f1).drop
          refine xc_region ?_
          refine x_val (r_add s38 ec (show _ = (((n + 1 : Nat) : Int) : Int) from by omega) (by unfold I64; omega)) (nd_of rfl) rfl ?_
          refine x_val (r_move es) (nd_of rfl) rfl ?_
          refine xw_nil ?_
          exact ⟨os.length - (n + 1), by omega, ⟨n + 1, _, rfl, by omega, hinv.ins (hso.sets hwf), es, h⟩, ⟨((en rfl (en rfl s0))).trans zG8_0.symm, ((en rfl (en rfl s1))).trans zG8_1.symm, ((en rfl (en rfl s2))).trans zG8_2.symm, ((en rfl (en rfl s3))).trans zG8_3.symm, ((en rfl (en rfl s8))).trans zG8_8.symm, ((en rfl (en rfl s9))).trans zG8_9.symm, ((en rfl (en rfl s30))).trans zG8_30.symm, ((en rfl (en rfl s36))).trans zG8_36.symm, ((en rfl (en rfl s37))).trans zG8_37.symm⟩⟩
    ·
      refine xc_exit ?_
      refine hK6 _ _ ?_
      refine xc_seq (fun K hK16 => ?_)
      obtain ⟨B, hB⟩ : ∃ B, B = plc n := ⟨_, rfl⟩
      rw [← hB] at h
      refine xc_region ?_
      refine x_val (r_move s9) (nd_of rfl) rfl ?_
      refine x_val (r_move (en rfl s1)) (nd_of rfl) rfl ?_
      refine x_val (r_move (en rfl (en rfl s2))) (nd_of rfl) rfl ?_
      refine x_enter (r_call Try.call13 (.cons (en rfl (en rfl es)) (.cons (en rfl es) (.cons es .nil)))) (nd_of rfl) rfl (overA hinv (by omega) h) ?_
      rintro _ w ⟨aa, ca, ya, rfl, h⟩
      refine x_val (r_move es) (nd_of rfl) rfl ?_
      refine x_val (r_extract es gc0) (nd_of rfl) rfl ?_
      refine x_val (r_extract (en rfl es) gc1) (nd_of rfl) rfl ?_
      refine x_val (r_assign (en rfl es)) (nd_of rfl) rfl ?_
      refine x_val (r_assign (en rfl es)) (nd_of rfl) rfl ?_
      refine xw_nil ?_
      refine hK16 _ _ ?_
      refine xc_gen (fun g hg => ?_)
      have s0 := (hg 0).trans (en rfl (en rfl (en rfl (en rfl (en rfl (en rfl (en rfl (en rfl (en rfl s0)))))))))
      have s1 := (hg 1).trans (en rfl (en rfl (en rfl (en rfl (en rfl (en rfl (en rfl (en rfl (en rfl s1)))))))))
      have s2 := (hg 2).trans (en rfl (en rfl (en rfl (en rfl (en rfl (en rfl (en rfl (en rfl (en rfl s2)))))))))
      have s3 := (hg 3).trans (en rfl (en rfl (en rfl (en rfl (en rfl (en rfl (en rfl (en rfl (en rfl s3)))))))))
      have s8 := (hg 8).trans (en rfl (en rfl (en rfl (en rfl (en rfl (en rfl (en rfl (en rfl (en rfl s8)))))))))
      have s9 := (hg 9).trans (en rfl (en rfl (en rfl (en rfl (en rfl (en rfl (en rfl (en rfl (en rfl s9)))))))))
      have s12 := (hg 12).trans (en rfl es)
      have s13 := (hg 13).trans es
      have s30 := (hg 30).trans (en rfl (en rfl (en rfl (en rfl (en rfl (en rfl (en rfl (en rfl (en rfl s30)))))))))
      have s36 := (hg 36).trans (en rfl (en rfl (en rfl (en rfl (en rfl (en rfl (en rfl (en rfl (en rfl s36)))))))))
      have s37 := (hg 37).trans (en rfl (en rfl (en rfl (en rfl (en rfl (en rfl (en rfl (en rfl (en rfl s37)))))))))
      have s38 := (hg 38).trans (en rfl (en rfl (en rfl (en rfl (en rfl (en rfl (en rfl (en rfl (en rfl s38)))))))))
      have s39 := (hg 39).trans (en rfl (en rfl (en rfl (en rfl (en rfl (en rfl (en rfl (en rfl (en rfl s39)))))))))
      clear hg
      refine xc_seq (fun K hK17 => ?_)
      refine xc_region ?_
      refine x_val (r_move s9) (nd_of rfl) rfl ?_
      refine x_val (r_move (en rfl s2)) (nd_of rfl) rfl ?_
      refine x_val (r_move (en rfl (en rfl s3))) (nd_of rfl) rfl ?_
      have h := h.f2
      refine x_enter (r_call Try.call13 (.cons (en rfl (en rfl es)) (.cons (en rfl es) (.cons es .nil)))) (nd_of rfl) rfl (overA hinv (by omega) h) ?_
      rintro _ w ⟨ab, cb, yb, rfl, h⟩
      refine x_val (r_move es) (nd_of rfl) rfl ?_
      refine x_val (r_extract es gc0) (nd_of rfl) rfl ?_
      refine x_val (r_extract (en rfl es) gc1) (nd_of rfl) rfl ?_
      refine x_val (r_assign (en rfl es)) (nd_of rfl) rfl ?_
      refine x_val (r_assign (en rfl es)) (nd_of rfl) rfl ?_
      refine xw_nil ?_
      refine hK17 _ _ ?_
      refine xc_gen (fun g hg => ?_)
      have s0 := (hg 0).trans (en rfl (en rfl (en rfl (en rfl (en rfl (en rfl (en rfl (en rfl (en rfl s0)))))))))
      have s1 := (hg 1).trans (en rfl (en rfl (en rfl (en rfl (en rfl (en rfl (en rfl (en rfl (en rfl s1)))))))))
      have s2 := (hg 2).trans (en rfl (en rfl (en rfl (en rfl (en rfl (en rfl (en rfl (en rfl (en rfl s2)))))))))
      have s3 := (hg 3).trans (en rfl (en rfl (en rfl (en rfl (en rfl (en rfl (en rfl (en rfl (en rfl s3)))))))))
      have s8 := (hg 8).trans (en rfl (en rfl (en rfl (en rfl (en rfl (en rfl (en rfl (en rfl (en rfl s8)))))))))
      have s9 := (hg 9).trans (en rfl (en rfl (en rfl (en rfl (en rfl (en rfl (en rfl (en rfl (en rfl s9)))))))))
      have s12 := (hg 12).trans (en rfl (en rfl (en rfl (en rfl (en rfl (en rfl (en rfl (en rfl (en rfl s12)))))))))
      have s13 := (hg 13).trans (en rfl (en rfl (en rfl (en rfl (en rfl (en rfl (en rfl (en rfl (en rfl s13)))))))))
      have s14 := (hg 14).trans (en rfl es)
      have s15 := (hg 15).trans es
      have s30 := (hg 30).trans (en rfl (en rfl (en rfl (en rfl (en rfl (en rfl (en rfl (en rfl (en rfl s30)))))))))
      have s36 := (hg 36).trans (en rfl (en rfl (en rfl (en rfl (en rfl (en rfl (en rfl (en rfl (en rfl s36)))))))))
      have s37 := (hg 37).trans (en rfl (en rfl (en rfl (en rfl (en rfl (en rfl (en rfl (en rfl (en rfl s37)))))))))
      have s38 := (hg 38).trans (en rfl (en rfl (en rfl (en rfl (en rfl (en rfl (en rfl (en rfl (en rfl s38)))))))))
      have s39 := (hg 39).trans (en rfl (en rfl (en rfl (en rfl (en rfl (en rfl (en rfl (en rfl (en rfl s39)))))))))
      clear hg
      refine xc_seq (fun K hK18 => ?_)
      refine xc_region ?_
      refine x_val (r_move s9) (nd_of rfl) rfl ?_
      refine x_val (r_move (en rfl s1)) (nd_of rfl) rfl ?_
      refine x_val (r_move (en rfl (en rfl s3))) (nd_of rfl) rfl ?_
      have h := h.f2
      refine x_enter (r_call Try.call13 (.cons (en rfl (en rfl es)) (.cons (en rfl es) (.cons es .nil)))) (nd_of rfl) rfl (overA hinv (by omega) h) ?_
      rintro _ w ⟨ac, cc, yc, rfl, h⟩
      refine x_val (r_move es) (nd_of rfl) rfl ?_
      refine x_val (r_extract es gc0) (nd_of rfl) rfl ?_
      refine x_val (r_extract (en rfl es) gc1) (nd_of rfl) rfl ?_
      refine x_val (r_assign (en rfl es)) (nd_of rfl) rfl ?_
      refine x_val (r_assign (en rfl es)) (nd_of rfl) rfl ?_
      refine xw_nil ?_
      refine hK18 _ _ ?_
      refine xc_gen (fun g hg => ?_)
      have s0 := (hg 0).trans (en rfl (en rfl (en rfl (en rfl (en rfl (en rfl (en rfl (en rfl (en rfl s0)))))))))
      have s1 := (hg 1).trans (en rfl (en rfl (en rfl (en rfl (en rfl (en rfl (en rfl (en rfl (en rfl s1)))))))))
      have s2 := (hg 2).trans (en rfl (en rfl (en rfl (en rfl (en rfl (en rfl (en rfl (en rfl (en rfl s2)))))))))
      have s3 := (hg 3).trans (en rfl (en rfl (en rfl (en rfl (en rfl (en rfl (en rfl (en rfl (en rfl s3)))))))))
      have s8 := (hg 8).trans (en rfl (en rfl (en rfl (en rfl (en rfl (en rfl (en rfl (en rfl (en rfl s8)))))))))
      have s9 := (hg 9).trans (en rfl (en rfl (en rfl (en rfl (en rfl (en rfl (en rfl (en rfl (en rfl s9)))))))))
      have s12 := (hg 12).trans (en rfl (en rfl (en rfl (en rfl (en rfl (en rfl (en rfl (en rfl (en rfl s12)))))))))
      have s13 := (hg 13).trans (en rfl (en rfl (en rfl (en rfl (en rfl (en rfl (en rfl (en rfl (en rfl s13)))))))))
      have s14 := (hg 14).trans (en rfl (en rfl (en rfl (en rfl (en rfl (en rfl (en rfl (en rfl (en rfl s14)))))))))
      have s15 := (hg 15).trans (en rfl (en rfl (en rfl (en rfl (en rfl (en rfl (en rfl (en rfl (en rfl s15)))))))))
      have s16 := (hg 16).trans (en rfl es)
      have s17 := (hg 17).trans es
      have s30 := (hg 30).trans (en rfl (en rfl (en rfl (en rfl (en rfl (en rfl (en rfl (en rfl (en rfl s30)))))))))
      have s36 := (hg 36).trans (en rfl (en rfl (en rfl (en rfl (en rfl (en rfl (en rfl (en rfl (en rfl s36)))))))))
      have s37 := (hg 37).trans (en rfl (en rfl (en rfl (en rfl (en rfl (en rfl (en rfl (en rfl (en rfl s37)))))))))
      have s38 := (hg 38).trans (en rfl (en rfl (en rfl (en rfl (en rfl (en rfl (en rfl (en rfl (en rfl s38)))))))))
      have s39 := (hg 39).trans (en rfl (en rfl (en rfl (en rfl (en rfl (en rfl (en rfl (en rfl (en rfl s39)))))))))
      clear hg
      rcases Classical.em (isPart L.length i j) with hp1 | hp1
      ·
        skip
        rcases Classical.em (isPart L.length j k) with hp2 | hp2
        ·
          skip
          refine xc_seq (fun K hK19 => ?_)
          refine xc_seq (fun K hK20 => ?_)
          obtain ⟨h0, h1, h2⟩ := id hp1
          obtain ⟨h3, h4, h5⟩ := id hp2
          obtain ⟨ni, rfl⟩ := Int.eq_ofNat_of_zero_le h0
          obtain ⟨nj, rfl⟩ := Int.eq_ofNat_of_zero_le h3
          obtain ⟨nk, rfl⟩ := Int.eq_ofNat_of_zero_le (Int.le_trans h3 h4)
          have hp3 : isPart L.length ni nk := ⟨h0, by omega, h5⟩
          have hlc := h.f1.rowsLen
          have hlb := h.f4.rowsLen
          have hla := h.f6.rowsLen
          rw [part_len hp3] at hlc
          rw [part_len hp2] at hlb
          rw [part_len hp1] at hla
          have hil := hinv.len
          have hSC := s_rows h
          have hSB := (s_rows h.f4.f4).weak (fun _ h => h.f4.f4)
          have hSA := (s_rows h.f6.f6).weak (fun _ h => h.f6.f6)
          refine xc_region ?_
          refine x_val (r_move s13) (nd_of rfl) rfl ?_
          refine x_val (r_neq es ec (decide_eq_false (by exact fun hh => hh (err_zero hp1)))) (nd_of rfl) rfl ?_
          refine x_val (r_move es) (nd_of rfl) rfl ?_
          refine x_take (d := 92) rfl rfl es ?_
          refine x_val (r_move (en rfl (en rfl (en rfl s15)))) (nd_of rfl) rfl ?_
          refine x_take (d := 92) rfl rfl (en rfl es) ?_
          refine x_val (r_neq es ec (decide_eq_false (by exact fun hh => hh (err_zero hp2)))) (nd_of rfl) rfl ?_
          refine x_val (r_pick_f (en rfl (en rfl es)) es) (nd_of rfl) rfl ?_
          refine xw_nil ?_
          refine hK20 _ _ ?_
          refine xc_gen (fun g hg => ?_)
          have s0 := (hg 0).trans (en rfl (en rfl (en rfl (en rfl (en rfl (en rfl s0))))))
          have s1 := (hg 1).trans (en rfl (en rfl (en rfl (en rfl (en rfl (en rfl s1))))))
          have s2 := (hg 2).trans (en rfl (en rfl (en rfl (en rfl (en rfl (en rfl s2))))))
          have s3 := (hg 3).trans (en rfl (en rfl (en rfl (en rfl (en rfl (en rfl s3))))))
          have s8 := (hg 8).trans (en rfl (en rfl (en rfl (en rfl (en rfl (en rfl s8))))))
          have s9 := (hg 9).trans (en rfl (en rfl (en rfl (en rfl (en rfl (en rfl s9))))))
          have s12 := (hg 12).trans (en rfl (en rfl (en rfl (en rfl (en rfl (en rfl s12))))))
          have s13 := (hg 13).trans (en rfl (en rfl (en rfl (en rfl (en rfl (en rfl s13))))))
          have s14 := (hg 14).trans (en rfl (en rfl (en rfl (en rfl (en rfl (en rfl s14))))))
          have s15 := (hg 15).trans (en rfl (en rfl (en rfl (en rfl (en rfl (en rfl s15))))))
          have s16 := (hg 16).trans (en rfl (en rfl (en rfl (en rfl (en rfl (en rfl s16))))))
          have s17 := (hg 17).trans (en rfl (en rfl (en rfl (en rfl (en rfl (en rfl s17))))))
          have s30 := (hg 30).trans (en rfl (en rfl (en rfl (en rfl (en rfl (en rfl s30))))))
          have s36 := (hg 36).trans (en rfl (en rfl (en rfl (en rfl (en rfl (en rfl s36))))))
          have s37 := (hg 37).trans (en rfl (en rfl (en rfl (en rfl (en rfl (en rfl s37))))))
          have s38 := (hg 38).trans (en rfl (en rfl (en rfl (en rfl (en rfl (en rfl s38))))))
          have s39 := (hg 39).trans (en rfl (en rfl (en rfl (en rfl (en rfl (en rfl s39))))))
          have s95 := (hg 95).trans es
          clear hg
          refine xc_cond s95 (fun hc => by cases hc) (fun _ => ?_)
          refine xc_skip ?_
          refine hK19 _ _ ?_
          refine xc_seq (fun K hK21 => ?_)
          refine xc_seq (fun K hK22 => ?_)
          refine xc_region ?_
          refine x_val (r_move s17) (nd_of rfl) rfl ?_
          refine x_val (r_neq es ec (decide_eq_false (by exact fun hh => hh (err_zero hp3)))) (nd_of rfl) rfl ?_
          refine x_val (r_move es) (nd_of rfl) rfl ?_
          refine x_take (d := 99) rfl rfl es ?_
          refine x_val (r_move (en rfl (en rfl (en rfl s16)))) (nd_of rfl) rfl ?_
          refine x_take (d := 99) rfl rfl (en rfl es) ?_
          refine x_val (r_len Try.underlying23 es) (nd_of rfl) rfl ?_
          refine x_take (d := 99) rfl rfl (en rfl (en rfl es)) ?_
          refine x_val (r_move (en rfl (en rfl (en rfl (en rfl (en rfl s12)))))) (nd_of rfl) rfl ?_
          refine x_take (d := 99) rfl rfl (en rfl (en rfl (en rfl es))) ?_
          refine x_val (r_len Try.underlying23 es) (nd_of rfl) rfl ?_
          refine x_take (d := 99) rfl rfl (en rfl (en rfl (en rfl (en rfl es)))) ?_
          refine x_val (r_move (en rfl (en rfl (en rfl (en rfl (en rfl (en rfl (en rfl s14)))))))) (nd_of rfl) rfl ?_
          refine x_take (d := 99) rfl rfl (en rfl (en rfl (en rfl (en rfl (en rfl es))))) ?_
          refine x_val (r_len Try.underlying23 es) (nd_of rfl) rfl ?_
          refine x_take (d := 99) rfl rfl (en rfl (en rfl (en rfl (en rfl (en rfl (en rfl es)))))) ?_
          refine x_val (r_add (en rfl (en rfl es)) es rfl (by unfold I64; omega)) (nd_of rfl) rfl ?_
          refine x_take (d := 99) rfl rfl (en rfl (en rfl (en rfl (en rfl (en rfl (en rfl (en rfl es))))))) ?_
          refine x_val (r_neq (en rfl (en rfl (en rfl (en rfl (en rfl es))))) es (decide_eq_false (by omega))) (nd_of rfl) rfl ?_
          refine x_val (r_pick_f (en rfl (en rfl (en rfl (en rfl (en rfl (en rfl (en rfl (en rfl es)))))))) es) (nd_of rfl) rfl ?_
          refine xw_nil ?_
          refine hK22 _ _ ?_
          refine xc_gen (fun g hg => ?_)
          have s0 := (hg 0).trans (en rfl (en rfl (en rfl (en rfl (en rfl (en rfl (en rfl (en rfl (en rfl (en rfl (en rfl (en rfl s0))))))))))))
          have s1 := (hg 1).trans (en rfl (en rfl (en rfl (en rfl (en rfl (en rfl (en rfl (en rfl (en rfl (en rfl (en rfl (en rfl s1))))))))))))
          have s2 := (hg 2).trans (en rfl (en rfl (en rfl (en rfl (en rfl (en rfl (en rfl (en rfl (en rfl (en rfl (en rfl (en rfl s2))))))))))))
          have s3 := (hg 3).trans (en rfl (en rfl (en rfl (en rfl (en rfl (en rfl (en rfl (en rfl (en rfl (en rfl (en rfl (en rfl s3))))))))))))
          have s8 := (hg 8).trans (en rfl (en rfl (en rfl (en rfl (en rfl (en rfl (en rfl (en rfl (en rfl (en rfl (en rfl (en rfl s8))))))))))))
          have s9 := (hg 9).trans (en rfl (en rfl (en rfl (en rfl (en rfl (en rfl (en rfl (en rfl (en rfl (en rfl (en rfl (en rfl s9))))))))))))
          have s12 := (hg 12).trans (en rfl (en rfl (en rfl (en rfl (en rfl (en rfl (en rfl (en rfl (en rfl (en rfl (en rfl (en rfl s12))))))))))))
          have s13 := (hg 13).trans (en rfl (en rfl (en rfl (en rfl (en rfl (en rfl (en rfl (en rfl (en rfl (en rfl (en rfl (en rfl s13))))))))))))
          have s14 := (hg 14).trans (en rfl (en rfl (en rfl (en rfl (en rfl (en rfl (en rfl (en rfl (en rfl (en rfl (en rfl (en rfl s14))))))))))))
          have s15 := (hg 15).trans (en rfl (en rfl (en rfl (en rfl (en rfl (en rfl (en rfl (en rfl (en rfl (en rfl (en rfl (en rfl s15))))))))))))
          have s16 := (hg 16).trans (en rfl (en rfl (en rfl (en rfl (en rfl (en rfl (en rfl (en rfl (en rfl (en rfl (en rfl (en rfl s16))))))))))))
          have s17 := (hg 17).trans (en rfl (en rfl (en rfl (en rfl (en rfl (en rfl (en rfl (en rfl (en rfl (en rfl (en rfl (en rfl s17))))))))))))
          have s30 := (hg 30).trans (en rfl (en rfl (en rfl (en rfl (en rfl (en rfl (en rfl (en rfl (en rfl (en rfl (en rfl (en rfl s30))))))))))))
          have s36 := (hg 36).trans (en rfl (en rfl (en rfl (en rfl (en rfl (en rfl (en rfl (en rfl (en rfl (en rfl (en rfl (en rfl s36))))))))))))
          have s37 := (hg 37).trans (en rfl (en rfl (en rfl (en rfl (en rfl (en rfl (en rfl (en rfl (en rfl (en rfl (en rfl (en rfl s37))))))))))))
          have s38 := (hg 38).trans (en rfl (en rfl (en rfl (en rfl (en rfl (en rfl (en rfl (en rfl (en rfl (en rfl (en rfl (en rfl s38))))))))))))
          have s39 := (hg 39).trans (en rfl (en rfl (en rfl (en rfl (en rfl (en rfl (en rfl (en rfl (en rfl (en rfl (en rfl (en rfl s39))))))))))))
          have s95 := (hg 95).trans (en rfl (en rfl (en rfl (en rfl (en rfl (en rfl (en rfl (en rfl (en rfl (en rfl (en rfl (en rfl s95))))))))))))
          have s108 := (hg 108).trans es
          clear hg
          refine xc_cond s108 (fun hc => by cases hc) (fun _ => ?_)
          refine xc_skip ?_
          refine hK21 _ _ ?_
          refine xc_seq (fun K hK23 => ?_)
          refine xc_seq (fun K hK24 => ?_)
          refine xc_region ?_
          refine x_val (r_move s16) (nd_of rfl) rfl ?_
          refine x_val (r_len Try.underlying23 es) (nd_of rfl) rfl ?_
          refine x_val (r_move ec) (nd_of rfl) rfl ?_
          refine xw_nil ?_
          refine hK24 _ _ ?_
          refine xc_gen (fun g hg => ?_)
          have s0 := (hg 0).trans (en rfl (en rfl (en rfl s0)))
          have s1 := (hg 1).trans (en rfl (en rfl (en rfl s1)))
          have s2 := (hg 2).trans (en rfl (en rfl (en rfl s2)))
          have s3 := (hg 3).trans (en rfl (en rfl (en rfl s3)))
          have s8 := (hg 8).trans (en rfl (en rfl (en rfl s8)))
          have s9 := (hg 9).trans (en rfl (en rfl (en rfl s9)))
          have s12 := (hg 12).trans (en rfl (en rfl (en rfl s12)))
          have s13 := (hg 13).trans (en rfl (en rfl (en rfl s13)))
          have s14 := (hg 14).trans (en rfl (en rfl (en rfl s14)))
          have s15 := (hg 15).trans (en rfl (en rfl (en rfl s15)))
          have s16 := (hg 16).trans (en rfl (en rfl (en rfl s16)))
          have s17 := (hg 17).trans (en rfl (en rfl (en rfl s17)))
          have s30 := (hg 30).trans (en rfl (en rfl (en rfl s30)))
          have s36 := (hg 36).trans (en rfl (en rfl (en rfl s36)))
          have s37 := (hg 37).trans (en rfl (en rfl (en rfl s37)))
          have s38 := (hg 38).trans (en rfl (en rfl (en rfl s38)))
          have s39 := (hg 39).trans (en rfl (en rfl (en rfl s39)))
          have s95 := (hg 95).trans (en rfl (en rfl (en rfl s95)))
          have s108 := (hg 108).trans (en rfl (en rfl (en rfl s108)))
          have s110 := (hg 110).trans (en rfl es)
          have s111 := (hg 111).trans es
          clear hg
          refine xc_block ?_
          obtain ⟨G25, hG25⟩ : ∃ g0 : Nat → Value, g0 = g := ⟨_, rfl⟩
          have zG25_0 : G25 0 = _ := (congrFun hG25 0).trans s0
          have zG25_1 : G25 1 = _ := (congrFun hG25 1).trans s1
          have zG25_2 : G25 2 = _ := (congrFun hG25 2).trans s2
          have zG25_3 : G25 3 = _ := (congrFun hG25 3).trans s3
          have zG25_9 : G25 9 = _ := (congrFun hG25 9).trans s9
          have zG25_12 : G25 12 = _ := (congrFun hG25 12).trans s12
          have zG25_13 : G25 13 = _ := (congrFun hG25 13).trans s13
          have zG25_14 : G25 14 = _ := (congrFun hG25 14).trans s14
          have zG25_15 : G25 15 = _ := (congrFun hG25 15).trans s15
          have zG25_16 : G25 16 = _ := (congrFun hG25 16).trans s16
          have zG25_17 : G25 17 = _ := (congrFun hG25 17).trans s17
          have zG25_30 : G25 30 = _ := (congrFun hG25 30).trans s30
          have zG25_36 : G25 36 = _ := (congrFun hG25 36).trans s36
          have zG25_37 : G25 37 = _ := (congrFun hG25 37).trans s37
          have zG25_38 : G25 38 = _ := (congrFun hG25 38).trans s38
          have zG25_39 : G25 39 = _ := (congrFun hG25 39).trans s39
          have zG25_95 : G25 95 = _ := (congrFun hG25 95).trans s95
          have zG25_108 : G25 108 = _ := (congrFun hG25 108).trans s108
          have zG25_110 : G25 110 = _ := (congrFun hG25 110).trans s110
          refine xc_loop (fun m f w => (∃ (n : Nat), m = yc.length - n ∧ n ≤ yc.length ∧ f 111 = .int .i64 (n : Int) ∧ SatL E w (XRow (.slice ac yc.length cc) yc :: RowsL yc (part L ni nk) :: Pa b L B :: XRow (.slice ab yb.length cb) yb :: RowsL yb (part L nj nk) :: XRow (.slice aa ya.length ca) ya :: RowsL ya (part L ni nj) :: Old W :: R)) ∧ (f 0 = G25 0 ∧ f 1 = G25 1 ∧ f 2 = G25 2 ∧ f 3 = G25 3 ∧ f 9 = G25 9 ∧ f 12 = G25 12 ∧ f 13 = G25 13 ∧ f 14 = G25 14 ∧ f 15 = G25 15 ∧ f 16 = G25 16 ∧ f 17 = G25 17 ∧ f 30 = G25 30 ∧ f 36 = G25 36 ∧ f 37 = G25 37 ∧ f 38 = G25 38 ∧ f 39 = G25 39 ∧ f 95 = G25 95 ∧ f 108 = G25 108 ∧ f 110 = G25 110)) (yc.length) ⟨⟨0, by omega, by omega, s111, h⟩, ⟨congrFun hG25.symm 0, congrFun hG25.symm 1, congrFun hG25.symm 2, congrFun hG25.symm 3, congrFun hG25.symm 9, congrFun hG25.symm 12, congrFun hG25.symm 13, congrFun hG25.symm 14, congrFun hG25.symm 15, congrFun hG25.symm 16, congrFun hG25.symm 17, congrFun hG25.symm 30, congrFun hG25.symm 36, congrFun hG25.symm 37, congrFun hG25.symm 38, congrFun hG25.symm 39, congrFun hG25.symm 95, congrFun hG25.symm 108, congrFun hG25.symm 110⟩⟩ ?_
          rintro m g w ⟨⟨n, hm, hn, s111, h⟩, ⟨y0, y1, y2, y3, y9, y12, y13, y14, y15, y16, y17, y30, y36, y37, y38, y39, y95, y108, y110⟩⟩
          have s0 := y0.trans zG25_0
          have s1 := y1.trans zG25_1
          have s2 := y2.trans zG25_2
          have s3 := y3.trans zG25_3
          have s9 := y9.trans zG25_9
          have s12 := y12.trans zG25_12
          have s13 := y13.trans zG25_13
          have s14 := y14.trans zG25_14
          have s15 := y15.trans zG25_15
          have s16 := y16.trans zG25_16
          have s17 := y17.trans zG25_17
          have s30 := y30.trans zG25_30
          have s36 := y36.trans zG25_36
          have s37 := y37.trans zG25_37
          have s38 := y38.trans zG25_38
          have s39 := y39.trans zG25_39
          have s95 := y95.trans zG25_95
          have s108 := y108.trans zG25_108
          have s110 := y110.trans zG25_110
          refine xc_seq (fun K hK26 => ?_)
          refine xc_region ?_
          refine x_val (r_lss s111 s110 rfl) (nd_of rfl) rfl ?_
          refine xw_nil ?_
          refine hK26 _ _ ?_
          refine xc_gen (fun g hg => ?_)
          have s0 := (hg 0).trans (en rfl s0)
          have s1 := (hg 1).trans (en rfl s1)
          have s2 := (hg 2).trans (en rfl s2)
          have s3 := (hg 3).trans (en rfl s3)
          have s9 := (hg 9).trans (en rfl s9)
          have s12 := (hg 12).trans (en rfl s12)
          have s13 := (hg 13).trans (en rfl s13)
          have s14 := (hg 14).trans (en rfl s14)
          have s15 := (hg 15).trans (en rfl s15)
          have s16 := (hg 16).trans (en rfl s16)
          have s17 := (hg 17).trans (en rfl s17)
          have s30 := (hg 30).trans (en rfl s30)
          have s36 := (hg 36).trans (en rfl s36)
          have s37 := (hg 37).trans (en rfl s37)
          have s38 := (hg 38).trans (en rfl s38)
          have s39 := (hg 39).trans (en rfl s39)
          have s95 := (hg 95).trans (en rfl s95)
          have s108 := (hg 108).trans (en rfl s108)
          have s110 := (hg 110).trans (en rfl s110)
          have s111 := (hg 111).trans (en rfl s111)
          have s112 := (hg 112).trans es
          clear hg
          refine xc_seq (fun K hK27 => ?_)
          refine xc_cond s112 (fun hc => ?_) (fun hc => ?_)
          ·
            refine xc_skip ?_
            refine hK27 _ _ ?_
            refine xc_seq (fun K hK28 => ?_)
            refine xc_block ?_
            refine xc_seq (fun K hK29 => ?_)
            have hnl : n < yc.length := by have := of_decide_eq_true hc; omega
            obtain ⟨l, hl⟩ : ∃ l, L[ni + n]? = some l := ⟨_, List.getElem?_eq_getElem (by omega)⟩
            have hlC : (part L ni nk)[n]? = some l := by rw [part_get hp3 (by omega)]; exact hl
            have hle := hinv.each l (List.mem_of_getElem? hl)
            have hlw := hle.2.2
            refine xc_region ?_
            refine x_val (r_move s111) (nd_of rfl) rfl ?_
            refine x_val (r_assign es) (nd_of rfl) rfl ?_
            refine xw_nil ?_
            refine hK29 _ _ ?_
            refine xc_gen (fun g hg => ?_)
            have s0 := (hg 0).trans (en rfl (en rfl s0))
            have s1 := (hg 1).trans (en rfl (en rfl s1))
            have s2 := (hg 2).trans (en rfl (en rfl s2))
            have s3 := (hg 3).trans (en rfl (en rfl s3))
            have s9 := (hg 9).trans (en rfl (en rfl s9))
            have s12 := (hg 12).trans (en rfl (en rfl s12))
            have s13 := (hg 13).trans (en rfl (en rfl s13))
            have s14 := (hg 14).trans (en rfl (en rfl s14))
            have s15 := (hg 15).trans (en rfl (en rfl s15))
            have s16 := (hg 16).trans (en rfl (en rfl s16))
            have s17 := (hg 17).trans (en rfl (en rfl s17))
            have s18 := (hg 18).trans es
            have s30 := (hg 30).trans (en rfl (en rfl s30))
            have s36 := (hg 36).trans (en rfl (en rfl s36))
            have s37 := (hg 37).trans (en rfl (en rfl s37))
            have s38 := (hg 38).trans (en rfl (en rfl s38))
            have s39 := (hg 39).trans (en rfl (en rfl s39))
            have s95 := (hg 95).trans (en rfl (en rfl s95))
            have s108 := (hg 108).trans (en rfl (en rfl s108))
            have s110 := (hg 110).trans (en rfl (en rfl s110))
            have s111 := (hg 111).trans (en rfl (en rfl s111))
            have s112 := (hg 112).trans (en rfl (en rfl s112))
            clear hg
            refine xc_seq (fun K hK30 => ?_)
            refine xc_region ?_
            refine x_val (r_move s14) (nd_of rfl) rfl ?_
            refine x_val (r_assign es) (nd_of rfl) rfl ?_
            refine xw_nil ?_
            refine hK30 _ _ ?_
            refine xc_gen (fun g hg => ?_)
            have s0 := (hg 0).trans (en rfl (en rfl s0))
            have s1 := (hg 1).trans (en rfl (en rfl s1))
            have s2 := (hg 2).trans (en rfl (en rfl s2))
            have s3 := (hg 3).trans (en rfl (en rfl s3))
            have s9 := (hg 9).trans (en rfl (en rfl s9))
            have s12 := (hg 12).trans (en rfl (en rfl s12))
            have s13 := (hg 13).trans (en rfl (en rfl s13))
            have s14 := (hg 14).trans (en rfl (en rfl s14))
            have s15 := (hg 15).trans (en rfl (en rfl s15))
            have s16 := (hg 16).trans (en rfl (en rfl s16))
            have s17 := (hg 17).trans (en rfl (en rfl s17))
            have s18 := (hg 18).trans (en rfl (en rfl s18))
            have s19 := (hg 19).trans es
            have s30 := (hg 30).trans (en rfl (en rfl s30))
            have s36 := (hg 36).trans (en rfl (en rfl s36))
            have s37 := (hg 37).trans (en rfl (en rfl s37))
            have s38 := (hg 38).trans (en rfl (en rfl s38))
            have s39 := (hg 39).trans (en rfl (en rfl s39))
            have s95 := (hg 95).trans (en rfl (en rfl s95))
            have s108 := (hg 108).trans (en rfl (en rfl s108))
            have s110 := (hg 110).trans (en rfl (en rfl s110))
            have s111 := (hg 111).trans (en rfl (en rfl s111))
            have s112 := (hg 112).trans (en rfl (en rfl s112))
            clear hg
            refine xc_seq (fun K hK31 => ?_)
            refine xc_region ?_
            refine x_val (r_move s18) (nd_of rfl) rfl ?_
            refine x_val (r_move (en rfl s12)) (nd_of rfl) rfl ?_
            refine x_val (r_len Try.underlying23 es) (nd_of rfl) rfl ?_
            refine x_val (r_sub (en rfl (en rfl es)) es (show _ = (((n : Int) - (ya.length : Int)) : Int) from by rfl) (by unfold I64; omega)) (nd_of rfl) rfl ?_
            refine x_val (r_assign es) (nd_of rfl) rfl ?_
            refine xw_nil ?_
            refine hK31 _ _ ?_
            refine xc_gen (fun g hg => ?_)
            have s0 := (hg 0).trans (en rfl (en rfl (en rfl (en rfl (en rfl s0)))))
            have s1 := (hg 1).trans (en rfl (en rfl (en rfl (en rfl (en rfl s1)))))
            have s2 := (hg 2).trans (en rfl (en rfl (en rfl (en rfl (en rfl s2)))))
            have s3 := (hg 3).trans (en rfl (en rfl (en rfl (en rfl (en rfl s3)))))
            have s9 := (hg 9).trans (en rfl (en rfl (en rfl (en rfl (en rfl s9)))))
            have s12 := (hg 12).trans (en rfl (en rfl (en rfl (en rfl (en rfl s12)))))
            have s13 := (hg 13).trans (en rfl (en rfl (en rfl (en rfl (en rfl s13)))))
            have s14 := (hg 14).trans (en rfl (en rfl (en rfl (en rfl (en rfl s14)))))
            have s15 := (hg 15).trans (en rfl (en rfl (en rfl (en rfl (en rfl s15)))))
            have s16 := (hg 16).trans (en rfl (en rfl (en rfl (en rfl (en rfl s16)))))
            have s17 := (hg 17).trans (en rfl (en rfl (en rfl (en rfl (en rfl s17)))))
            have s18 := (hg 18).trans (en rfl (en rfl (en rfl (en rfl (en rfl s18)))))
            have s19 := (hg 19).trans (en rfl (en rfl (en rfl (en rfl (en rfl s19)))))
            have s20 := (hg 20).trans es
            have s30 := (hg 30).trans (en rfl (en rfl (en rfl (en rfl (en rfl s30)))))
            have s36 := (hg 36).trans (en rfl (en rfl (en rfl (en rfl (en rfl s36)))))
            have s37 := (hg 37).trans (en rfl (en rfl (en rfl (en rfl (en rfl s37)))))
            have s38 := (hg 38).trans (en rfl (en rfl (en rfl (en rfl (en rfl s38)))))
            have s39 := (hg 39).trans (en rfl (en rfl (en rfl (en rfl (en rfl s39)))))
            have s95 := (hg 95).trans (en rfl (en rfl (en rfl (en rfl (en rfl s95)))))
            have s108 := (hg 108).trans (en rfl (en rfl (en rfl (en rfl (en rfl s108)))))
            have s110 := (hg 110).trans (en rfl (en rfl (en rfl (en rfl (en rfl s110)))))
            have s111 := (hg 111).trans (en rfl (en rfl (en rfl (en rfl (en rfl s111)))))
            have s112 := (hg 112).trans (en rfl (en rfl (en rfl (en rfl (en rfl s112)))))
            clear hg
            refine xc_seq (fun K hK32 => ?_)
            refine xc_seq (fun K hK33 => ?_)
            refine xc_region ?_
            refine x_val (r_move s18) (nd_of rfl) rfl ?_
            refine x_val (r_move (en rfl s12)) (nd_of rfl) rfl ?_
            refine x_val (r_len Try.underlying23 es) (nd_of rfl) rfl ?_
            refine x_val (r_lss (en rfl (en rfl es)) es rfl) (nd_of rfl) rfl ?_
            refine xw_nil ?_
            refine hK33 _ _ ?_
            refine xc_gen (fun g hg => ?_)
            have s0 := (hg 0).trans (en rfl (en rfl (en rfl (en rfl s0))))
            have s1 := (hg 1).trans (en rfl (en rfl (en rfl (en rfl s1))))
            have s2 := (hg 2).trans (en rfl (en rfl (en rfl (en rfl s2))))
            have s3 := (hg 3).trans (en rfl (en rfl (en rfl (en rfl s3))))
            have s9 := (hg 9).trans (en rfl (en rfl (en rfl (en rfl s9))))
            have s12 := (hg 12).trans (en rfl (en rfl (en rfl (en rfl s12))))
            have s13 := (hg 13).trans (en rfl (en rfl (en rfl (en rfl s13))))
            have s14 := (hg 14).trans (en rfl (en rfl (en rfl (en rfl s14))))
            have s15 := (hg 15).trans (en rfl (en rfl (en rfl (en rfl s15))))
            have s16 := (hg 16).trans (en rfl (en rfl (en rfl (en rfl s16))))
            have s17 := (hg 17).trans (en rfl (en rfl (en rfl (en rfl s17))))
            have s18 := (hg 18).trans (en rfl (en rfl (en rfl (en rfl s18))))
            have s19 := (hg 19).trans (en rfl (en rfl (en rfl (en rfl s19))))
            have s20 := (hg 20).trans (en rfl (en rfl (en rfl (en rfl s20))))
            have s30 := (hg 30).trans (en rfl (en rfl (en rfl (en rfl s30))))
            have s36 := (hg 36).trans (en rfl (en rfl (en rfl (en rfl s36))))
            have s37 := (hg 37).trans (en rfl (en rfl (en rfl (en rfl s37))))
            have s38 := (hg 38).trans (en rfl (en rfl (en rfl (en rfl s38))))
            have s39 := (hg 39).trans (en rfl (en rfl (en rfl (en rfl s39))))
            have s95 := (hg 95).trans (en rfl (en rfl (en rfl (en rfl s95))))
            have s108 := (hg 108).trans (en rfl (en rfl (en rfl (en rfl s108))))
            have s110 := (hg 110).trans (en rfl (en rfl (en rfl (en rfl s110))))
            have s111 := (hg 111).trans (en rfl (en rfl (en rfl (en rfl s111))))
            have s112 := (hg 112).trans (en rfl (en rfl (en rfl (en rfl s112))))
            have s122 := (hg 122).trans es
            clear hg
            refine xc_cond s122 (fun hc => ?_) (fun hc => ?_)
            ·
              have hna : n < ya.length := by have := of_decide_eq_true hc; omega
              have hlA : (part L ni nj)[n]? = some l := by rw [part_get hp1 (by omega)]; exact hl
              refine xc_region ?_
              refine x_val (r_move s12) (nd_of rfl) rfl ?_
              refine x_val (r_move (en rfl s18)) (nd_of rfl) rfl ?_
              refine x_val (r_assign (en rfl es)) (nd_of rfl) rfl ?_
              refine x_val (r_assign (en rfl es)) (nd_of rfl) rfl ?_
              refine xw_nil ?_
              refine hK32 _ _ ?_
              refine xc_gen (fun g hg => ?_)
              have s0 := (hg 0).trans (en rfl (en rfl (en rfl (en rfl s0))))
              have s1 := (hg 1).trans (en rfl (en rfl (en rfl (en rfl s1))))
              have s2 := (hg 2).trans (en rfl (en rfl (en rfl (en rfl s2))))
              have s3 := (hg 3).trans (en rfl (en rfl (en rfl (en rfl s3))))
              have s9 := (hg 9).trans (en rfl (en rfl (en rfl (en rfl s9))))
              have s12 := (hg 12).trans (en rfl (en rfl (en rfl (en rfl s12))))
              have s13 := (hg 13).trans (en rfl (en rfl (en rfl (en rfl s13))))
              have s14 := (hg 14).trans (en rfl (en rfl (en rfl (en rfl s14))))
              have s15 := (hg 15).trans (en rfl (en rfl (en rfl (en rfl s15))))
              have s16 := (hg 16).trans (en rfl (en rfl (en rfl (en rfl s16))))
              have s17 := (hg 17).trans (en rfl (en rfl (en rfl (en rfl s17))))
              have s18 := (hg 18).trans (en rfl (en rfl (en rfl (en rfl s18))))
              have s19 := (hg 19).trans (en rfl es)
              have s20 := (hg 20).trans es
              have s30 := (hg 30).trans (en rfl (en rfl (en rfl (en rfl s30))))
              have s36 := (hg 36).trans (en rfl (en rfl (en rfl (en rfl s36))))
              have s37 := (hg 37).trans (en rfl (en rfl (en rfl (en rfl s37))))
              have s38 := (hg 38).trans (en rfl (en rfl (en rfl (en rfl s38))))
              have s39 := (hg 39).trans (en rfl (en rfl (en rfl (en rfl s39))))
              have s95 := (hg 95).trans (en rfl (en rfl (en rfl (en rfl s95))))
              have s108 := (hg 108).trans (en rfl (en rfl (en rfl (en rfl s108))))
              have s110 := (hg 110).trans (en rfl (en rfl (en rfl (en rfl s110))))
              have s111 := (hg 111).trans (en rfl (en rfl (en rfl (en rfl s111))))
              have s112 := (hg 112).trans (en rfl (en rfl (en rfl (en rfl s112))))
              have s122 := (hg 122).trans (en rfl (en rfl (en rfl (en rfl s122))))
              clear hg
              refine xc_seq (fun K hK34 => ?_)
              refine xc_region ?_
              refine x_val (r_move s9) (nd_of rfl) rfl ?_
              refine x_val (r_move (en rfl s1)) (nd_of rfl) rfl ?_
              refine x_val (r_move (en rfl (en rfl s18))) (nd_of rfl) rfl ?_
              refine x_val (r_add (en rfl es) es (show _ = (((ni + n : Nat) : Int) : Int) from by omega) (by unfold I64; omega)) (nd_of rfl) rfl ?_
              have h := h.f2
              refine x_enter (r_call Try.call15 (.cons (en rfl (en rfl (en rfl es))) (.cons es .nil))) (nd_of rfl) rfl (atP (n := ni + n) (l := l) hl (by omega) (by omega) h) ?_
              rintro _ w ⟨v5, rfl, h⟩
              obtain ⟨a5, c5, rfl, _, _⟩ := h.rowVal
              obtain ⟨adc, cc2, xc, evc, hnc, hcellc, hac⟩ := hSC.at hlC h.drop.b2
              simp only [Value.slice.injEq] at evc
              obtain ⟨rfl, _, rfl⟩ := evc
              obtain ⟨adh, ch2, xh, evh, hnh, hcellh, hah⟩ := hSA.at hlA h.drop.b2
              simp only [Value.slice.injEq] at evh
              obtain ⟨rfl, _, rfl⟩ := evh
              refine x_val (r_move es) (nd_of rfl) rfl ?_
              refine x_val (r_extract es gc0) (nd_of rfl) rfl ?_
              refine x_val (r_extract (en rfl es) gc1) (nd_of rfl) rfl ?_
              refine x_val (r_assign (en rfl es)) (nd_of rfl) rfl ?_
              refine x_val (r_assign (en rfl es)) (nd_of rfl) rfl ?_
              refine xw_nil ?_
              refine hK34 _ _ ?_
              refine xc_gen (fun g hg => ?_)
              have s0 := (hg 0).trans (en rfl (en rfl (en rfl (en rfl (en rfl (en rfl (en rfl (en rfl (en rfl (en rfl s0))))))))))
              have s1 := (hg 1).trans (en rfl (en rfl (en rfl (en rfl (en rfl (en rfl (en rfl (en rfl (en rfl (en rfl s1))))))))))
              have s2 := (hg 2).trans (en rfl (en rfl (en rfl (en rfl (en rfl (en rfl (en rfl (en rfl (en rfl (en rfl s2))))))))))
              have s3 := (hg 3).trans (en rfl (en rfl (en rfl (en rfl (en rfl (en rfl (en rfl (en rfl (en rfl (en rfl s3))))))))))
              have s9 := (hg 9).trans (en rfl (en rfl (en rfl (en rfl (en rfl (en rfl (en rfl (en rfl (en rfl (en rfl s9))))))))))
              have s12 := (hg 12).trans (en rfl (en rfl (en rfl (en rfl (en rfl (en rfl (en rfl (en rfl (en rfl (en rfl s12))))))))))
              have s13 := (hg 13).trans (en rfl (en rfl (en rfl (en rfl (en rfl (en rfl (en rfl (en rfl (en rfl (en rfl s13))))))))))
              have s14 := (hg 14).trans (en rfl (en rfl (en rfl (en rfl (en rfl (en rfl (en rfl (en rfl (en rfl (en rfl s14))))))))))
              have s15 := (hg 15).trans (en rfl (en rfl (en rfl (en rfl (en rfl (en rfl (en rfl (en rfl (en rfl (en rfl s15))))))))))
              have s16 := (hg 16).trans (en rfl (en rfl (en rfl (en rfl (en rfl (en rfl (en rfl (en rfl (en rfl (en rfl s16))))))))))
              have s17 := (hg 17).trans (en rfl (en rfl (en rfl (en rfl (en rfl (en rfl (en rfl (en rfl (en rfl (en rfl s17))))))))))
              have s18 := (hg 18).trans (en rfl (en rfl (en rfl (en rfl (en rfl (en rfl (en rfl (en rfl (en rfl (en rfl s18))))))))))
              have s19 := (hg 19).trans (en rfl (en rfl (en rfl (en rfl (en rfl (en rfl (en rfl (en rfl (en rfl (en rfl s19))))))))))
              have s20 := (hg 20).trans (en rfl (en rfl (en rfl (en rfl (en rfl (en rfl (en rfl (en rfl (en rfl (en rfl s20))))))))))
              have s21 := (hg 21).trans (en rfl es)
              have s22 := (hg 22).trans es
              have s30 := (hg 30).trans (en rfl (en rfl (en rfl (en rfl (en rfl (en rfl (en rfl (en rfl (en rfl (en rfl s30))))))))))
              have s36 := (hg 36).trans (en rfl (en rfl (en rfl (en rfl (en rfl (en rfl (en rfl (en rfl (en rfl (en rfl s36))))))))))
              have s37 := (hg 37).trans (en rfl (en rfl (en rfl (en rfl (en rfl (en rfl (en rfl (en rfl (en rfl (en rfl s37))))))))))
              have s38 := (hg 38).trans (en rfl (en rfl (en rfl (en rfl (en rfl (en rfl (en rfl (en rfl (en rfl (en rfl s38))))))))))
              have s39 := (hg 39).trans (en rfl (en rfl (en rfl (en rfl (en rfl (en rfl (en rfl (en rfl (en rfl (en rfl s39))))))))))
              have s95 := (hg 95).trans (en rfl (en rfl (en rfl (en rfl (en rfl (en rfl (en rfl (en rfl (en rfl (en rfl s95))))))))))
              have s108 := (hg 108).trans (en rfl (en rfl (en rfl (en rfl (en rfl (en rfl (en rfl (en rfl (en rfl (en rfl s108))))))))))
              have s110 := (hg 110).trans (en rfl (en rfl (en rfl (en rfl (en rfl (en rfl (en rfl (en rfl (en rfl (en rfl s110))))))))))
              have s111 := (hg 111).trans (en rfl (en rfl (en rfl (en rfl (en rfl (en rfl (en rfl (en rfl (en rfl (en rfl s111))))))))))
              have s112 := (hg 112).trans (en rfl (en rfl (en rfl (en rfl (en rfl (en rfl (en rfl (en rfl (en rfl (en rfl s112))))))))))
              have s122 := (hg 122).trans (en rfl (en rfl (en rfl (en rfl (en rfl (en rfl (en rfl (en rfl (en rfl (en rfl s122))))))))))
              clear hg
              refine xc_seq (fun K hK35 => ?_)
              refine xc_plan 23 [(0, 2), (1, 2), (2, 2), (3, 2), (4, 2), (5, 2), (6, 2), (7, 1), (8, 0), (9, 2), (10, 2), (11, 2), (12, 2), (13, 2), (14, 2), (15, 1), (16, 2), (17, 2), (18, 2), (19, 1), (20, 0), (21, 2), (22, 2)] (by kernel_rfl) rfl (by kernel_rfl) h ?_
              have h := h.drew
              refine xp_read (i := 0) rfl (fun W => r_move s22) rfl (fun _ _ _ hh => by first | exact bodyR_np hh | exact bodyY_np hh | exact hh) ?_
              refine xp_read (i := 1) rfl (fun W => r_neq es ec (r := false) rfl) rfl (fun _ _ _ hh => by first | exact bodyR_np hh | exact bodyY_np hh | exact hh) ?_
              refine xp_read (i := 2) rfl (fun W => r_move es) rfl (fun _ _ _ hh => by first | exact bodyR_np hh | exact bodyY_np hh | exact hh) ?_
              refine xp_readG (i := 3) (d := 135) rfl rfl rfl es (fun W => r_move (en rfl (en rfl (en rfl s21)))) rfl (fun _ _ _ hh => by first | exact bodyR_np hh | exact bodyY_np hh | exact hh) ?_
              refine xp_readG (i := 4) (d := 135) rfl rfl rfl (en rfl es) (fun W => r_move (en rfl (en rfl (en rfl (en rfl s16))))) rfl (fun _ _ _ hh => by first | exact bodyR_np hh | exact bodyY_np hh | exact hh) ?_
              refine xp_readG (i := 5) (d := 135) rfl rfl rfl (en rfl (en rfl es)) (fun W => r_move (en rfl (en rfl (en rfl (en rfl (en rfl s18)))))) rfl (fun _ _ _ hh => by first | exact bodyR_np hh | exact bodyY_np hh | exact hh) ?_
              refine xp_readG (i := 6) (d := 135) rfl rfl rfl (en rfl (en rfl (en rfl es))) (fun W => r_index1 Try.underlying23 Try.sizeOf38 (en rfl es) es hnc) rfl (fun _ _ _ hh => by first | exact bodyR_np hh | exact bodyY_np hh | exact hh) ?_
              refine xp_loadG (i := 7) (d := 135) rfl rfl rfl (en rfl (en rfl (en rfl (en rfl es)))) (fun W hW => r_loadCell Try.isAgg38 es (hcellc _ hW.drop.b2)) rfl (fun _ _ _ hh => by first | exact bodyR_np hh | exact bodyY_np hh | exact hh) ?_
              refine xp_enterG (i := 8) (e := 135) rfl rfl rfl (en rfl (en rfl (en rfl (en rfl (en rfl es))))) (r_call Try.call16 (.cons (en rfl (en rfl (en rfl (en rfl es)))) (.cons es .nil))) rfl (same_yes (l := l) (a_row h) (hac.weak (fun _ h => h.drop.b2)) hlw (by omega) h) ?_
              rintro _ w ⟨rfl, h⟩
              refine ⟨(fun _ => h), ?_⟩
              refine xp_readG (i := 9) (d := 135) rfl rfl rfl (en rfl (en rfl (en rfl (en rfl (en rfl (en rfl es)))))) (fun W => r_not es rfl) rfl (fun _ _ _ hh => by first | exact bodyR_np hh | exact bodyY_np hh | exact hh) ?_
              refine xp_read (i := 10) rfl (fun W => r_pick_f (en rfl (en rfl (en rfl (en rfl (en rfl (en rfl (en rfl es))))))) es) rfl (fun _ _ _ hh => by first | exact bodyR_np hh | exact bodyY_np hh | exact hh) ?_
              refine xp_read (i := 11) rfl (fun W => r_move es) rfl (fun _ _ _ hh => by first | exact bodyR_np hh | exact bodyY_np hh | exact hh) ?_
              refine xp_readG (i := 12) (d := 144) rfl rfl rfl es (fun W => r_move (en rfl (en rfl (en rfl (en rfl (en rfl (en rfl (en rfl (en rfl (en rfl (en rfl (en rfl (en rfl s19))))))))))))) rfl (fun _ _ _ hh => by first | exact bodyR_np hh | exact bodyY_np hh | exact hh) ?_
              refine xp_readG (i := 13) (d := 144) rfl rfl rfl (en rfl es) (fun W => r_move (en rfl (en rfl (en rfl (en rfl (en rfl (en rfl (en rfl (en rfl (en rfl (en rfl (en rfl (en rfl (en rfl s20)))))))))))))) rfl (fun _ _ _ hh => by first | exact bodyR_np hh | exact bodyY_np hh | exact hh) ?_
              refine xp_readG (i := 14) (d := 144) rfl rfl rfl (en rfl (en rfl es)) (fun W => r_index1 Try.underlying23 Try.sizeOf38 (en rfl es) es hnh) rfl (fun _ _ _ hh => by first | exact bodyR_np hh | exact bodyY_np hh | exact hh) ?_
              refine xp_loadG (i := 15) (d := 144) rfl rfl rfl (en rfl (en rfl (en rfl es))) (fun W hW => r_loadCell Try.isAgg38 es (hcellh _ hW.drop.b2)) rfl (fun _ _ _ hh => by first | exact bodyR_np hh | exact bodyY_np hh | exact hh) ?_
              refine xp_readG (i := 16) (d := 144) rfl rfl rfl (en rfl (en rfl (en rfl (en rfl es)))) (fun W => r_move (en rfl (en rfl (en rfl (en rfl (en rfl (en rfl (en rfl (en rfl (en rfl (en rfl (en rfl (en rfl (en rfl (en rfl (en rfl (en rfl s16))))))))))))))))) rfl (fun _ _ _ hh => by first | exact bodyR_np hh | exact bodyY_np hh | exact hh) ?_
              refine xp_readG (i := 17) (d := 144) rfl rfl rfl (en rfl (en rfl (en rfl (en rfl (en rfl es))))) (fun W => r_move (en rfl (en rfl (en rfl (en rfl (en rfl (en rfl (en rfl (en rfl (en rfl (en rfl (en rfl (en rfl (en rfl (en rfl (en rfl (en rfl (en rfl s18)))))))))))))))))) rfl (fun _ _ _ hh => by first | exact bodyR_np hh | exact bodyY_np hh | exact hh) ?_
              refine xp_readG (i := 18) (d := 144) rfl rfl rfl (en rfl (en rfl (en rfl (en rfl (en rfl (en rfl es)))))) (fun W => r_index1 Try.underlying23 Try.sizeOf38 (en rfl es) es hnc) rfl (fun _ _ _ hh => by first | exact bodyR_np hh | exact bodyY_np hh | exact hh) ?_
              refine xp_loadG (i := 19) (d := 144) rfl rfl rfl (en rfl (en rfl (en rfl (en rfl (en rfl (en rfl (en rfl es))))))) (fun W hW => r_loadCell Try.isAgg38 es (hcellc _ hW.drop.b2)) rfl (fun _ _ _ hh => by first | exact bodyR_np hh | exact bodyY_np hh | exact hh) ?_
              refine xp_enterG (i := 20) (e := 144) rfl rfl rfl (en rfl (en rfl (en rfl (en rfl (en rfl (en rfl (en rfl (en rfl es)))))))) (r_call Try.call16 (.cons (en rfl (en rfl (en rfl (en rfl es)))) (.cons es .nil))) rfl (same_yes (l := l) (hah.weak (fun _ h => h.drop.b2)) (hac.weak (fun _ h => h.drop.b2)) hlw (by omega) h) ?_
              rintro _ w ⟨rfl, h⟩
              refine ⟨(fun _ => h), ?_⟩
              refine xp_readG (i := 21) (d := 144) rfl rfl rfl (en rfl (en rfl (en rfl (en rfl (en rfl (en rfl (en rfl (en rfl (en rfl es))))))))) (fun W => r_not es rfl) rfl (fun _ _ _ hh => by first | exact bodyR_np hh | exact bodyY_np hh | exact hh) ?_
              refine xp_read (i := 22) rfl (fun W => r_pick_f (en rfl (en rfl (en rfl (en rfl (en rfl (en rfl (en rfl (en rfl (en rfl (en rfl es)))))))))) es) rfl (fun _ _ _ hh => by first | exact bodyR_np hh | exact bodyY_np hh | exact hh) ?_
              refine xp_nil ?_
              refine hK35 _ _ ?_
              refine xc_gen (fun g hg => ?_)
              have s0 := (hg 0).trans (en rfl (en rfl (en rfl (en rfl (en rfl (en rfl (en rfl (en rfl (en rfl (en rfl (en rfl (en rfl (en rfl (en rfl (en rfl (en rfl (en rfl (en rfl (en rfl (en rfl (en rfl (en rfl (en rfl s0)))))))))))))))))))))))
              have s1 := (hg 1).trans (en rfl (en rfl (en rfl (en rfl (en rfl (en rfl (en rfl (en rfl (en rfl (en rfl (en rfl (en rfl (en rfl (en rfl (en rfl (en rfl (en rfl (en rfl (en rfl (en rfl (en rfl (en rfl (en rfl s1)))))))))))))))))))))))
              have s2 := (hg 2).trans (en rfl (en rfl (en rfl (en rfl (en rfl (en rfl (en rfl (en rfl (en rfl (en rfl (en rfl (en rfl (en rfl (en rfl (en rfl (en rfl (en rfl (en rfl (en rfl (en rfl (en rfl (en rfl (en rfl s2)))))))))))))))))))))))
              have s3 := (hg 3).trans (en rfl (en rfl (en rfl (en rfl (en rfl (en rfl (en rfl (en rfl (en rfl (en rfl (en rfl (en rfl (en rfl (en rfl (en rfl (en rfl (en rfl (en rfl (en rfl (en rfl (en rfl (en rfl (en rfl s3)))))))))))))))))))))))
              have s9 := (hg 9).trans (en rfl (en rfl (en rfl (en rfl (en rfl (en rfl (en rfl (en rfl (en rfl (en rfl (en rfl (en rfl (en rfl (en rfl (en rfl (en rfl (en rfl (en rfl (en rfl (en rfl (en rfl (en rfl (en rfl s9)))))))))))))))))))))))
              have s12 := (hg 12).trans (en rfl (en rfl (en rfl (en rfl (en rfl (en rfl (en rfl (en rfl (en rfl (en rfl (en rfl (en rfl (en rfl (en rfl (en rfl (en rfl (en rfl (en rfl (en rfl (en rfl (en rfl (en rfl (en rfl s12)))))))))))))))))))))))
              have s13 := (hg 13).trans (en rfl (en rfl (en rfl (en rfl (en rfl (en rfl (en rfl (en rfl (en rfl (en rfl (en rfl (en rfl (en rfl (en rfl (en rfl (en rfl (en rfl (en rfl (en rfl (en rfl (en rfl (en rfl (en rfl s13)))))))))))))))))))))))
              have s14 := (hg 14).trans (en rfl (en rfl (en rfl (en rfl (en rfl (en rfl (en rfl (en rfl (en rfl (en rfl (en rfl (en rfl (en rfl (en rfl (en rfl (en rfl (en rfl (en rfl (en rfl (en rfl (en rfl (en rfl (en rfl s14)))))))))))))))))))))))
              have s15 := (hg 15).trans (en rfl (en rfl (en rfl (en rfl (en rfl (en rfl (en rfl (en rfl (en rfl (en rfl (en rfl (en rfl (en rfl (en rfl (en rfl (en rfl (en rfl (en rfl (en rfl (en rfl (en rfl (en rfl (en rfl s15)))))))))))))))))))))))
              have s16 := (hg 16).trans (en rfl (en rfl (en rfl (en rfl (en rfl (en rfl (en rfl (en rfl (en rfl (en rfl (en rfl (en rfl (en rfl (en rfl (en rfl (en rfl (en rfl (en rfl (en rfl (en rfl (en rfl (en rfl (en rfl s16)))))))))))))))))))))))
              have s17 := (hg 17).trans (en rfl (en rfl (en rfl (en rfl (en rfl (en rfl (en rfl (en rfl (en rfl (en rfl (en rfl (en rfl (en rfl (en rfl (en rfl (en rfl (en rfl (en rfl (en rfl (en rfl (en rfl (en rfl (en rfl s17)))))))))))))))))))))))
              have s18 := (hg 18).trans (en rfl (en rfl (en rfl (en rfl (en rfl (en rfl (en rfl (en rfl (en rfl (en rfl (en rfl (en rfl (en rfl (en rfl (en rfl (en rfl (en rfl (en rfl (en rfl (en rfl (en rfl (en rfl (en rfl s18)))))))))))))))))))))))
              have s19 := (hg 19).trans (en rfl (en rfl (en rfl (en rfl (en rfl (en rfl (en rfl (en rfl (en rfl (en rfl (en rfl (en rfl (en rfl (en rfl (en rfl (en rfl (en rfl (en rfl (en rfl (en rfl (en rfl (en rfl (en rfl s19)))))))))))))))))))))))
              have s20 := (hg 20).trans (en rfl (en rfl (en rfl (en rfl (en rfl (en rfl (en rfl (en rfl (en rfl (en rfl (en rfl (en rfl (en rfl (en rfl (en rfl (en rfl (en rfl (en rfl (en rfl (en rfl (en rfl (en rfl (en rfl s20)))))))))))))))))))))))
              have s21 := (hg 21).trans (en rfl (en rfl (en rfl (en rfl (en rfl (en rfl (en rfl (en rfl (en rfl (en rfl (en rfl (en rfl (en rfl (en rfl (en rfl (en rfl (en rfl (en rfl (en rfl (en rfl (en rfl (en rfl (en rfl s21)))))))))))))))))))))))
              have s22 := (hg 22).trans (en rfl (en rfl (en rfl (en rfl (en rfl (en rfl (en rfl (en rfl (en rfl (en rfl (en rfl (en rfl (en rfl (en rfl (en rfl (en rfl (en rfl (en rfl (en rfl (en rfl (en rfl (en rfl (en rfl s22)))))))))))))))))))))))
              have s30 := (hg 30).trans (en rfl (en rfl (en rfl (en rfl (en rfl (en rfl (en rfl (en rfl (en rfl (en rfl (en rfl (en rfl (en rfl (en rfl (en rfl (en rfl (en rfl (en rfl (en rfl (en rfl (en rfl (en rfl (en rfl s30)))))))))))))))))))))))
              have s36 := (hg 36).trans (en rfl (en rfl (en rfl (en rfl (en rfl (en rfl (en rfl (en rfl (en rfl (en rfl (en rfl (en rfl (en rfl (en rfl (en rfl (en rfl (en rfl (en rfl (en rfl (en rfl (en rfl (en rfl (en rfl s36)))))))))))))))))))))))
              have s37 := (hg 37).trans (en rfl (en rfl (en rfl (en rfl (en rfl (en rfl (en rfl (en rfl (en rfl (en rfl (en rfl (en rfl (en rfl (en rfl (en rfl (en rfl (en rfl (en rfl (en rfl (en rfl (en rfl (en rfl (en rfl s37)))))))))))))))))))))))
              have s38 := (hg 38).trans (en rfl (en rfl (en rfl (en rfl (en rfl (en rfl (en rfl (en rfl (en rfl (en rfl (en rfl (en rfl (en rfl (en rfl (en rfl (en rfl (en rfl (en rfl (en rfl (en rfl (en rfl (en rfl (en rfl s38)))))))))))))))))))))))
              have s39 := (hg 39).trans (en rfl (en rfl (en rfl (en rfl (en rfl (en rfl (en rfl (en rfl (en rfl (en rfl (en rfl (en rfl (en rfl (en rfl (en rfl (en rfl (en rfl (en rfl (en rfl (en rfl (en rfl (en rfl (en rfl s39)))))))))))))))))))))))
              have s95 := (hg 95).trans (en rfl (en rfl (en rfl (en rfl (en rfl (en rfl (en rfl (en rfl (en rfl (en rfl (en rfl (en rfl (en rfl (en rfl (en rfl (en rfl (en rfl (en rfl (en rfl (en rfl (en rfl (en rfl (en rfl s95)))))))))))))))))))))))
              have s108 := (hg 108).trans (en rfl (en rfl (en rfl (en rfl (en rfl (en rfl (en rfl (en rfl (en rfl (en rfl (en rfl (en rfl (en rfl (en rfl (en rfl (en rfl (en rfl (en rfl (en rfl (en rfl (en rfl (en rfl (en rfl s108)))))))))))))))))))))))
              have s110 := (hg 110).trans (en rfl (en rfl (en rfl (en rfl (en rfl (en rfl (en rfl (en rfl (en rfl (en rfl (en rfl (en rfl (en rfl (en rfl (en rfl (en rfl (en rfl (en rfl (en rfl (en rfl (en rfl (en rfl (en rfl s110)))))))))))))))))))))))
              have s111 := (hg 111).trans (en rfl (en rfl (en rfl (en rfl (en rfl (en rfl (en rfl (en rfl (en rfl (en rfl (en rfl (en rfl (en rfl (en rfl (en rfl (en rfl (en rfl (en rfl (en rfl (en rfl (en rfl (en rfl (en rfl s111)))))))))))))))))))))))
              have s112 := (hg 112).trans (en rfl (en rfl (en rfl (en rfl (en rfl (en rfl (en rfl (en rfl (en rfl (en rfl (en rfl (en rfl (en rfl (en rfl (en rfl (en rfl (en rfl (en rfl (en rfl (en rfl (en rfl (en rfl (en rfl s112)))))))))))))))))))))))
              have s122 := (hg 122).trans (en rfl (en rfl (en rfl (en rfl (en rfl (en rfl (en rfl (en rfl (en rfl (en rfl (en rfl (en rfl (en rfl (en rfl (en rfl (en rfl (en rfl (en rfl (en rfl (en rfl (en rfl (en rfl (en rfl s122)))))))))))))))))))))))
              have s155 := (hg 155).trans es
              clear hg
              refine xc_cond s155 (fun hc => by cases hc) (fun _ => ?_)
              refine xc_skip ?_
              refine hK28 _ _ ?_
              refine xc_region ?_
              refine x_val (r_add s111 ec (show _ = (((n + 1 : Nat) : Int) : Int) from by omega) (by unfold I64; omega)) (nd_of rfl) rfl ?_
              refine x_val (r_move es) (nd_of rfl) rfl ?_
              refine xw_nil ?_
              have h := h.f7
              have h := h.f7
              have h := h.f7
              have h := h.f7
              have h := h.f5
              have h := h.f7
              have h := h.f7
              exact ⟨yc.length - (n + 1), by omega, ⟨n + 1, rfl, by omega, es, h.f7.drop⟩, ⟨((en rfl (en rfl s0))).trans zG25_0.symm, ((en rfl (en rfl s1))).trans zG25_1.symm, ((en rfl (en rfl s2))).trans zG25_2.symm, ((en rfl (en rfl s3))).trans zG25_3.symm, ((en rfl (en rfl s9))).trans zG25_9.symm, ((en rfl (en rfl s12))).trans zG25_12.symm, ((en rfl (en rfl s13))).trans zG25_13.symm, ((en rfl (en rfl s14))).trans zG25_14.symm, ((en rfl (en rfl s15))).trans zG25_15.symm, ((en rfl (en rfl s16))).trans zG25_16.symm, ((en rfl (en rfl s17))).trans zG25_17.symm, ((en rfl (en rfl s30))).trans zG25_30.symm, ((en rfl (en rfl s36))).trans zG25_36.symm, ((en rfl (en rfl s37))).trans zG25_37.symm, ((en rfl (en rfl s38))).trans zG25_38.symm, ((en rfl (en rfl s39))).trans zG25_39.symm, ((en rfl (en rfl s95))).trans zG25_95.symm, ((en rfl (en rfl s108))).trans zG25_108.symm, ((en rfl (en rfl s110))).trans zG25_110.symm⟩⟩
            ·
              refine xc_skip ?_
              refine hK32 _ _ ?_
              refine xc_seq (fun K hK36 => ?_)
              have hna : ya.length ≤ n := by have := of_decide_eq_false hc; omega
              have hlB : (part L nj nk)[n - ya.length]? = some l := by rw [part_get hp2 (by omega), show nj + (n - ya.length) = ni + n by omega]; exact hl
              have s20 : g 20 = .int .i64 ((n - ya.length : Nat) : Int) := by rw [s20, Int.ofNat_sub hna]
              refine xc_region ?_
              refine x_val (r_move s9) (nd_of rfl) rfl ?_
              refine x_val (r_move (en rfl s1)) (nd_of rfl) rfl ?_
              refine x_val (r_move (en rfl (en rfl s18))) (nd_of rfl) rfl ?_
              refine x_val (r_add (en rfl es) es (show _ = (((ni + n : Nat) : Int) : Int) from by omega) (by unfold I64; omega)) (nd_of rfl) rfl ?_
              have h := h.f2
              refine x_enter (r_call Try.call15 (.cons (en rfl (en rfl (en rfl es))) (.cons es .nil))) (nd_of rfl) rfl (atP (n := ni + n) (l := l) hl (by omega) (by omega) h) ?_
              rintro _ w ⟨v5, rfl, h⟩
              obtain ⟨a5, c5, rfl, _, _⟩ := h.rowVal
              obtain ⟨adc, cc2, xc, evc, hnc, hcellc, hac⟩ := hSC.at hlC h.drop.b2
              simp only [Value.slice.injEq] at evc
              obtain ⟨rfl, _, rfl⟩ := evc
              obtain ⟨adh, ch2, xh, evh, hnh, hcellh, hah⟩ := hSB.at hlB h.drop.b2
              simp only [Value.slice.injEq] at evh
              obtain ⟨rfl, _, rfl⟩ := evh
              refine x_val (r_move es) (nd_of rfl) rfl ?_
              refine x_val (r_extract es gc0) (nd_of rfl) rfl ?_
              refine x_val (r_extract (en rfl es) gc1) (nd_of rfl) rfl ?_
              refine x_val (r_assign (en rfl es)) (nd_of rfl) rfl ?_
              refine x_val (r_assign (en rfl es)) (nd_of rfl) rfl ?_
              refine xw_nil ?_
              refine hK36 _ _ ?_
              refine xc_gen (fun g hg => ?_)
              have s0 := (hg 0).trans (en rfl (en rfl (en rfl (en rfl (en rfl (en rfl (en rfl (en rfl (en rfl (en rfl s0))))))))))
              have s1 := (hg 1).trans (en rfl (en rfl (en rfl (en rfl (en rfl (en rfl (en rfl (en rfl (en rfl (en rfl s1))))))))))
              have s2 := (hg 2).trans (en rfl (en rfl (en rfl (en rfl (en rfl (en rfl (en rfl (en rfl (en rfl (en rfl s2))))))))))
              have s3 := (hg 3).trans (en rfl (en rfl (en rfl (en rfl (en rfl (en rfl (en rfl (en rfl (en rfl (en rfl s3))))))))))
              have s9 := (hg 9).trans (en rfl (en rfl (en rfl (en rfl (en rfl (en rfl (en rfl (en rfl (en rfl (en rfl s9))))))))))
              have s12 := (hg 12).trans (en rfl (en rfl (en rfl (en rfl (en rfl (en rfl (en rfl (en rfl (en rfl (en rfl s12))))))))))
              have s13 := (hg 13).trans (en rfl (en rfl (en rfl (en rfl (en rfl (en rfl (en rfl (en rfl (en rfl (en rfl s13))))))))))
              have s14 := (hg 14).trans (en rfl (en rfl (en rfl (en rfl (en rfl (en rfl (en rfl (en rfl (en rfl (en rfl s14))))))))))
              have s15 := (hg 15).trans (en rfl (en rfl (en rfl (en rfl (en rfl (en rfl (en rfl (en rfl (en rfl (en rfl s15))))))))))
              have s16 := (hg 16).trans (en rfl (en rfl (en rfl (en rfl (en rfl (en rfl (en rfl (en rfl (en rfl (en rfl s16))))))))))
              have s17 := (hg 17).trans (en rfl (en rfl (en rfl (en rfl (en rfl (en rfl (en rfl (en rfl (en rfl (en rfl s17))))))))))
              have s18 := (hg 18).trans (en rfl (en rfl (en rfl (en rfl (en rfl (en rfl (en rfl (en rfl (en rfl (en rfl s18))))))))))
              have s19 := (hg 19).trans (en rfl (en rfl (en rfl (en rfl (en rfl (en rfl (en rfl (en rfl (en rfl (en rfl s19))))))))))
              have s20 := (hg 20).trans (en rfl (en rfl (en rfl (en rfl (en rfl (en rfl (en rfl (en rfl (en rfl (en rfl s20))))))))))
              have s21 := (hg 21).trans (en rfl es)
              have s22 := (hg 22).trans es
              have s30 := (hg 30).trans (en rfl (en rfl (en rfl (en rfl (en rfl (en rfl (en rfl (en rfl (en rfl (en rfl s30))))))))))
              have s36 := (hg 36).trans (en rfl (en rfl (en rfl (en rfl (en rfl (en rfl (en rfl (en rfl (en rfl (en rfl s36))))))))))
              have s37 := (hg 37).trans (en rfl (en rfl (en rfl (en rfl (en rfl (en rfl (en rfl (en rfl (en rfl (en rfl s37))))))))))
              have s38 := (hg 38).trans (en rfl (en rfl (en rfl (en rfl (en rfl (en rfl (en rfl (en rfl (en rfl (en rfl s38))))))))))
              have s39 := (hg 39).trans (en rfl (en rfl (en rfl (en rfl (en rfl (en rfl (en rfl (en rfl (en rfl (en rfl s39))))))))))
              have s95 := (hg 95).trans (en rfl (en rfl (en rfl (en rfl (en rfl (en rfl (en rfl (en rfl (en rfl (en rfl s95))))))))))
              have s108 := (hg 108).trans (en rfl (en rfl (en rfl (en rfl (en rfl (en rfl (en rfl (en rfl (en rfl (en rfl s108))))))))))
              have s110 := (hg 110).trans (en rfl (en rfl (en rfl (en rfl (en rfl (en rfl (en rfl (en rfl (en rfl (en rfl s110))))))))))
              have s111 := (hg 111).trans (en rfl (en rfl (en rfl (en rfl (en rfl (en rfl (en rfl (en rfl (en rfl (en rfl s111))))))))))
              have s112 := (hg 112).trans (en rfl (en rfl (en rfl (en rfl (en rfl (en rfl (en rfl (en rfl (en rfl (en rfl s112))))))))))
              have s122 := (hg 122).trans (en rfl (en rfl (en rfl (en rfl (en rfl (en rfl (en rfl (en rfl (en rfl (en rfl s122))))))))))
              clear hg
              refine xc_seq (fun K hK37 => ?_)
              refine xc_plan 23 [(0, 2), (1, 2), (2, 2), (3, 2), (4, 2), (5, 2), (6, 2), (7, 1), (8, 0), (9, 2), (10, 2), (11, 2), (12, 2), (13, 2), (14, 2), (15, 1), (16, 2), (17, 2), (18, 2), (19, 1), (20, 0), (21, 2), (22, 2)] (by kernel_rfl) rfl (by kernel_rfl) h ?_
              have h := h.drew
              refine xp_read (i := 0) rfl (fun W => r_move s22) rfl (fun _ _ _ hh => by first | exact bodyR_np hh | exact bodyY_np hh | exact hh) ?_
              refine xp_read (i := 1) rfl (fun W => r_neq es ec (r := false) rfl) rfl (fun _ _ _ hh => by first | exact bodyR_np hh | exact bodyY_np hh | exact hh) ?_
              refine xp_read (i := 2) rfl (fun W => r_move es) rfl (fun _ _ _ hh => by first | exact bodyR_np hh | exact bodyY_np hh | exact hh) ?_
              refine xp_readG (i := 3) (d := 135) rfl rfl rfl es (fun W => r_move (en rfl (en rfl (en rfl s21)))) rfl (fun _ _ _ hh => by first | exact bodyR_np hh | exact bodyY_np hh | exact hh) ?_
              refine xp_readG (i := 4) (d := 135) rfl rfl rfl (en rfl es) (fun W => r_move (en rfl (en rfl (en rfl (en rfl s16))))) rfl (fun _ _ _ hh => by first | exact bodyR_np hh | exact bodyY_np hh | exact hh) ?_
              refine xp_readG (i := 5) (d := 135) rfl rfl rfl (en rfl (en rfl es)) (fun W => r_move (en rfl (en rfl (en rfl (en rfl (en rfl s18)))))) rfl (fun _ _ _ hh => by first | exact bodyR_np hh | exact bodyY_np hh | exact hh) ?_
              refine xp_readG (i := 6) (d := 135) rfl rfl rfl (en rfl (en rfl (en rfl es))) (fun W => r_index1 Try.underlying23 Try.sizeOf38 (en rfl es) es hnc) rfl (fun _ _ _ hh => by first | exact bodyR_np hh | exact bodyY_np hh | exact hh) ?_
              refine xp_loadG (i := 7) (d := 135) rfl rfl rfl (en rfl (en rfl (en rfl (en rfl es)))) (fun W hW => r_loadCell Try.isAgg38 es (hcellc _ hW.drop.b2)) rfl (fun _ _ _ hh => by first | exact bodyR_np hh | exact bodyY_np hh | exact hh) ?_
              refine xp_enterG (i := 8) (e := 135) rfl rfl rfl (en rfl (en rfl (en rfl (en rfl (en rfl es))))) (r_call Try.call16 (.cons (en rfl (en rfl (en rfl (en rfl es)))) (.cons es .nil))) rfl (same_yes (l := l) (a_row h) (hac.weak (fun _ h => h.drop.b2)) hlw (by omega) h) ?_
              rintro _ w ⟨rfl, h⟩
              refine ⟨(fun _ => h), ?_⟩
              refine xp_readG (i := 9) (d := 135) rfl rfl rfl (en rfl (en rfl (en rfl (en rfl (en rfl (en rfl es)))))) (fun W => r_not es rfl) rfl (fun _ _ _ hh => by first | exact bodyR_np hh | exact bodyY_np hh | exact hh) ?_
              refine xp_read (i := 10) rfl (fun W => r_pick_f (en rfl (en rfl (en rfl (en rfl (en rfl (en rfl (en rfl es))))))) es) rfl (fun _ _ _ hh => by first | exact bodyR_np hh | exact bodyY_np hh | exact hh) ?_
              refine xp_read (i := 11) rfl (fun W => r_move es) rfl (fun _ _ _ hh => by first | exact bodyR_np hh | exact bodyY_np hh | exact hh) ?_
              refine xp_readG (i := 12) (d := 144) rfl rfl rfl es (fun W => r_move (en rfl (en rfl (en rfl (en rfl (en rfl (en rfl (en rfl (en rfl (en rfl (en rfl (en rfl (en rfl s19))))))))))))) rfl (fun _ _ _ hh => by first | exact bodyR_np hh | exact bodyY_np hh | exact hh) ?_
              refine xp_readG (i := 13) (d := 144) rfl rfl rfl (en rfl es) (fun W => r_move (en rfl (en rfl (en rfl (en rfl (en rfl (en rfl (en rfl (en rfl (en rfl (en rfl (en rfl (en rfl (en rfl s20)))))))))))))) rfl (fun _ _ _ hh => by first | exact bodyR_np hh | exact bodyY_np hh | exact hh) ?_
              refine xp_readG (i := 14) (d := 144) rfl rfl rfl (en rfl (en rfl es)) (fun W => r_index1 Try.underlying23 Try.sizeOf38 (en rfl es) es hnh) rfl (fun _ _ _ hh => by first | exact bodyR_np hh | exact bodyY_np hh | exact hh) ?_
              refine xp_loadG (i := 15) (d := 144) rfl rfl rfl (en rfl (en rfl (en rfl es))) (fun W hW => r_loadCell Try.isAgg38 es (hcellh _ hW.drop.b2)) rfl (fun _ _ _ hh => by first | exact bodyR_np hh | exact bodyY_np hh | exact hh) ?_
              refine xp_readG (i := 16) (d := 144) rfl rfl rfl (en rfl (en rfl (en rfl (en rfl es)))) (fun W => r_move (en rfl (en rfl (en rfl (en rfl (en rfl (en rfl (en rfl (en rfl (en rfl (en rfl (en rfl (en rfl (en rfl (en rfl (en rfl (en rfl s16))))))))))))))))) rfl (fun _ _ _ hh => by first | exact bodyR_np hh | exact bodyY_np hh | exact hh) ?_
              refine xp_readG (i := 17) (d := 144) rfl rfl rfl (en rfl (en rfl (en rfl (en rfl (en rfl es))))) (fun W => r_move (en rfl (en rfl (en rfl (en rfl (en rfl (en rfl (en rfl (en rfl (en rfl (en rfl (en rfl (en rfl (en rfl (en rfl (en rfl (en rfl (en rfl s18)))))))))))))))))) rfl (fun _ _ _ hh => by first | exact bodyR_np hh | exact bodyY_np hh | exact hh) ?_
              refine xp_readG (i := 18) (d := 144) rfl rfl rfl (en rfl (en rfl (en rfl (en rfl (en rfl (en rfl es)))))) (fun W => r_index1 Try.underlying23 Try.sizeOf38 (en rfl es) es hnc) rfl (fun _ _ _ hh => by first | exact bodyR_np hh | exact bodyY_np hh | exact hh) ?_
              refine xp_loadG (i := 19) (d := 144) rfl rfl rfl (en rfl (en rfl (en rfl (en rfl (en rfl (en rfl (en rfl es))))))) (fun W hW => r_loadCell Try.isAgg38 es (hcellc _ hW.drop.b2)) rfl (fun _ _ _ hh => by first | exact bodyR_np hh | exact bodyY_np hh | exact hh) ?_
              refine xp_enterG (i := 20) (e := 144) rfl rfl rfl (en rfl (en rfl (en rfl (en rfl (en rfl (en rfl (en rfl (en rfl es)))))))) (r_call Try.call16 (.cons (en rfl (en rfl (en rfl (en rfl es)))) (.cons es .nil))) rfl (same_yes (l := l) (hah.weak (fun _ h => h.drop.b2)) (hac.weak (fun _ h => h.drop.b2)) hlw (by omega) h) ?_
              rintro _ w ⟨rfl, h⟩
              refine ⟨(fun _ => h), ?_⟩
              refine xp_readG (i := 21) (d := 144) rfl rfl rfl (en rfl (en rfl (en rfl (en rfl (en rfl (en rfl (en rfl (en rfl (en rfl es))))))))) (fun W => r_not es rfl) rfl (fun _ _ _ hh => by first | exact bodyR_np hh | exact bodyY_np hh | exact hh) ?_
              refine xp_read (i := 22) rfl (fun W => r_pick_f (en rfl (en rfl (en rfl (en rfl (en rfl (en rfl (en rfl (en rfl (en rfl (en rfl es)))))))))) es) rfl (fun _ _ _ hh => by first | exact bodyR_np hh | exact bodyY_np hh | exact hh) ?_
              refine xp_nil ?_
              refine hK37 _ _ ?_
              refine xc_gen (fun g hg => ?_)
              have s0 := (hg 0).trans (en rfl (en rfl (en rfl (en rfl (en rfl (en rfl (en rfl (en rfl (en rfl (en rfl (en rfl (en rfl (en rfl (en rfl (en rfl (en rfl (en rfl (en rfl (en rfl (en rfl (en rfl (en rfl (en rfl s0)))))))))))))))))))))))
              have s1 := (hg 1).trans (en rfl (en rfl (en rfl (en rfl (en rfl (en rfl (en rfl (en rfl (en rfl (en rfl (en rfl (en rfl (en rfl (en rfl (en rfl (en rfl (en rfl (en rfl (en rfl (en rfl (en rfl (en rfl (en rfl s1)))))))))))))))))))))))
              have s2 := (hg 2).trans (en rfl (en rfl (en rfl (en rfl (en rfl (en rfl (en rfl (en rfl (en rfl (en rfl (en rfl (en rfl (en rfl (en rfl (en rfl (en rfl (en rfl (en rfl (en rfl (en rfl (en rfl (en rfl (en rfl s2)))))))))))))))))))))))
              have s3 := (hg 3).trans (en rfl (en rfl (en rfl (en rfl (en rfl (en rfl (en rfl (en rfl (en rfl (en rfl (en rfl (en rfl (en rfl (en rfl (en rfl (en rfl (en rfl (en rfl (en rfl (en rfl (en rfl (en rfl (en rfl s3)))))))))))))))))))))))
              have s9 := (hg 9).trans (en rfl (en rfl (en rfl (en rfl (en rfl (en rfl (en rfl (en rfl (en rfl (en rfl (en rfl (en rfl (en rfl (en rfl (en rfl (en rfl (en rfl (en rfl (en rfl (en rfl (en rfl (en rfl (en rfl s9)))))))))))))))))))))))
              have s12 := (hg 12).trans (en rfl (en rfl (en rfl (en rfl (en rfl (en rfl (en rfl (en rfl (en rfl (en rfl (en rfl (en rfl (en rfl (en rfl (en rfl (en rfl (en rfl (en rfl (en rfl (en rfl (en rfl (en rfl (en rfl s12)))))))))))))))))))))))
              have s13 := (hg 13).trans (en rfl (en rfl (en rfl (en rfl (en rfl (en rfl (en rfl (en rfl (en rfl (en rfl (en rfl (en rfl (en rfl (en rfl (en rfl (en rfl (en rfl (en rfl (en rfl (en rfl (en rfl (en rfl (en rfl s13)))))))))))))))))))))))
              have s14 := (hg 14).trans (en rfl (en rfl (en rfl (en rfl (en rfl (en rfl (en rfl (en rfl (en rfl (en rfl (en rfl (en rfl (en rfl (en rfl (en rfl (en rfl (en rfl (en rfl (en rfl (en rfl (en rfl (en rfl (en rfl s14)))))))))))))))))))))))
              have s15 := (hg 15).trans (en rfl (en rfl (en rfl (en rfl (en rfl (en rfl (en rfl (en rfl (en rfl (en rfl (en rfl (en rfl (en rfl (en rfl (en rfl (en rfl (en rfl (en rfl (en rfl (en rfl (en rfl (en rfl (en rfl s15)))))))))))))))))))))))
              have s16 := (hg 16).trans (en rfl (en rfl (en rfl (en rfl (en rfl (en rfl (en rfl (en rfl (en rfl (en rfl (en rfl (en rfl (en rfl (en rfl (en rfl (en rfl (en rfl (en rfl (en rfl (en rfl (en rfl (en rfl (en rfl s16)))))))))))))))))))))))
              have s17 := (hg 17).trans (en rfl (en rfl (en rfl (en rfl (en rfl (en rfl (en rfl (en rfl (en rfl (en rfl (en rfl (en rfl (en rfl (en rfl (en rfl (en rfl (en rfl (en rfl (en rfl (en rfl (en rfl (en rfl (en rfl s17)))))))))))))))))))))))
              have s18 := (hg 18).trans (en rfl (en rfl (en rfl (en rfl (en rfl (en rfl (en rfl (en rfl (en rfl (en rfl (en rfl (en rfl (en rfl (en rfl (en rfl (en rfl (en rfl (en rfl (en rfl (en rfl (en rfl (en rfl (en rfl s18)))))))))))))))))))))))
              have s19 := (hg 19).trans (en rfl (en rfl (en rfl (en rfl (en rfl (en rfl (en rfl (en rfl (en rfl (en rfl (en rfl (en rfl (en rfl (en rfl (en rfl (en rfl (en rfl (en rfl (en rfl (en rfl (en rfl (en rfl (en rfl s19)))))))))))))))))))))))
              have s20 := (hg 20).trans (en rfl (en rfl (en rfl (en rfl (en rfl (en rfl (en rfl (en rfl (en rfl (en rfl (en rfl (en rfl (en rfl (en rfl (en rfl (en rfl (en rfl (en rfl (en rfl (en rfl (en rfl (en rfl (en rfl s20)))))))))))))))))))))))
              have s21 := (hg 21).trans (en rfl (en rfl (en rfl (en rfl (en rfl (en rfl (en rfl (en rfl (en rfl (en rfl (en rfl (en rfl (en rfl (en rfl (en rfl (en rfl (en rfl (en rfl (en rfl (en rfl (en rfl (en rfl (en rfl s21)))))))))))))))))))))))
              have s22 := (hg 22).trans (en rfl (en rfl (en rfl (en rfl (en rfl (en rfl (en rfl (en rfl (en rfl (en rfl (en rfl (en rfl (en rfl (en rfl (en rfl (en rfl (en rfl (en rfl (en rfl (en rfl (en rfl (en rfl (en rfl s22)))))))))))))))))))))))
              have s30 := (hg 30).trans (en rfl (en rfl (en rfl (en rfl (en rfl (en rfl (en rfl (en rfl (en rfl (en rfl (en rfl (en rfl (en rfl (en rfl (en rfl (en rfl (en rfl (en rfl (en rfl (en rfl (en rfl (en rfl (en rfl s30)))))))))))))))))))))))
              have s36 := (hg 36).trans (en rfl (en rfl (en rfl (en rfl (en rfl (en rfl (en rfl (en rfl (en rfl (en rfl (en rfl (en rfl (en rfl (en rfl (en rfl (en rfl (en rfl (en rfl (en rfl (en rfl (en rfl (en rfl (en rfl s36)))))))))))))))))))))))
              have s37 := (hg 37).trans (en rfl (en rfl (en rfl (en rfl (en rfl (en rfl (en rfl (en rfl (en rfl (en rfl (en rfl (en rfl (en rfl (en rfl (en rfl (en rfl (en rfl (en rfl (en rfl (en rfl (en rfl (en rfl (en rfl s37)))))))))))))))))))))))
              have s38 := (hg 38).trans (en rfl (en rfl (en rfl (en rfl (en rfl (en rfl (en rfl (en rfl (en rfl (en rfl (en rfl (en rfl (en rfl (en rfl (en rfl (en rfl (en rfl (en rfl (en rfl (en rfl (en rfl (en rfl (en rfl s38)))))))))))))))))))))))
              have s39 := (hg 39).trans (en rfl (en rfl (en rfl (en rfl (en rfl (en rfl (en rfl (en rfl (en rfl (en rfl (en rfl (en rfl (en rfl (en rfl (en rfl (en rfl (en rfl (en rfl (en rfl (en rfl (en rfl (en rfl (en rfl s39)))))))))))))))))))))))
              have s95 := (hg 95).trans (en rfl (en rfl (en rfl (en rfl (en rfl (en rfl (en rfl (en rfl (en rfl (en rfl (en rfl (en rfl (en rfl (en rfl (en rfl (en rfl (en rfl (en rfl (en rfl (en rfl (en rfl (en rfl (en rfl s95)))))))))))))))))))))))
              have s108 := (hg 108).trans (en rfl (en rfl (en rfl (en rfl (en rfl (en rfl (en rfl (en rfl (en rfl (en rfl (en rfl (en rfl (en rfl (en rfl (en rfl (en rfl (en rfl (en rfl (en rfl (en rfl (en rfl (en rfl (en rfl s108)))))))))))))))))))))))
              have s110 := (hg 110).trans (en rfl (en rfl (en rfl (en rfl (en rfl (en rfl (en rfl (en rfl (en rfl (en rfl (en rfl (en rfl (en rfl (en rfl (en rfl (en rfl (en rfl (en rfl (en rfl (en rfl (en rfl (en rfl (en rfl s110)))))))))))))))))))))))
              have s111 := (hg 111).trans (en rfl (en rfl (en rfl (en rfl (en rfl (en rfl (en rfl (en rfl (en rfl (en rfl (en rfl (en rfl (en rfl (en rfl (en rfl (en rfl (en rfl (en rfl (en rfl (en rfl (en rfl (en rfl (en rfl s111)))))))))))))))))))))))
              have s112 := (hg 112).trans (en rfl (en rfl (en rfl (en rfl (en rfl (en rfl (en rfl (en rfl (en rfl (en rfl (en rfl (en rfl (en rfl (en rfl (en rfl (en rfl (en rfl (en rfl (en rfl (en rfl (en rfl (en rfl (en rfl s112)))))))))))))))))))))))
              have s122 := (hg 122).trans (en rfl (en rfl (en rfl (en rfl (en rfl (en rfl (en rfl (en rfl (en rfl (en rfl (en rfl (en rfl (en rfl (en rfl (en rfl (en rfl (en rfl (en rfl (en rfl (en rfl (en rfl (en rfl (en rfl s122)))))))))))))))))))))))
              have s155 := (hg 155).trans es
              clear hg
              refine xc_cond s155 (fun hc => by cases hc) (fun _ => ?_)
              refine xc_skip ?_
              refine hK28 _ _ ?_
              refine xc_region ?_
              refine x_val (r_add s111 ec (show _ = (((n + 1 : Nat) : Int) : Int) from by omega) (by unfold I64; omega)) (nd_of rfl) rfl ?_
              refine x_val (r_move es) (nd_of rfl) rfl ?_
              refine xw_nil ?_
              have h := h.f7
              have h := h.f7
              have h := h.f7
              have h := h.f7
              have h := h.f5
              have h := h.f7
              have h := h.f7
              exact ⟨yc.length - (n + 1), by omega, ⟨n + 1, rfl, by omega, es, h.f7.drop⟩, ⟨((en rfl (en rfl s0))).trans zG25_0.symm, ((en rfl (en rfl s1))).trans zG25_1.symm, ((en rfl (en rfl s2))).trans zG25_2.symm, ((en rfl (en rfl s3))).trans zG25_3.symm, ((en rfl (en rfl s9))).trans zG25_9.symm, ((en rfl (en rfl s12))).trans zG25_12.symm, ((en rfl (en rfl s13))).trans zG25_13.symm, ((en rfl (en rfl s14))).trans zG25_14.symm, ((en rfl (en rfl s15))).trans zG25_15.symm, ((en rfl (en rfl s16))).trans zG25_16.symm, ((en rfl (en rfl s17))).trans zG25_17.symm, ((en rfl (en rfl s30))).trans zG25_30.symm, ((en rfl (en rfl s36))).trans zG25_36.symm, ((en rfl (en rfl s37))).trans zG25_37.symm, ((en rfl (en rfl s38))).trans zG25_38.symm, ((en rfl (en rfl s39))).trans zG25_39.symm, ((en rfl (en rfl s95))).trans zG25_95.symm, ((en rfl (en rfl s108))).trans zG25_108.symm, ((en rfl (en rfl s110))).trans zG25_110.symm⟩⟩
          ·
            refine xc_exit ?_
            refine hK23 _ _ ?_
            refine xc_seq (fun K hK38 => ?_)
            refine xc_region ?_
            refine x_enter (r_call Try.call9 .nil) (nd_of rfl) rfl (known_ok h) ?_
            rintro _ w ⟨rfl, h⟩
            refine x_val (r_assign es) (nd_of rfl) rfl ?_
            refine xw_nil ?_
            refine hK38 _ _ ?_
            refine xc_gen (fun g hg => ?_)
            have s0 := (hg 0).trans (en rfl (en rfl s0))
            have s1 := (hg 1).trans (en rfl (en rfl s1))
            have s2 := (hg 2).trans (en rfl (en rfl s2))
            have s3 := (hg 3).trans (en rfl (en rfl s3))
            have s8 := (hg 8).trans es
            have s9 := (hg 9).trans (en rfl (en rfl s9))
            have s12 := (hg 12).trans (en rfl (en rfl s12))
            have s13 := (hg 13).trans (en rfl (en rfl s13))
            have s14 := (hg 14).trans (en rfl (en rfl s14))
            have s15 := (hg 15).trans (en rfl (en rfl s15))
            have s16 := (hg 16).trans (en rfl (en rfl s16))
            have s17 := (hg 17).trans (en rfl (en rfl s17))
            have s30 := (hg 30).trans (en rfl (en rfl s30))
            have s36 := (hg 36).trans (en rfl (en rfl s36))
            have s37 := (hg 37).trans (en rfl (en rfl s37))
            have s38 := (hg 38).trans (en rfl (en rfl s38))
            have s39 := (hg 39).trans (en rfl (en rfl s39))
            have s95 := (hg 95).trans (en rfl (en rfl s95))
            have s108 := (hg 108).trans (en rfl (en rfl s108))
            have s110 := (hg 110).trans (en rfl (en rfl s110))
            have s111 := (hg 111).trans (en rfl (en rfl s111))
            have s112 := (hg 112).trans (en rfl (en rfl s112))
            clear hg
            refine xc_ret ?_
            refine bodyR_1 rfl s8 ?_
            exact ⟨rfl, h.drop.drop.drop.drop.drop.drop.drop⟩
        ·
          skip
          refine xc_seq (fun K hK39 => ?_)
          refine xc_seq (fun K hK40 => ?_)
          refine xc_region ?_
          refine x_val (r_move s13) (nd_of rfl) rfl ?_
          refine x_val (r_neq es ec (decide_eq_false (by exact fun hh => hh (err_zero hp1)))) (nd_of rfl) rfl ?_
          refine x_val (r_move es) (nd_of rfl) rfl ?_
          refine x_take (d := 92) rfl rfl es ?_
          refine x_val (r_move (en rfl (en rfl (en rfl s15)))) (nd_of rfl) rfl ?_
          refine x_take (d := 92) rfl rfl (en rfl es) ?_
          refine x_val (r_neq es ec (decide_eq_true (by rw [err_five hp2]; decide))) (nd_of rfl) rfl ?_
          refine x_val (r_pick_f (en rfl (en rfl es)) es) (nd_of rfl) rfl ?_
          refine xw_nil ?_
          refine hK40 _ _ ?_
          refine xc_gen (fun g hg => ?_)
          have s0 := (hg 0).trans (en rfl (en rfl (en rfl (en rfl (en rfl (en rfl s0))))))
          have s1 := (hg 1).trans (en rfl (en rfl (en rfl (en rfl (en rfl (en rfl s1))))))
          have s2 := (hg 2).trans (en rfl (en rfl (en rfl (en rfl (en rfl (en rfl s2))))))
          have s3 := (hg 3).trans (en rfl (en rfl (en rfl (en rfl (en rfl (en rfl s3))))))
          have s8 := (hg 8).trans (en rfl (en rfl (en rfl (en rfl (en rfl (en rfl s8))))))
          have s9 := (hg 9).trans (en rfl (en rfl (en rfl (en rfl (en rfl (en rfl s9))))))
          have s12 := (hg 12).trans (en rfl (en rfl (en rfl (en rfl (en rfl (en rfl s12))))))
          have s13 := (hg 13).trans (en rfl (en rfl (en rfl (en rfl (en rfl (en rfl s13))))))
          have s14 := (hg 14).trans (en rfl (en rfl (en rfl (en rfl (en rfl (en rfl s14))))))
          have s15 := (hg 15).trans (en rfl (en rfl (en rfl (en rfl (en rfl (en rfl s15))))))
          have s16 := (hg 16).trans (en rfl (en rfl (en rfl (en rfl (en rfl (en rfl s16))))))
          have s17 := (hg 17).trans (en rfl (en rfl (en rfl (en rfl (en rfl (en rfl s17))))))
          have s30 := (hg 30).trans (en rfl (en rfl (en rfl (en rfl (en rfl (en rfl s30))))))
          have s36 := (hg 36).trans (en rfl (en rfl (en rfl (en rfl (en rfl (en rfl s36))))))
          have s37 := (hg 37).trans (en rfl (en rfl (en rfl (en rfl (en rfl (en rfl s37))))))
          have s38 := (hg 38).trans (en rfl (en rfl (en rfl (en rfl (en rfl (en rfl s38))))))
          have s39 := (hg 39).trans (en rfl (en rfl (en rfl (en rfl (en rfl (en rfl s39))))))
          have s95 := (hg 95).trans es
          clear hg
          refine xc_cond s95 (fun _ => ?_) (fun hc => by cases hc)
          refine xc_seq (fun K hK41 => ?_)
          refine xc_region ?_
          refine x_enter (r_call Try.call9 .nil) (nd_of rfl) rfl (known_ok h) ?_
          rintro _ w ⟨rfl, h⟩
          refine x_val (r_assign es) (nd_of rfl) rfl ?_
          refine xw_nil ?_
          refine hK41 _ _ ?_
          refine xc_gen (fun g hg => ?_)
          have s0 := (hg 0).trans (en rfl (en rfl s0))
          have s1 := (hg 1).trans (en rfl (en rfl s1))
          have s2 := (hg 2).trans (en rfl (en rfl s2))
          have s3 := (hg 3).trans (en rfl (en rfl s3))
          have s8 := (hg 8).trans es
          have s9 := (hg 9).trans (en rfl (en rfl s9))
          have s12 := (hg 12).trans (en rfl (en rfl s12))
          have s13 := (hg 13).trans (en rfl (en rfl s13))
          have s14 := (hg 14).trans (en rfl (en rfl s14))
          have s15 := (hg 15).trans (en rfl (en rfl s15))
          have s16 := (hg 16).trans (en rfl (en rfl s16))
          have s17 := (hg 17).trans (en rfl (en rfl s17))
          have s30 := (hg 30).trans (en rfl (en rfl s30))
          have s36 := (hg 36).trans (en rfl (en rfl s36))
          have s37 := (hg 37).trans (en rfl (en rfl s37))
          have s38 := (hg 38).trans (en rfl (en rfl s38))
          have s39 := (hg 39).trans (en rfl (en rfl s39))
          have s95 := (hg 95).trans (en rfl (en rfl s95))
          clear hg
          refine xc_ret ?_
          refine bodyR_1 rfl s8 ?_
          exact ⟨rfl, h.drop.drop.drop.drop.drop.drop.drop⟩
      ·
        skip
        refine xc_seq (fun K hK42 => ?_)
        refine xc_seq (fun K hK43 => ?_)
        refine xc_region ?_
        refine x_val (r_move s13) (nd_of rfl) rfl ?_
        refine x_val (r_neq es ec (decide_eq_true (by rw [err_five hp1]; decide))) (nd_of rfl) rfl ?_
        refine x_val (r_move es) (nd_of rfl) rfl ?_
        refine x_pass (d := 92) rfl rfl es rfl ?_
        refine x_pass (d := 92) rfl rfl (en rfl es) rfl ?_
        refine x_val (r_pick_t (en rfl (en rfl es)) ec) (nd_of rfl) rfl ?_
        refine xw_nil ?_
        refine hK43 _ _ ?_
        refine xc_gen (fun g hg => ?_)
        have s0 := (hg 0).trans (en rfl (en rfl (en rfl (en rfl (en rfl (en rfl s0))))))
        have s1 := (hg 1).trans (en rfl (en rfl (en rfl (en rfl (en rfl (en rfl s1))))))
        have s2 := (hg 2).trans (en rfl (en rfl (en rfl (en rfl (en rfl (en rfl s2))))))
        have s3 := (hg 3).trans (en rfl (en rfl (en rfl (en rfl (en rfl (en rfl s3))))))
        have s8 := (hg 8).trans (en rfl (en rfl (en rfl (en rfl (en rfl (en rfl s8))))))
        have s9 := (hg 9).trans (en rfl (en rfl (en rfl (en rfl (en rfl (en rfl s9))))))
        have s12 := (hg 12).trans (en rfl (en rfl (en rfl (en rfl (en rfl (en rfl s12))))))
        have s13 := (hg 13).trans (en rfl (en rfl (en rfl (en rfl (en rfl (en rfl s13))))))
        have s14 := (hg 14).trans (en rfl (en rfl (en rfl (en rfl (en rfl (en rfl s14))))))
        have s15 := (hg 15).trans (en rfl (en rfl (en rfl (en rfl (en rfl (en rfl s15))))))
        have s16 := (hg 16).trans (en rfl (en rfl (en rfl (en rfl (en rfl (en rfl s16))))))
        have s17 := (hg 17).trans (en rfl (en rfl (en rfl (en rfl (en rfl (en rfl s17))))))
        have s30 := (hg 30).trans (en rfl (en rfl (en rfl (en rfl (en rfl (en rfl s30))))))
        have s36 := (hg 36).trans (en rfl (en rfl (en rfl (en rfl (en rfl (en rfl s36))))))
        have s37 := (hg 37).trans (en rfl (en rfl (en rfl (en rfl (en rfl (en rfl s37))))))
        have s38 := (hg 38).trans (en rfl (en rfl (en rfl (en rfl (en rfl (en rfl s38))))))
        have s39 := (hg 39).trans (en rfl (en rfl (en rfl (en rfl (en rfl (en rfl s39))))))
        have s95 := (hg 95).trans es
        clear hg
        refine xc_cond s95 (fun _ => ?_) (fun hc => by cases hc)
        refine xc_seq (fun K hK44 => ?_)
        refine xc_region ?_
        refine x_enter (r_call Try.call9 .nil) (nd_of rfl) rfl (known_ok h) ?_
        rintro _ w ⟨rfl, h⟩
        refine x_val (r_assign es) (nd_of rfl) rfl ?_
        refine xw_nil ?_
        refine hK44 _ _ ?_
        refine xc_gen (fun g hg => ?_)
        have s0 := (hg 0).trans (en rfl (en rfl s0))
        have s1 := (hg 1).trans (en rfl (en rfl s1))
        have s2 := (hg 2).trans (en rfl (en rfl s2))
        have s3 := (hg 3).trans (en rfl (en rfl s3))
        have s8 := (hg 8).trans es
        have s9 := (hg 9).trans (en rfl (en rfl s9))
        have s12 := (hg 12).trans (en rfl (en rfl s12))
        have s13 := (hg 13).trans (en rfl (en rfl s13))
        have s14 := (hg 14).trans (en rfl (en rfl s14))
        have s15 := (hg 15).trans (en rfl (en rfl s15))
        have s16 := (hg 16).trans (en rfl (en rfl s16))
        have s17 := (hg 17).trans (en rfl (en rfl s17))
        have s30 := (hg 30).trans (en rfl (en rfl s30))
        have s36 := (hg 36).trans (en rfl (en rfl s36))
        have s37 := (hg 37).trans (en rfl (en rfl s37))
        have s38 := (hg 38).trans (en rfl (en rfl s38))
        have s39 := (hg 39).trans (en rfl (en rfl s39))
        have s95 := (hg 95).trans (en rfl (en rfl s95))
        clear hg
        refine xc_ret ?_
        refine bodyR_1 rfl s8 ?_
        exact ⟨rfl, h.drop.drop.drop.drop.drop.drop.drop⟩
end
end Go.Proofs.Ytonnijghdlakfaa
