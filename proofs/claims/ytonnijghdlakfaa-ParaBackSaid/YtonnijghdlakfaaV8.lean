/-
ParaBack: the walk.
-/
import Derived.Test.YtonnijghdlakfaaV7
namespace Go.Proofs.Ytonnijghdlakfaa
open Go Go.RowKit
section
variable {E : Env} {R : List SProp} {w : World} {W : World} {v : Value} {os : List OpV} {oa : OpV}
set_option maxHeartbeats 4000000 in
set_option maxRecDepth 10000 in
theorem back_ok (hv : OpsAt W v os) (ho : OpWf W oa) (hl : os.length * 72 ≤ 140737488351232) (h : SatL E w (Old W :: R)) : Calls Try.prog 3 #[v, .agg (opC oa).toArray] w (Ret fun u w' => u = .bool true ∧ SatL E w' (Old W :: R)) := by
  have hv0 := hv
  obtain ⟨⟨a, cap, rfl, _, hread⟩, hwfs⟩ := hv
  obtain ⟨al, cl, hlv⟩ : ∃ al cl, oa.lv = .slice al oa.ls.length cl := by obtain ⟨⟨a, c, e, _⟩, _⟩ := ho.sp; exact ⟨a, c, e⟩
  obtain ⟨ax, cx, hxv, _, hrdx⟩ := ho.cp
  have hok := ho.ok
  have hopc : opC oa = [.int .i64 oa.kind, .int .i64 oa.k, .int .i64 oa.m, .slice al oa.ls.length cl, .slice ax oa.cs.length cx] := by rw [opC, hlv, hxv]
  rw [hopc] at hok ⊢
  have hsl : oa.sets.length = oa.ls.length := by unfold OpV.sets; rw [List.length_map]
  have hall : ∀ o ∈ [oa] ++ os, OpWf W o := by
    intro o h2
    simp at h2
    rcases h2 with rfl | h2
    · exact ho
    · exact hwfs o h2
  refine calls_x Try.func3 rfl Try.ntmps3 rfl ?_
  refine xc_gen (fun g hg => ?_)
  have s0 := (hg 0).trans arg0
  have s1 := (hg 1).trans arg1
  clear hg
  refine xc_seq (fun K hK1 => ?_)
  refine xc_region ?_
  refine x_boxA h s1 rfl ?_
  intro b3 w h
  refine x_val (r_assign ec) (nd_of rfl) rfl ?_
  refine xw_nil ?_
  refine hK1 _ _ ?_
  refine xc_gen (fun g hg => ?_)
  have s0 := (hg 0).trans (en rfl (en rfl s0))
  have s1 := (hg 1).trans (en rfl (en rfl s1))
  have s3 := (hg 3).trans (en rfl es)
  have s4 := (hg 4).trans es
  clear hg
  refine xc_seq (fun K hK2 => ?_)
  refine xc_region ?_
  refine x_enter (r_call Try.call7 .nil) (nd_of rfl) rfl (newP h) ?_
  rintro _ w ⟨b, rfl, h⟩
  refine x_val (r_assign es) (nd_of rfl) rfl ?_
  refine xw_nil ?_
  refine hK2 _ _ ?_
  refine xc_gen (fun g hg => ?_)
  have s0 := (hg 0).trans (en rfl (en rfl s0))
  have s1 := (hg 1).trans (en rfl (en rfl s1))
  have s3 := (hg 3).trans (en rfl (en rfl s3))
  have s4 := (hg 4).trans (en rfl (en rfl s4))
  have s5 := (hg 5).trans es
  clear hg
  refine xc_seq (fun K hK3 => ?_)
  refine xc_seq (fun K hK4 => ?_)
  refine xc_region ?_
  refine x_val (r_move s5) (nd_of rfl) rfl ?_
  refine x_val (r_eqnil Try.underlying27 es ec (r := false) rfl) (nd_of rfl) rfl ?_
  refine x_val (r_move es) (nd_of rfl) rfl ?_
  refine x_take (d := 23) rfl rfl es ?_
  refine x_val (r_loadAgg h 1 rfl Try.isAgg26 Try.sizeOf26 (en rfl (en rfl (en rfl s3))) (by exact Nat.le_refl _) (ext_full rfl)) (nd_of rfl) rfl ?_
  refine x_take (d := 23) rfl rfl (en rfl es) ?_
  refine x_bslice h Try.underlying22 Try.sizeOf26 zOp rfl rfl es rfl hok rfl ?_; intro bs w h
  have h : SatL E w (Row 26 5 (.slice (some ⟨bs, 0, none⟩) 1 1) [oa].length (oflat [oa]) :: _) := h.closeRow ⟨rfl, rfl, Nat.le_refl _, by unfold maxLen; decide, rfl, by rw [oflat, List.flatMap_cons, hopc]; rfl⟩
  obtain ⟨v2, w2, hr2, h⟩ := append_ops (ty := 22) (i := 2) h hv0 rfl (by simp only [List.length_cons, List.length_nil]; omega)
  refine x_take (d := 23) rfl rfl (en rfl (en rfl es)) ?_
  refine x_val (r_move (en rfl (en rfl (en rfl (en rfl (en rfl s0)))))) (nd_of rfl) rfl ?_
  refine x_take (d := 23) rfl rfl (en rfl (en rfl (en rfl es))) ?_
  refine x_val (r_append (en rfl es) es hr2) (nd_of rfl) rfl ?_
  refine x_take (d := 23) rfl rfl (en rfl (en rfl (en rfl (en rfl es)))) ?_
  refine x_enter (r_call Try.call8 (.cons es .nil)) (nd_of rfl) rfl (small_ok (oreads_row (i := 2) hall rfl h) h) ?_
  rintro _ w ⟨r, rfl, hr, h⟩
  refine x_take (d := 23) rfl rfl (en rfl (en rfl (en rfl (en rfl (en rfl es))))) ?_
  refine x_val (r_not es rfl) (nd_of rfl) rfl ?_
  refine x_val (r_pick_f (en rfl (en rfl (en rfl (en rfl (en rfl (en rfl es)))))) es) (nd_of rfl) rfl ?_
  refine xw_nil ?_
  refine hK4 _ _ ?_
  refine xc_gen (fun g hg => ?_)
  have s0 := (hg 0).trans (en rfl (en rfl (en rfl (en rfl (en rfl (en rfl (en rfl (en rfl (en rfl (en rfl s0))))))))))
  have s1 := (hg 1).trans (en rfl (en rfl (en rfl (en rfl (en rfl (en rfl (en rfl (en rfl (en rfl (en rfl s1))))))))))
  have s3 := (hg 3).trans (en rfl (en rfl (en rfl (en rfl (en rfl (en rfl (en rfl (en rfl (en rfl (en rfl s3))))))))))
  have s4 := (hg 4).trans (en rfl (en rfl (en rfl (en rfl (en rfl (en rfl (en rfl (en rfl (en rfl (en rfl s4))))))))))
  have s5 := (hg 5).trans (en rfl (en rfl (en rfl (en rfl (en rfl (en rfl (en rfl (en rfl (en rfl (en rfl s5))))))))))
  have s30 := (hg 30).trans es
  clear hg
  refine xc_cond s30 (fun hc => ?_) (fun hc => ?_)
  ·
    refine xc_seq (fun K hK5 => ?_)
    refine xc_region ?_
    refine x_val (r_move s5) (nd_of rfl) rfl ?_
    refine x_val (r_nenil Try.underlying27 es ec (r := true) rfl) (nd_of rfl) rfl ?_
    refine x_val (r_move es) (nd_of rfl) rfl ?_
    refine x_take (d := 33) rfl rfl es ?_
    refine x_enter (r_call Try.call9 .nil) (nd_of rfl) rfl (known_ok h) ?_
    rintro _ w ⟨rfl, h⟩
    refine x_val (r_pick_t (en rfl es) es) (nd_of rfl) rfl ?_
    refine x_val (r_assign es) (nd_of rfl) rfl ?_
    refine xw_nil ?_
    refine hK5 _ _ ?_
    refine xc_gen (fun g hg => ?_)
    have s0 := (hg 0).trans (en rfl (en rfl (en rfl (en rfl (en rfl (en rfl s0))))))
    have s1 := (hg 1).trans (en rfl (en rfl (en rfl (en rfl (en rfl (en rfl s1))))))
    have s3 := (hg 3).trans (en rfl (en rfl (en rfl (en rfl (en rfl (en rfl s3))))))
    have s4 := (hg 4).trans es
    have s5 := (hg 5).trans (en rfl (en rfl (en rfl (en rfl (en rfl (en rfl s5))))))
    have s30 := (hg 30).trans (en rfl (en rfl (en rfl (en rfl (en rfl (en rfl s30))))))
    clear hg
    refine xc_ret ?_
    refine bodyR_1 rfl s4 ?_
    exact ⟨rfl, h.drop.drop.drop⟩
  ·
    refine xc_skip ?_
    refine hK3 _ _ ?_
    refine xc_seq (fun K hK6 => ?_)
    refine xc_seq (fun K hK7 => ?_)
    obtain ⟨hosl, hsmo⟩ := hr (by simpa using hc)
    have hosl : os.length ≤ 59 := by simp at hosl; omega
    have hso := hsmo oa (by simp)
    have hXr := hso.c
    have hXn := hso.x
    have hMn := hso.n
    have h := (h.f0).drop
    refine xc_region ?_
    refine x_val (r_move s0) (nd_of rfl) rfl ?_
    refine x_val (r_len Try.underlying22 es) (nd_of rfl) rfl ?_
    refine x_val (r_move ec) (nd_of rfl) rfl ?_
    refine xw_nil ?_
    refine hK7 _ _ ?_
    refine xc_gen (fun g hg => ?_)
    have s0 := (hg 0).trans (en rfl (en rfl (en rfl s0)))
    have s1 := (hg 1).trans (en rfl (en rfl (en rfl s1)))
    have s3 := (hg 3).trans (en rfl (en rfl (en rfl s3)))
    have s4 := (hg 4).trans (en rfl (en rfl (en rfl s4)))
    have s5 := (hg 5).trans (en rfl (en rfl (en rfl s5)))
    have s30 := (hg 30).trans (en rfl (en rfl (en rfl s30)))
    have s36 := (hg 36).trans (en rfl (en rfl es))
    have s37 := (hg 37).trans (en rfl es)
    have s38 := (hg 38).trans es
    clear hg
    refine xc_block ?_
    obtain ⟨G8, hG8⟩ : ∃ g0 : Nat → Value, g0 = g := ⟨_, rfl⟩
    have zG8_0 : G8 0 = _ := (congrFun hG8 0).trans s0
    have zG8_1 : G8 1 = _ := (congrFun hG8 1).trans s1
    have zG8_3 : G8 3 = _ := (congrFun hG8 3).trans s3
    have zG8_4 : G8 4 = _ := (congrFun hG8 4).trans s4
    have zG8_5 : G8 5 = _ := (congrFun hG8 5).trans s5
    have zG8_30 : G8 30 = _ := (congrFun hG8 30).trans s30
    have zG8_36 : G8 36 = _ := (congrFun hG8 36).trans s36
    have zG8_37 : G8 37 = _ := (congrFun hG8 37).trans s37
    refine xc_loop (fun m f w => (∃ (n : Nat) (L : List (List Atr)), m = os.length - n ∧ n ≤ os.length ∧ InvP L n ∧ f 38 = .int .i64 (n : Int) ∧ SatL E w (Pa b L (plc n) :: Cells b3 #[.int .i64 oa.kind, .int .i64 oa.k, .int .i64 oa.m, .slice al oa.ls.length cl, .slice ax oa.cs.length cx] 26 :: Old W :: R)) ∧ (f 0 = G8 0 ∧ f 1 = G8 1 ∧ f 3 = G8 3 ∧ f 4 = G8 4 ∧ f 5 = G8 5 ∧ f 30 = G8 30 ∧ f 36 = G8 36 ∧ f 37 = G8 37)) (os.length) ⟨⟨0, [], by omega, by omega, InvP.nil, s38, h⟩, ⟨congrFun hG8.symm 0, congrFun hG8.symm 1, congrFun hG8.symm 3, congrFun hG8.symm 4, congrFun hG8.symm 5, congrFun hG8.symm 30, congrFun hG8.symm 36, congrFun hG8.symm 37⟩⟩ ?_
    rintro m g w ⟨⟨n, L, hm, hn, hinv, s38, h⟩, ⟨y0, y1, y3, y4, y5, y30, y36, y37⟩⟩
    have s0 := y0.trans zG8_0
    have s1 := y1.trans zG8_1
    have s3 := y3.trans zG8_3
    have s4 := y4.trans zG8_4
    have s5 := y5.trans zG8_5
    have s30 := y30.trans zG8_30
    have s36 := y36.trans zG8_36
    have s37 := y37.trans zG8_37
    refine xc_seq (fun K hK9 => ?_)
    refine xc_region ?_
    refine x_val (r_lss s38 s37 rfl) (nd_of rfl) rfl ?_
    refine xw_nil ?_
    refine hK9 _ _ ?_
    refine xc_gen (fun g hg => ?_)
    have s0 := (hg 0).trans (en rfl s0)
    have s1 := (hg 1).trans (en rfl s1)
    have s3 := (hg 3).trans (en rfl s3)
    have s4 := (hg 4).trans (en rfl s4)
    have s5 := (hg 5).trans (en rfl s5)
    have s30 := (hg 30).trans (en rfl s30)
    have s36 := (hg 36).trans (en rfl s36)
    have s37 := (hg 37).trans (en rfl s37)
    have s38 := (hg 38).trans (en rfl s38)
    have s39 := (hg 39).trans es
    clear hg
    refine xc_seq (fun K hK10 => ?_)
    refine xc_cond s39 (fun hc => ?_) (fun hc => ?_)
    ·
      refine xc_skip ?_
      refine hK10 _ _ ?_
      refine xc_seq (fun K hK11 => ?_)
      refine xc_block ?_
      refine xc_seq (fun K hK12 => ?_)
      have hn2 : n < os.length := by have := of_decide_eq_true hc; omega
      obtain ⟨o, ho2⟩ : ∃ o, os[n]? = some o := ⟨_, List.getElem?_eq_getElem hn2⟩
      obtain ⟨ad, rfl, hcell⟩ := hread n o ho2
      have hwf := hwfs o (List.mem_of_getElem? ho2)
      have hso2 := hsmo o (by simp [List.mem_of_getElem? ho2])
      have hoko : Ok 5 (opC o).toArray := hwf.ok
      refine xc_region ?_
      refine x_val (r_indexAny Try.underlying22 Try.sizeOf26 s36 s38 (by omega) (by omega)) (nd_of rfl) rfl ?_
      refine x_val (r_loadAggAt (cs := opC o) Try.isAgg26 Try.sizeOf26 es rfl (fun j u hj => h.oldCell 2 rfl (hcell j u hj))) (nd_of rfl) rfl ?_
      refine x_declA h Try.zeroValue26 Try.sizeOf26 rfl (en rfl es) (by first | assumption | exact Ok.node (by assumption) | exact xOk.cells (by assumption) | exact ChOk.ok (by assumption)) rfl ?_
      intro b7 w h
      refine xw_nil ?_
      refine hK12 _ _ ?_
      refine xc_gen (fun g hg => ?_)
      have s0 := (hg 0).trans (en rfl (en rfl (en rfl s0)))
      have s1 := (hg 1).trans (en rfl (en rfl (en rfl s1)))
      have s3 := (hg 3).trans (en rfl (en rfl (en rfl s3)))
      have s4 := (hg 4).trans (en rfl (en rfl (en rfl s4)))
      have s5 := (hg 5).trans (en rfl (en rfl (en rfl s5)))
      have s7 := (hg 7).trans es
      have s30 := (hg 30).trans (en rfl (en rfl (en rfl s30)))
      have s36 := (hg 36).trans (en rfl (en rfl (en rfl s36)))
      have s37 := (hg 37).trans (en rfl (en rfl (en rfl s37)))
      have s38 := (hg 38).trans (en rfl (en rfl (en rfl s38)))
      have s39 := (hg 39).trans (en rfl (en rfl (en rfl s39)))
      clear hg
      refine xc_seq (fun K hK13 => ?_)
      have h : SatL E w (Cells b7 #[.int .i64 o.kind, .int .i64 o.k, .int .i64 o.m, o.lv, o.xv] 26 :: _) := h
      refine xc_region ?_
      refine x_val (r_fieldAddr (o' := 0) Try.underlying26 rfl Try.sizeOf3 rfl s7 rfl) (nd_of rfl) rfl ?_
      refine x_val (r_load h 0 rfl Try.isAgg3 es gc0) (nd_of rfl) rfl ?_
      refine xw_nil ?_
      refine hK13 _ _ ?_
      refine xc_gen (fun g hg => ?_)
      have s0 := (hg 0).trans (en rfl (en rfl s0))
      have s1 := (hg 1).trans (en rfl (en rfl s1))
      have s3 := (hg 3).trans (en rfl (en rfl s3))
      have s4 := (hg 4).trans (en rfl (en rfl s4))
      have s5 := (hg 5).trans (en rfl (en rfl s5))
      have s7 := (hg 7).trans (en rfl (en rfl s7))
      have s30 := (hg 30).trans (en rfl (en rfl s30))
      have s36 := (hg 36).trans (en rfl (en rfl s36))
      have s37 := (hg 37).trans (en rfl (en rfl s37))
      have s38 := (hg 38).trans (en rfl (en rfl s38))
      have s39 := (hg 39).trans (en rfl (en rfl s39))
      have s43 := (hg 43).trans es
      clear hg
      refine xc_block ?_
      refine xc_seq (fun K hK14 => ?_)
      refine xc_region ?_
      refine x_val (r_eql s43 ec rfl) (nd_of rfl) rfl ?_
      refine x_val (r_assign es) (nd_of rfl) rfl ?_
      refine xw_nil ?_
      refine hK14 _ _ ?_
      refine xc_gen (fun g hg => ?_)
      have s0 := (hg 0).trans (en rfl (en rfl s0))
      have s1 := (hg 1).trans (en rfl (en rfl s1))
      have s3 := (hg 3).trans (en rfl (en rfl s3))
      have s4 := (hg 4).trans (en rfl (en rfl s4))
      have s5 := (hg 5).trans (en rfl (en rfl s5))
      have s7 := (hg 7).trans (en rfl (en rfl s7))
      have s30 := (hg 30).trans (en rfl (en rfl s30))
      have s36 := (hg 36).trans (en rfl (en rfl s36))
      have s37 := (hg 37).trans (en rfl (en rfl s37))
      have s38 := (hg 38).trans (en rfl (en rfl s38))
      have s39 := (hg 39).trans (en rfl (en rfl s39))
      have s43 := (hg 43).trans (en rfl (en rfl s43))
      have s52 := (hg 52).trans es
      clear hg
      refine xc_cond s52 (fun hc => ?_) (fun hc => ?_)
      ·
        refine xc_region ?_
        refine x_val (r_move s5) (nd_of rfl) rfl ?_
        refine x_val (r_fieldAddr (o' := 1) Try.underlying26 rfl Try.sizeOf3 rfl (en rfl s7) rfl) (nd_of rfl) rfl ?_
        refine x_val (r_load h 0 rfl Try.isAgg3 es gc1) (nd_of rfl) rfl ?_
        refine x_val (r_fieldAddr (o' := 3) Try.underlying26 rfl Try.sizeOf23 rfl (en rfl (en rfl (en rfl s7))) rfl) (nd_of rfl) rfl ?_
        refine x_val (r_load h 0 rfl Try.isAgg23 es gc3) (nd_of rfl) rfl ?_
        have h := h.f1
        refine x_enter (r_call Try.call10 (.cons (en rfl (en rfl (en rfl (en rfl es)))) (.cons (en rfl (en rfl es)) (.cons es .nil)))) (nd_of rfl) rfl (insP hinv (hso2.sets hwf) (by omega) (hwf.sp.sreads 2 rfl) h) ?_
        rintro _ w ⟨rfl, h⟩
        refine xw_nil ?_
        refine hK11 _ _ ?_
        refine xc_gen (fun g hg => ?_)
        have s0 := (hg 0).trans (en rfl (en rfl (en rfl (en rfl (en rfl (en rfl s0))))))
        have s1 := (hg 1).trans (en rfl (en rfl (en rfl (en rfl (en rfl (en rfl s1))))))
        have s3 := (hg 3).trans (en rfl (en rfl (en rfl (en rfl (en rfl (en rfl s3))))))
        have s4 := (hg 4).trans (en rfl (en rfl (en rfl (en rfl (en rfl (en rfl s4))))))
        have s5 := (hg 5).trans (en rfl (en rfl (en rfl (en rfl (en rfl (en rfl s5))))))
        have s7 := (hg 7).trans (en rfl (en rfl (en rfl (en rfl (en rfl (en rfl s7))))))
        have s30 := (hg 30).trans (en rfl (en rfl (en rfl (en rfl (en rfl (en rfl s30))))))
        have s36 := (hg 36).trans (en rfl (en rfl (en rfl (en rfl (en rfl (en rfl s36))))))
        have s37 := (hg 37).trans (en rfl (en rfl (en rfl (en rfl (en rfl (en rfl s37))))))
        have s38 := (hg 38).trans (en rfl (en rfl (en rfl (en rfl (en rfl (en rfl s38))))))
        have s39 := (hg 39).trans (en rfl (en rfl (en rfl (en rfl (en rfl (en rfl s39))))))
        have s43 := (hg 43).trans (en rfl (en rfl (en rfl (en rfl (en rfl (en rfl s43))))))
        have s52 := (hg 52).trans (en rfl (en rfl (en rfl (en rfl (en rfl (en rfl s52))))))
        clear hg
        have h := (h.f1).drop
        refine xc_region ?_
        refine x_val (r_add s38 ec (show _ = (((n + 1 : Nat) : Int) : Int) from by omega) (by unfold I64; omega)) (nd_of rfl) rfl ?_
        refine x_val (r_move es) (nd_of rfl) rfl ?_
        refine xw_nil ?_
        exact ⟨os.length - (n + 1), by omega, ⟨n + 1, _, rfl, by omega, hinv.ins (hso2.sets hwf), es, h⟩, ⟨((en rfl (en rfl s0))).trans zG8_0.symm, ((en rfl (en rfl s1))).trans zG8_1.symm, ((en rfl (en rfl s3))).trans zG8_3.symm, ((en rfl (en rfl s4))).trans zG8_4.symm, ((en rfl (en rfl s5))).trans zG8_5.symm, ((en rfl (en rfl s30))).trans zG8_30.symm, ((en rfl (en rfl s36))).trans zG8_36.symm, ((en rfl (en rfl s37))).trans zG8_37.symm⟩⟩
      ·
        refine xc_seq (fun K hK15 => ?_)
        refine xc_region ?_
        refine x_val (r_eql s43 ec rfl) (nd_of rfl) rfl ?_
        refine x_val (r_assign es) (nd_of rfl) rfl ?_
        refine xw_nil ?_
        refine hK15 _ _ ?_
        refine xc_gen (fun g hg => ?_)
        have s0 := (hg 0).trans (en rfl (en rfl s0))
        have s1 := (hg 1).trans (en rfl (en rfl s1))
        have s3 := (hg 3).trans (en rfl (en rfl s3))
        have s4 := (hg 4).trans (en rfl (en rfl s4))
        have s5 := (hg 5).trans (en rfl (en rfl s5))
        have s7 := (hg 7).trans (en rfl (en rfl s7))
        have s30 := (hg 30).trans (en rfl (en rfl s30))
        have s36 := (hg 36).trans (en rfl (en rfl s36))
        have s37 := (hg 37).trans (en rfl (en rfl s37))
        have s38 := (hg 38).trans (en rfl (en rfl s38))
        have s39 := (hg 39).trans (en rfl (en rfl s39))
        have s43 := (hg 43).trans (en rfl (en rfl s43))
        have s52 := (hg 52).trans (en rfl (en rfl s52))
        have s60 := (hg 60).trans es
        clear hg
        refine xc_cond s60 (fun hc => ?_) (fun hc => ?_)
        ·
          refine xc_region ?_
          refine x_val (r_move s5) (nd_of rfl) rfl ?_
          refine x_val (r_fieldAddr (o' := 1) Try.underlying26 rfl Try.sizeOf3 rfl (en rfl s7) rfl) (nd_of rfl) rfl ?_
          refine x_val (r_load h 0 rfl Try.isAgg3 es gc1) (nd_of rfl) rfl ?_
          refine x_val (r_fieldAddr (o' := 2) Try.underlying26 rfl Try.sizeOf3 rfl (en rfl (en rfl (en rfl s7))) rfl) (nd_of rfl) rfl ?_
          refine x_val (r_load h 0 rfl Try.isAgg3 es gc2) (nd_of rfl) rfl ?_
          have h := h.f1
          refine x_enter (r_call Try.call11 (.cons (en rfl (en rfl (en rfl (en rfl es)))) (.cons (en rfl (en rfl es)) (.cons es .nil)))) (nd_of rfl) rfl (delP hinv (by omega) h) ?_
          rintro _ w ⟨rfl, h⟩
          refine xw_nil ?_
          refine hK11 _ _ ?_
          refine xc_gen (fun g hg => ?_)
          have s0 := (hg 0).trans (en rfl (en rfl (en rfl (en rfl (en rfl (en rfl s0))))))
          have s1 := (hg 1).trans (en rfl (en rfl (en rfl (en rfl (en rfl (en rfl s1))))))
          have s3 := (hg 3).trans (en rfl (en rfl (en rfl (en rfl (en rfl (en rfl s3))))))
          have s4 := (hg 4).trans (en rfl (en rfl (en rfl (en rfl (en rfl (en rfl s4))))))
          have s5 := (hg 5).trans (en rfl (en rfl (en rfl (en rfl (en rfl (en rfl s5))))))
          have s7 := (hg 7).trans (en rfl (en rfl (en rfl (en rfl (en rfl (en rfl s7))))))
          have s30 := (hg 30).trans (en rfl (en rfl (en rfl (en rfl (en rfl (en rfl s30))))))
          have s36 := (hg 36).trans (en rfl (en rfl (en rfl (en rfl (en rfl (en rfl s36))))))
          have s37 := (hg 37).trans (en rfl (en rfl (en rfl (en rfl (en rfl (en rfl s37))))))
          have s38 := (hg 38).trans (en rfl (en rfl (en rfl (en rfl (en rfl (en rfl s38))))))
          have s39 := (hg 39).trans (en rfl (en rfl (en rfl (en rfl (en rfl (en rfl s39))))))
          have s43 := (hg 43).trans (en rfl (en rfl (en rfl (en rfl (en rfl (en rfl s43))))))
          have s52 := (hg 52).trans (en rfl (en rfl (en rfl (en rfl (en rfl (en rfl s52))))))
          have s60 := (hg 60).trans (en rfl (en rfl (en rfl (en rfl (en rfl (en rfl s60))))))
          clear hg
          have h := (h.f1).drop
          refine xc_region ?_
          refine x_val (r_add s38 ec (show _ = (((n + 1 : Nat) : Int) : Int) from by omega) (by unfold I64; omega)) (nd_of rfl) rfl ?_
          refine x_val (r_move es) (nd_of rfl) rfl ?_
          refine xw_nil ?_
          exact ⟨os.length - (n + 1), by omega, ⟨n + 1, _, rfl, by omega, hinv.del, es, h⟩, ⟨((en rfl (en rfl s0))).trans zG8_0.symm, ((en rfl (en rfl s1))).trans zG8_1.symm, ((en rfl (en rfl s3))).trans zG8_3.symm, ((en rfl (en rfl s4))).trans zG8_4.symm, ((en rfl (en rfl s5))).trans zG8_5.symm, ((en rfl (en rfl s30))).trans zG8_30.symm, ((en rfl (en rfl s36))).trans zG8_36.symm, ((en rfl (en rfl s37))).trans zG8_37.symm⟩⟩
        ·
          refine xc_region ?_
          refine x_val (r_move s5) (nd_of rfl) rfl ?_
          refine x_val (r_fieldAddr (o' := 1) Try.underlying26 rfl Try.sizeOf3 rfl (en rfl s7) rfl) (nd_of rfl) rfl ?_
          refine x_val (r_load h 0 rfl Try.isAgg3 es gc1) (nd_of rfl) rfl ?_
          refine x_val (r_fieldAddr (o' := 2) Try.underlying26 rfl Try.sizeOf3 rfl (en rfl (en rfl (en rfl s7))) rfl) (nd_of rfl) rfl ?_
          refine x_val (r_load h 0 rfl Try.isAgg3 es gc2) (nd_of rfl) rfl ?_
          refine x_val (r_fieldAddr (o' := 4) Try.underlying26 rfl Try.sizeOf24 rfl (en rfl (en rfl (en rfl (en rfl (en rfl s7))))) rfl) (nd_of rfl) rfl ?_
          refine x_val (r_load h 0 rfl Try.isAgg24 es gc4) (nd_of rfl) rfl ?_
          have h := h.f1
          refine x_enter (r_call Try.call12 (.cons (en rfl (en rfl (en rfl (en rfl (en rfl (en rfl es)))))) (.cons (en rfl (en rfl (en rfl (en rfl es)))) (.cons (en rfl (en rfl es)) (.cons es .nil))))) (nd_of rfl) rfl (patP hinv (hso2.patch hwf) (by omega) (hwf.cp.creads 2 rfl) h) ?_
          rintro _ w ⟨rfl, h⟩
          refine xw_nil ?_
          refine hK11 _ _ ?_
          refine xc_gen (fun g hg => ?_)
          have s0 := (hg 0).trans (en rfl (en rfl (en rfl (en rfl (en rfl (en rfl (en rfl (en rfl s0))))))))
          have s1 := (hg 1).trans (en rfl (en rfl (en rfl (en rfl (en rfl (en rfl (en rfl (en rfl s1))))))))
          have s3 := (hg 3).trans (en rfl (en rfl (en rfl (en rfl (en rfl (en rfl (en rfl (en rfl s3))))))))
          have s4 := (hg 4).trans (en rfl (en rfl (en rfl (en rfl (en rfl (en rfl (en rfl (en rfl s4))))))))
          have s5 := (hg 5).trans (en rfl (en rfl (en rfl (en rfl (en rfl (en rfl (en rfl (en rfl s5))))))))
          have s7 := (hg 7).trans (en rfl (en rfl (en rfl (en rfl (en rfl (en rfl (en rfl (en rfl s7))))))))
          have s30 := (hg 30).trans (en rfl (en rfl (en rfl (en rfl (en rfl (en rfl (en rfl (en rfl s30))))))))
          have s36 := (hg 36).trans (en rfl (en rfl (en rfl (en rfl (en rfl (en rfl (en rfl (en rfl s36))))))))
          have s37 := (hg 37).trans (en rfl (en rfl (en rfl (en rfl (en rfl (en rfl (en rfl (en rfl s37))))))))
          have s38 := (hg 38).trans (en rfl (en rfl (en rfl (en rfl (en rfl (en rfl (en rfl (en rfl s38))))))))
          have s39 := (hg 39).trans (en rfl (en rfl (en rfl (en rfl (en rfl (en rfl (en rfl (en rfl s39))))))))
          have s43 := (hg 43).trans (en rfl (en rfl (en rfl (en rfl (en rfl (en rfl (en rfl (en rfl s43))))))))
          have s52 := (hg 52).trans (en rfl (en rfl (en rfl (en rfl (en rfl (en rfl (en rfl (en rfl s52))))))))
          have s60 := (hg 60).trans (en rfl (en rfl (en rfl (en rfl (en rfl (en rfl (en rfl (en rfl s60))))))))
          clear hg
          have h := (h.f1).drop
          refine xc_region ?_
          refine x_val (r_add s38 ec (show _ = (((n + 1 : Nat) : Int) : Int) from by omega) (by unfold I64; omega)) (nd_of rfl) rfl ?_
          refine x_val (r_move es) (nd_of rfl) rfl ?_
          refine xw_nil ?_
          exact ⟨os.length - (n + 1), by omega, ⟨n + 1, _, rfl, by omega, hinv.pat (hso2.patch hwf), es, h⟩, ⟨((en rfl (en rfl s0))).trans zG8_0.symm, ((en rfl (en rfl s1))).trans zG8_1.symm, ((en rfl (en rfl s3))).trans zG8_3.symm, ((en rfl (en rfl s4))).trans zG8_4.symm, ((en rfl (en rfl s5))).trans zG8_5.symm, ((en rfl (en rfl s30))).trans zG8_30.symm, ((en rfl (en rfl s36))).trans zG8_36.symm, ((en rfl (en rfl s37))).trans zG8_37.symm⟩⟩
    ·
      refine xc_exit ?_
      refine hK6 _ _ ?_
      refine xc_seq (fun K hK16 => ?_)
      have hil := hinv.len
      refine xc_region ?_
      refine x_val (r_move s5) (nd_of rfl) rfl ?_
      refine x_val (r_move (en rfl s5)) (nd_of rfl) rfl ?_
      refine x_enter (r_call Try.call14 (.cons es .nil)) (nd_of rfl) rfl (lenP h) ?_
      rintro _ w ⟨rfl, h⟩
      refine x_enter (r_call Try.call13 (.cons (en rfl (en rfl es)) (.cons ec (.cons es .nil)))) (nd_of rfl) rfl (overP (i := 0) (j := (L.length : Int)) ⟨by omega, by omega, by omega⟩ (by omega) (fun l hl => by have := (hinv.each l hl).1; omega) h) ?_
      rintro _ w ⟨v0, ys, rfl, h⟩
      rw [show (L.take (Int.toNat (L.length : Int))).drop (Int.toNat 0) = L by simp] at h
      have hr3 := h
      rw [XRow] at hr3
      obtain ⟨au, cu, rfl, _, _⟩ := hr3.rowVal
      have h := h.f3
      have h := h.f2
      have h := h.f2
      have h := h.f3
      have hyl := h.f2.rowsLen
      refine x_val (r_move es) (nd_of rfl) rfl ?_
      refine x_val (r_extract es gc0) (nd_of rfl) rfl ?_
      refine x_val (r_extract (en rfl es) gc1) (nd_of rfl) rfl ?_
      refine x_val (r_assign (en rfl es)) (nd_of rfl) rfl ?_
      refine x_val (r_assign (en rfl es)) (nd_of rfl) rfl ?_
      refine xw_nil ?_
      refine hK16 _ _ ?_
      refine xc_gen (fun g hg => ?_)
      have s0 := (hg 0).trans (en rfl (en rfl (en rfl (en rfl (en rfl (en rfl (en rfl (en rfl (en rfl s0)))))))))
      have s1 := (hg 1).trans (en rfl (en rfl (en rfl (en rfl (en rfl (en rfl (en rfl (en rfl (en rfl s1)))))))))
      have s3 := (hg 3).trans (en rfl (en rfl (en rfl (en rfl (en rfl (en rfl (en rfl (en rfl (en rfl s3)))))))))
      have s4 := (hg 4).trans (en rfl (en rfl (en rfl (en rfl (en rfl (en rfl (en rfl (en rfl (en rfl s4)))))))))
      have s5 := (hg 5).trans (en rfl (en rfl (en rfl (en rfl (en rfl (en rfl (en rfl (en rfl (en rfl s5)))))))))
      have s8 := (hg 8).trans (en rfl es)
      have s9 := (hg 9).trans es
      have s30 := (hg 30).trans (en rfl (en rfl (en rfl (en rfl (en rfl (en rfl (en rfl (en rfl (en rfl s30)))))))))
      have s36 := (hg 36).trans (en rfl (en rfl (en rfl (en rfl (en rfl (en rfl (en rfl (en rfl (en rfl s36)))))))))
      have s37 := (hg 37).trans (en rfl (en rfl (en rfl (en rfl (en rfl (en rfl (en rfl (en rfl (en rfl s37)))))))))
      have s38 := (hg 38).trans (en rfl (en rfl (en rfl (en rfl (en rfl (en rfl (en rfl (en rfl (en rfl s38)))))))))
      have s39 := (hg 39).trans (en rfl (en rfl (en rfl (en rfl (en rfl (en rfl (en rfl (en rfl (en rfl s39)))))))))
      clear hg
      refine xc_seq (fun K hK17 => ?_)
      refine xc_seq (fun K hK18 => ?_)
      refine xc_region ?_
      refine x_val (r_move s9) (nd_of rfl) rfl ?_
      refine x_val (r_neq es ec (r := false) rfl) (nd_of rfl) rfl ?_
      refine xw_nil ?_
      refine hK18 _ _ ?_
      refine xc_gen (fun g hg => ?_)
      have s0 := (hg 0).trans (en rfl (en rfl s0))
      have s1 := (hg 1).trans (en rfl (en rfl s1))
      have s3 := (hg 3).trans (en rfl (en rfl s3))
      have s4 := (hg 4).trans (en rfl (en rfl s4))
      have s5 := (hg 5).trans (en rfl (en rfl s5))
      have s8 := (hg 8).trans (en rfl (en rfl s8))
      have s9 := (hg 9).trans (en rfl (en rfl s9))
      have s30 := (hg 30).trans (en rfl (en rfl s30))
      have s36 := (hg 36).trans (en rfl (en rfl s36))
      have s37 := (hg 37).trans (en rfl (en rfl s37))
      have s38 := (hg 38).trans (en rfl (en rfl s38))
      have s39 := (hg 39).trans (en rfl (en rfl s39))
      have s77 := (hg 77).trans es
      clear hg
      refine xc_cond s77 (fun hc => by cases hc) (fun _ => ?_)
      refine xc_skip ?_
      refine hK17 _ _ ?_
      obtain ⟨G19, hG19⟩ : ∃ g0 : Nat → Value, g0 = g := ⟨_, rfl⟩
      have zG19_0 : G19 0 = _ := (congrFun hG19 0).trans s0
      have zG19_1 : G19 1 = _ := (congrFun hG19 1).trans s1
      have zG19_3 : G19 3 = _ := (congrFun hG19 3).trans s3
      have zG19_5 : G19 5 = _ := (congrFun hG19 5).trans s5
      have zG19_8 : G19 8 = _ := (congrFun hG19 8).trans s8
      have zG19_9 : G19 9 = _ := (congrFun hG19 9).trans s9
      have zG19_30 : G19 30 = _ := (congrFun hG19 30).trans s30
      have zG19_36 : G19 36 = _ := (congrFun hG19 36).trans s36
      have zG19_37 : G19 37 = _ := (congrFun hG19 37).trans s37
      have zG19_38 : G19 38 = _ := (congrFun hG19 38).trans s38
      have zG19_39 : G19 39 = _ := (congrFun hG19 39).trans s39
      have zG19_77 : G19 77 = _ := (congrFun hG19 77).trans s77
      refine xc_cut (fun f w => (SatL E w (Pa b L (plc (n + 1 + 1)) :: XRow (.slice au ys.length cu) ys :: RowsL ys L :: Cells b3 #[.int .i64 oa.kind, .int .i64 oa.k, .int .i64 oa.m, .slice al oa.ls.length cl, .slice ax oa.cs.length cx] 26 :: Old W :: R)) ∧ (f 0 = G19 0 ∧ f 1 = G19 1 ∧ f 3 = G19 3 ∧ f 5 = G19 5 ∧ f 8 = G19 8 ∧ f 9 = G19 9 ∧ f 30 = G19 30 ∧ f 36 = G19 36 ∧ f 37 = G19 37 ∧ f 38 = G19 38 ∧ f 39 = G19 39 ∧ f 77 = G19 77)) ?_ ?_
      ·
        skip
        rcases Classical.em (isPart L.length oa.k oa.k) with hp1 | hp1
        ·
          skip
          refine xc_seq (fun K hK20 => ?_)
          obtain ⟨hbk, hbp⟩ := back_del (M := oa.sets) hp1
          rw [hsl] at hbk hbp
          have hkb := hp1.2.2
          have hk0 := hp1.1
          refine xc_region ?_
          refine x_val (r_move s5) (nd_of rfl) rfl ?_
          refine x_val (r_fieldAddr (o' := 1) Try.underlying26 rfl Try.sizeOf3 rfl (en rfl s3) rfl) (nd_of rfl) rfl ?_
          refine x_val (r_load h 3 rfl Try.isAgg3 es gc1) (nd_of rfl) rfl ?_
          refine x_val (r_fieldAddr (o' := 3) Try.underlying26 rfl Try.sizeOf23 rfl (en rfl (en rfl (en rfl s3))) rfl) (nd_of rfl) rfl ?_
          refine x_val (r_load h 3 rfl Try.isAgg23 es gc3) (nd_of rfl) rfl ?_
          refine x_enter (r_call Try.call10 (.cons (en rfl (en rfl (en rfl (en rfl es)))) (.cons (en rfl (en rfl es)) (.cons es .nil)))) (nd_of rfl) rfl (insP hinv (hso.sets ho) (by omega) (hlv ▸ ho.sp.sreads 3 rfl) h) ?_
          rintro _ w ⟨rfl, h⟩
          refine x_val (r_eql es ec (decide_eq_true (by exact err_zero hp1))) (nd_of rfl) rfl ?_
          refine x_val (r_move es) (nd_of rfl) rfl ?_
          refine x_take (d := 85) rfl rfl es ?_
          refine x_val (r_move (en rfl (en rfl (en rfl (en rfl (en rfl (en rfl (en rfl (en rfl s5))))))))) (nd_of rfl) rfl ?_
          refine x_take (d := 85) rfl rfl (en rfl es) ?_
          refine x_val (r_fieldAddr (o' := 1) Try.underlying26 rfl Try.sizeOf3 rfl (en rfl (en rfl (en rfl (en rfl (en rfl (en rfl (en rfl (en rfl (en rfl s3))))))))) rfl) (nd_of rfl) rfl ?_
          refine x_take (d := 85) rfl rfl (en rfl (en rfl es)) ?_
          refine x_val (r_load h 3 rfl Try.isAgg3 es gc1) (nd_of rfl) rfl ?_
          refine x_take (d := 85) rfl rfl (en rfl (en rfl (en rfl es))) ?_
          refine x_val (r_fieldAddr (o' := 1) Try.underlying26 rfl Try.sizeOf3 rfl (en rfl (en rfl (en rfl (en rfl (en rfl (en rfl (en rfl (en rfl (en rfl (en rfl (en rfl s3))))))))))) rfl) (nd_of rfl) rfl ?_
          refine x_take (d := 85) rfl rfl (en rfl (en rfl (en rfl (en rfl es)))) ?_
          refine x_val (r_load h 3 rfl Try.isAgg3 es gc1) (nd_of rfl) rfl ?_
          refine x_take (d := 85) rfl rfl (en rfl (en rfl (en rfl (en rfl (en rfl es))))) ?_
          refine x_val (r_fieldAddr (o' := 3) Try.underlying26 rfl Try.sizeOf23 rfl (en rfl (en rfl (en rfl (en rfl (en rfl (en rfl (en rfl (en rfl (en rfl (en rfl (en rfl (en rfl (en rfl s3))))))))))))) rfl) (nd_of rfl) rfl ?_
          refine x_take (d := 85) rfl rfl (en rfl (en rfl (en rfl (en rfl (en rfl (en rfl es)))))) ?_
          refine x_val (r_load h 3 rfl Try.isAgg23 es gc3) (nd_of rfl) rfl ?_
          refine x_take (d := 85) rfl rfl (en rfl (en rfl (en rfl (en rfl (en rfl (en rfl (en rfl es))))))) ?_
          refine x_val (r_len Try.underlying23 es) (nd_of rfl) rfl ?_
          refine x_take (d := 85) rfl rfl (en rfl (en rfl (en rfl (en rfl (en rfl (en rfl (en rfl (en rfl es)))))))) ?_
          refine x_val (r_add (en rfl (en rfl (en rfl es))) es (show _ = ((oa.k + (oa.ls.length : Int)) : Int) from by rfl) (by unfold I64; omega)) (nd_of rfl) rfl ?_
          refine x_take (d := 85) rfl rfl (en rfl (en rfl (en rfl (en rfl (en rfl (en rfl (en rfl (en rfl (en rfl es))))))))) ?_
          refine x_enter (r_call Try.call11 (.cons (en rfl (en rfl (en rfl (en rfl (en rfl (en rfl (en rfl (en rfl es)))))))) (.cons (en rfl (en rfl (en rfl (en rfl (en rfl (en rfl es)))))) (.cons es .nil)))) (nd_of rfl) rfl (delP (hinv.ins (hso.sets ho)) (by omega) h) ?_
          rintro _ w ⟨rfl, h⟩
          refine x_take (d := 85) rfl rfl (en rfl (en rfl (en rfl (en rfl (en rfl (en rfl (en rfl (en rfl (en rfl (en rfl es)))))))))) ?_
          refine x_val (r_neq es ec (decide_eq_false (by exact fun hh => hh (err_zero hbp)))) (nd_of rfl) rfl ?_
          rw [hbk] at h
          refine x_val (r_pick_t (en rfl (en rfl (en rfl (en rfl (en rfl (en rfl (en rfl (en rfl (en rfl (en rfl (en rfl es))))))))))) es) (nd_of rfl) rfl ?_
          refine xw_nil ?_
          refine hK20 _ _ ?_
          refine xc_gen (fun g hg => ?_)
          have s0 := (hg 0).trans (en rfl (en rfl (en rfl (en rfl (en rfl (en rfl (en rfl (en rfl (en rfl (en rfl (en rfl (en rfl (en rfl (en rfl (en rfl (en rfl (en rfl (en rfl (en rfl (en rfl s0))))))))))))))))))))
          have s1 := (hg 1).trans (en rfl (en rfl (en rfl (en rfl (en rfl (en rfl (en rfl (en rfl (en rfl (en rfl (en rfl (en rfl (en rfl (en rfl (en rfl (en rfl (en rfl (en rfl (en rfl (en rfl s1))))))))))))))))))))
          have s3 := (hg 3).trans (en rfl (en rfl (en rfl (en rfl (en rfl (en rfl (en rfl (en rfl (en rfl (en rfl (en rfl (en rfl (en rfl (en rfl (en rfl (en rfl (en rfl (en rfl (en rfl (en rfl s3))))))))))))))))))))
          have s4 := (hg 4).trans (en rfl (en rfl (en rfl (en rfl (en rfl (en rfl (en rfl (en rfl (en rfl (en rfl (en rfl (en rfl (en rfl (en rfl (en rfl (en rfl (en rfl (en rfl (en rfl (en rfl s4))))))))))))))))))))
          have s5 := (hg 5).trans (en rfl (en rfl (en rfl (en rfl (en rfl (en rfl (en rfl (en rfl (en rfl (en rfl (en rfl (en rfl (en rfl (en rfl (en rfl (en rfl (en rfl (en rfl (en rfl (en rfl s5))))))))))))))))))))
          have s8 := (hg 8).trans (en rfl (en rfl (en rfl (en rfl (en rfl (en rfl (en rfl (en rfl (en rfl (en rfl (en rfl (en rfl (en rfl (en rfl (en rfl (en rfl (en rfl (en rfl (en rfl (en rfl s8))))))))))))))))))))
          have s9 := (hg 9).trans (en rfl (en rfl (en rfl (en rfl (en rfl (en rfl (en rfl (en rfl (en rfl (en rfl (en rfl (en rfl (en rfl (en rfl (en rfl (en rfl (en rfl (en rfl (en rfl (en rfl s9))))))))))))))))))))
          have s30 := (hg 30).trans (en rfl (en rfl (en rfl (en rfl (en rfl (en rfl (en rfl (en rfl (en rfl (en rfl (en rfl (en rfl (en rfl (en rfl (en rfl (en rfl (en rfl (en rfl (en rfl (en rfl s30))))))))))))))))))))
          have s36 := (hg 36).trans (en rfl (en rfl (en rfl (en rfl (en rfl (en rfl (en rfl (en rfl (en rfl (en rfl (en rfl (en rfl (en rfl (en rfl (en rfl (en rfl (en rfl (en rfl (en rfl (en rfl s36))))))))))))))))))))
          have s37 := (hg 37).trans (en rfl (en rfl (en rfl (en rfl (en rfl (en rfl (en rfl (en rfl (en rfl (en rfl (en rfl (en rfl (en rfl (en rfl (en rfl (en rfl (en rfl (en rfl (en rfl (en rfl s37))))))))))))))))))))
          have s38 := (hg 38).trans (en rfl (en rfl (en rfl (en rfl (en rfl (en rfl (en rfl (en rfl (en rfl (en rfl (en rfl (en rfl (en rfl (en rfl (en rfl (en rfl (en rfl (en rfl (en rfl (en rfl s38))))))))))))))))))))
          have s39 := (hg 39).trans (en rfl (en rfl (en rfl (en rfl (en rfl (en rfl (en rfl (en rfl (en rfl (en rfl (en rfl (en rfl (en rfl (en rfl (en rfl (en rfl (en rfl (en rfl (en rfl (en rfl s39))))))))))))))))))))
          have s77 := (hg 77).trans (en rfl (en rfl (en rfl (en rfl (en rfl (en rfl (en rfl (en rfl (en rfl (en rfl (en rfl (en rfl (en rfl (en rfl (en rfl (en rfl (en rfl (en rfl (en rfl (en rfl s77))))))))))))))))))))
          have s97 := (hg 97).trans es
          clear hg
          refine xc_cond s97 (fun hc => by cases hc) (fun _ => ?_)
          refine xc_skip ?_
          exact ⟨h, ⟨(s0).trans zG19_0.symm, (s1).trans zG19_1.symm, (s3).trans zG19_3.symm, (s5).trans zG19_5.symm, (s8).trans zG19_8.symm, (s9).trans zG19_9.symm, (s30).trans zG19_30.symm, (s36).trans zG19_36.symm, (s37).trans zG19_37.symm, (s38).trans zG19_38.symm, (s39).trans zG19_39.symm, (s77).trans zG19_77.symm⟩⟩
        ·
          skip
          refine xc_seq (fun K hK21 => ?_)
          refine xc_region ?_
          refine x_val (r_move s5) (nd_of rfl) rfl ?_
          refine x_val (r_fieldAddr (o' := 1) Try.underlying26 rfl Try.sizeOf3 rfl (en rfl s3) rfl) (nd_of rfl) rfl ?_
          refine x_val (r_load h 3 rfl Try.isAgg3 es gc1) (nd_of rfl) rfl ?_
          refine x_val (r_fieldAddr (o' := 3) Try.underlying26 rfl Try.sizeOf23 rfl (en rfl (en rfl (en rfl s3))) rfl) (nd_of rfl) rfl ?_
          refine x_val (r_load h 3 rfl Try.isAgg23 es gc3) (nd_of rfl) rfl ?_
          refine x_enter (r_call Try.call10 (.cons (en rfl (en rfl (en rfl (en rfl es)))) (.cons (en rfl (en rfl es)) (.cons es .nil)))) (nd_of rfl) rfl (insP hinv (hso.sets ho) (by omega) (hlv ▸ ho.sp.sreads 3 rfl) h) ?_
          rintro _ w ⟨rfl, h⟩
          refine x_val (r_eql es ec (decide_eq_false (by rw [err_five hp1]; decide))) (nd_of rfl) rfl ?_
          rw [show insL L oa.k oa.sets = L from if_neg hp1] at h
          have h := h.paMono (B' := plc (n + 1 + 1)) (by unfold plc; omega)
          refine x_val (r_move es) (nd_of rfl) rfl ?_
          refine x_pass (d := 85) rfl rfl es rfl ?_
          refine x_pass (d := 85) rfl rfl (en rfl es) rfl ?_
          refine x_pass (d := 85) rfl rfl (en rfl (en rfl es)) rfl ?_
          refine x_pass (d := 85) rfl rfl (en rfl (en rfl (en rfl es))) rfl ?_
          refine x_pass (d := 85) rfl rfl (en rfl (en rfl (en rfl (en rfl es)))) rfl ?_
          refine x_pass (d := 85) rfl rfl (en rfl (en rfl (en rfl (en rfl (en rfl es))))) rfl ?_
          refine x_pass (d := 85) rfl rfl (en rfl (en rfl (en rfl (en rfl (en rfl (en rfl es)))))) rfl ?_
          refine x_pass (d := 85) rfl rfl (en rfl (en rfl (en rfl (en rfl (en rfl (en rfl (en rfl es))))))) rfl ?_
          refine x_pass (d := 85) rfl rfl (en rfl (en rfl (en rfl (en rfl (en rfl (en rfl (en rfl (en rfl es)))))))) rfl ?_
          refine x_pass (d := 85) rfl rfl (en rfl (en rfl (en rfl (en rfl (en rfl (en rfl (en rfl (en rfl (en rfl es))))))))) rfl ?_
          refine x_pass (d := 85) rfl rfl (en rfl (en rfl (en rfl (en rfl (en rfl (en rfl (en rfl (en rfl (en rfl (en rfl es)))))))))) rfl ?_
          refine x_val (r_pick_f (en rfl (en rfl (en rfl (en rfl (en rfl (en rfl (en rfl (en rfl (en rfl (en rfl (en rfl es))))))))))) ec) (nd_of rfl) rfl ?_
          refine xw_nil ?_
          refine hK21 _ _ ?_
          refine xc_gen (fun g hg => ?_)
          have s0 := (hg 0).trans (en rfl (en rfl (en rfl (en rfl (en rfl (en rfl (en rfl (en rfl (en rfl (en rfl (en rfl (en rfl (en rfl (en rfl (en rfl (en rfl (en rfl (en rfl (en rfl (en rfl s0))))))))))))))))))))
          have s1 := (hg 1).trans (en rfl (en rfl (en rfl (en rfl (en rfl (en rfl (en rfl (en rfl (en rfl (en rfl (en rfl (en rfl (en rfl (en rfl (en rfl (en rfl (en rfl (en rfl (en rfl (en rfl s1))))))))))))))))))))
          have s3 := (hg 3).trans (en rfl (en rfl (en rfl (en rfl (en rfl (en rfl (en rfl (en rfl (en rfl (en rfl (en rfl (en rfl (en rfl (en rfl (en rfl (en rfl (en rfl (en rfl (en rfl (en rfl s3))))))))))))))))))))
          have s4 := (hg 4).trans (en rfl (en rfl (en rfl (en rfl (en rfl (en rfl (en rfl (en rfl (en rfl (en rfl (en rfl (en rfl (en rfl (en rfl (en rfl (en rfl (en rfl (en rfl (en rfl (en rfl s4))))))))))))))))))))
          have s5 := (hg 5).trans (en rfl (en rfl (en rfl (en rfl (en rfl (en rfl (en rfl (en rfl (en rfl (en rfl (en rfl (en rfl (en rfl (en rfl (en rfl (en rfl (en rfl (en rfl (en rfl (en rfl s5))))))))))))))))))))
          have s8 := (hg 8).trans (en rfl (en rfl (en rfl (en rfl (en rfl (en rfl (en rfl (en rfl (en rfl (en rfl (en rfl (en rfl (en rfl (en rfl (en rfl (en rfl (en rfl (en rfl (en rfl (en rfl s8))))))))))))))))))))
          have s9 := (hg 9).trans (en rfl (en rfl (en rfl (en rfl (en rfl (en rfl (en rfl (en rfl (en rfl (en rfl (en rfl (en rfl (en rfl (en rfl (en rfl (en rfl (en rfl (en rfl (en rfl (en rfl s9))))))))))))))))))))
          have s30 := (hg 30).trans (en rfl (en rfl (en rfl (en rfl (en rfl (en rfl (en rfl (en rfl (en rfl (en rfl (en rfl (en rfl (en rfl (en rfl (en rfl (en rfl (en rfl (en rfl (en rfl (en rfl s30))))))))))))))))))))
          have s36 := (hg 36).trans (en rfl (en rfl (en rfl (en rfl (en rfl (en rfl (en rfl (en rfl (en rfl (en rfl (en rfl (en rfl (en rfl (en rfl (en rfl (en rfl (en rfl (en rfl (en rfl (en rfl s36))))))))))))))))))))
          have s37 := (hg 37).trans (en rfl (en rfl (en rfl (en rfl (en rfl (en rfl (en rfl (en rfl (en rfl (en rfl (en rfl (en rfl (en rfl (en rfl (en rfl (en rfl (en rfl (en rfl (en rfl (en rfl s37))))))))))))))))))))
          have s38 := (hg 38).trans (en rfl (en rfl (en rfl (en rfl (en rfl (en rfl (en rfl (en rfl (en rfl (en rfl (en rfl (en rfl (en rfl (en rfl (en rfl (en rfl (en rfl (en rfl (en rfl (en rfl s38))))))))))))))))))))
          have s39 := (hg 39).trans (en rfl (en rfl (en rfl (en rfl (en rfl (en rfl (en rfl (en rfl (en rfl (en rfl (en rfl (en rfl (en rfl (en rfl (en rfl (en rfl (en rfl (en rfl (en rfl (en rfl s39))))))))))))))))))))
          have s77 := (hg 77).trans (en rfl (en rfl (en rfl (en rfl (en rfl (en rfl (en rfl (en rfl (en rfl (en rfl (en rfl (en rfl (en rfl (en rfl (en rfl (en rfl (en rfl (en rfl (en rfl (en rfl s77))))))))))))))))))))
          have s97 := (hg 97).trans es
          clear hg
          refine xc_cond s97 (fun hc => by cases hc) (fun _ => ?_)
          refine xc_skip ?_
          exact ⟨h, ⟨(s0).trans zG19_0.symm, (s1).trans zG19_1.symm, (s3).trans zG19_3.symm, (s5).trans zG19_5.symm, (s8).trans zG19_8.symm, (s9).trans zG19_9.symm, (s30).trans zG19_30.symm, (s36).trans zG19_36.symm, (s37).trans zG19_37.symm, (s38).trans zG19_38.symm, (s39).trans zG19_39.symm, (s77).trans zG19_77.symm⟩⟩
      ·
        rintro g w ⟨h, ⟨y0, y1, y3, y5, y8, y9, y30, y36, y37, y38, y39, y77⟩⟩
        have s0 := y0.trans zG19_0
        have s1 := y1.trans zG19_1
        have s3 := y3.trans zG19_3
        have s5 := y5.trans zG19_5
        have s8 := y8.trans zG19_8
        have s9 := y9.trans zG19_9
        have s30 := y30.trans zG19_30
        have s36 := y36.trans zG19_36
        have s37 := y37.trans zG19_37
        have s38 := y38.trans zG19_38
        have s39 := y39.trans zG19_39
        have s77 := y77.trans zG19_77
        refine xc_seq (fun K hK22 => ?_)
        refine xc_seq (fun K hK23 => ?_)
        have hI2 := hinv.mono (show n ≤ n + 1 + 1 by omega)
        have hS := (s_rows h.b2).weak (fun _ h => h.b2)
        refine xc_region ?_
        refine x_val (r_move s8) (nd_of rfl) rfl ?_
        refine x_val (r_len Try.underlying23 es) (nd_of rfl) rfl ?_
        refine x_val (r_move ec) (nd_of rfl) rfl ?_
        refine xw_nil ?_
        refine hK23 _ _ ?_
        refine xc_gen (fun g hg => ?_)
        have s0 := (hg 0).trans (en rfl (en rfl (en rfl s0)))
        have s1 := (hg 1).trans (en rfl (en rfl (en rfl s1)))
        have s3 := (hg 3).trans (en rfl (en rfl (en rfl s3)))
        have s5 := (hg 5).trans (en rfl (en rfl (en rfl s5)))
        have s8 := (hg 8).trans (en rfl (en rfl (en rfl s8)))
        have s9 := (hg 9).trans (en rfl (en rfl (en rfl s9)))
        have s30 := (hg 30).trans (en rfl (en rfl (en rfl s30)))
        have s36 := (hg 36).trans (en rfl (en rfl (en rfl s36)))
        have s37 := (hg 37).trans (en rfl (en rfl (en rfl s37)))
        have s38 := (hg 38).trans (en rfl (en rfl (en rfl s38)))
        have s39 := (hg 39).trans (en rfl (en rfl (en rfl s39)))
        have s77 := (hg 77).trans (en rfl (en rfl (en rfl s77)))
        have s99 := (hg 99).trans (en rfl es)
        have s100 := (hg 100).trans es
        clear hg
        refine xc_block ?_
        obtain ⟨G24, hG24⟩ : ∃ g0 : Nat → Value, g0 = g := ⟨_, rfl⟩
        have zG24_0 : G24 0 = _ := (congrFun hG24 0).trans s0
        have zG24_1 : G24 1 = _ := (congrFun hG24 1).trans s1
        have zG24_3 : G24 3 = _ := (congrFun hG24 3).trans s3
        have zG24_5 : G24 5 = _ := (congrFun hG24 5).trans s5
        have zG24_8 : G24 8 = _ := (congrFun hG24 8).trans s8
        have zG24_9 : G24 9 = _ := (congrFun hG24 9).trans s9
        have zG24_30 : G24 30 = _ := (congrFun hG24 30).trans s30
        have zG24_36 : G24 36 = _ := (congrFun hG24 36).trans s36
        have zG24_37 : G24 37 = _ := (congrFun hG24 37).trans s37
        have zG24_38 : G24 38 = _ := (congrFun hG24 38).trans s38
        have zG24_39 : G24 39 = _ := (congrFun hG24 39).trans s39
        have zG24_77 : G24 77 = _ := (congrFun hG24 77).trans s77
        have zG24_99 : G24 99 = _ := (congrFun hG24 99).trans s99
        refine xc_loop (fun m f w => (∃ (k : Nat), m = ys.length - k ∧ k ≤ ys.length ∧ f 100 = .int .i64 (k : Int) ∧ SatL E w (Pa b L (plc (n + 1 + 1)) :: XRow (.slice au ys.length cu) ys :: RowsL ys L :: Cells b3 #[.int .i64 oa.kind, .int .i64 oa.k, .int .i64 oa.m, .slice al oa.ls.length cl, .slice ax oa.cs.length cx] 26 :: Old W :: R)) ∧ (f 0 = G24 0 ∧ f 1 = G24 1 ∧ f 3 = G24 3 ∧ f 5 = G24 5 ∧ f 8 = G24 8 ∧ f 9 = G24 9 ∧ f 30 = G24 30 ∧ f 36 = G24 36 ∧ f 37 = G24 37 ∧ f 38 = G24 38 ∧ f 39 = G24 39 ∧ f 77 = G24 77 ∧ f 99 = G24 99)) (ys.length) ⟨⟨0, by omega, by omega, s100, h⟩, ⟨congrFun hG24.symm 0, congrFun hG24.symm 1, congrFun hG24.symm 3, congrFun hG24.symm 5, congrFun hG24.symm 8, congrFun hG24.symm 9, congrFun hG24.symm 30, congrFun hG24.symm 36, congrFun hG24.symm 37, congrFun hG24.symm 38, congrFun hG24.symm 39, congrFun hG24.symm 77, congrFun hG24.symm 99⟩⟩ ?_
        rintro m g w ⟨⟨k, hm2, hkl, s100, h⟩, ⟨y0, y1, y3, y5, y8, y9, y30, y36, y37, y38, y39, y77, y99⟩⟩
        have s0 := y0.trans zG24_0
        have s1 := y1.trans zG24_1
        have s3 := y3.trans zG24_3
        have s5 := y5.trans zG24_5
        have s8 := y8.trans zG24_8
        have s9 := y9.trans zG24_9
        have s30 := y30.trans zG24_30
        have s36 := y36.trans zG24_36
        have s37 := y37.trans zG24_37
        have s38 := y38.trans zG24_38
        have s39 := y39.trans zG24_39
        have s77 := y77.trans zG24_77
        have s99 := y99.trans zG24_99
        refine xc_seq (fun K hK25 => ?_)
        refine xc_region ?_
        refine x_val (r_lss s100 s99 rfl) (nd_of rfl) rfl ?_
        refine xw_nil ?_
        refine hK25 _ _ ?_
        refine xc_gen (fun g hg => ?_)
        have s0 := (hg 0).trans (en rfl s0)
        have s1 := (hg 1).trans (en rfl s1)
        have s3 := (hg 3).trans (en rfl s3)
        have s5 := (hg 5).trans (en rfl s5)
        have s8 := (hg 8).trans (en rfl s8)
        have s9 := (hg 9).trans (en rfl s9)
        have s30 := (hg 30).trans (en rfl s30)
        have s36 := (hg 36).trans (en rfl s36)
        have s37 := (hg 37).trans (en rfl s37)
        have s38 := (hg 38).trans (en rfl s38)
        have s39 := (hg 39).trans (en rfl s39)
        have s77 := (hg 77).trans (en rfl s77)
        have s99 := (hg 99).trans (en rfl s99)
        have s100 := (hg 100).trans (en rfl s100)
        have s101 := (hg 101).trans es
        clear hg
        refine xc_seq (fun K hK26 => ?_)
        refine xc_cond s101 (fun hc => ?_) (fun hc => ?_)
        ·
          refine xc_skip ?_
          refine hK26 _ _ ?_
          refine xc_seq (fun K hK27 => ?_)
          refine xc_block ?_
          refine xc_seq (fun K hK28 => ?_)
          have hkl2 : k < ys.length := by have := of_decide_eq_true hc; omega
          obtain ⟨l, hl⟩ : ∃ l, L[k]? = some l := ⟨_, List.getElem?_eq_getElem (by omega)⟩
          have hle := hinv.each l (List.mem_of_getElem? hl)
          obtain ⟨adu, cu2, xu, evu, hnu, hcellu, hac⟩ := hS.at hl h
          simp only [Value.slice.injEq] at evu
          obtain ⟨rfl, _, rfl⟩ := evu
          refine xc_region ?_
          refine x_val (r_move s100) (nd_of rfl) rfl ?_
          refine x_val (r_assign es) (nd_of rfl) rfl ?_
          refine xw_nil ?_
          refine hK28 _ _ ?_
          refine xc_gen (fun g hg => ?_)
          have s0 := (hg 0).trans (en rfl (en rfl s0))
          have s1 := (hg 1).trans (en rfl (en rfl s1))
          have s3 := (hg 3).trans (en rfl (en rfl s3))
          have s5 := (hg 5).trans (en rfl (en rfl s5))
          have s8 := (hg 8).trans (en rfl (en rfl s8))
          have s9 := (hg 9).trans (en rfl (en rfl s9))
          have s10 := (hg 10).trans es
          have s30 := (hg 30).trans (en rfl (en rfl s30))
          have s36 := (hg 36).trans (en rfl (en rfl s36))
          have s37 := (hg 37).trans (en rfl (en rfl s37))
          have s38 := (hg 38).trans (en rfl (en rfl s38))
          have s39 := (hg 39).trans (en rfl (en rfl s39))
          have s77 := (hg 77).trans (en rfl (en rfl s77))
          have s99 := (hg 99).trans (en rfl (en rfl s99))
          have s100 := (hg 100).trans (en rfl (en rfl s100))
          have s101 := (hg 101).trans (en rfl (en rfl s101))
          clear hg
          refine xc_seq (fun K hK29 => ?_)
          refine xc_region ?_
          refine x_val (r_move s5) (nd_of rfl) rfl ?_
          refine x_val (r_move (en rfl s10)) (nd_of rfl) rfl ?_
          refine x_enter (r_call Try.call15 (.cons (en rfl es) (.cons es .nil))) (nd_of rfl) rfl (atP (n := k) hl (by omega) (by omega) h) ?_
          rintro _ w ⟨v5, rfl, h⟩
          refine x_val (r_move es) (nd_of rfl) rfl ?_
          refine x_val (r_extract es gc0) (nd_of rfl) rfl ?_
          refine x_val (r_extract (en rfl es) gc1) (nd_of rfl) rfl ?_
          refine x_val (r_assign (en rfl es)) (nd_of rfl) rfl ?_
          refine x_val (r_assign (en rfl es)) (nd_of rfl) rfl ?_
          refine xw_nil ?_
          refine hK29 _ _ ?_
          refine xc_gen (fun g hg => ?_)
          have s0 := (hg 0).trans (en rfl (en rfl (en rfl (en rfl (en rfl (en rfl (en rfl (en rfl s0))))))))
          have s1 := (hg 1).trans (en rfl (en rfl (en rfl (en rfl (en rfl (en rfl (en rfl (en rfl s1))))))))
          have s3 := (hg 3).trans (en rfl (en rfl (en rfl (en rfl (en rfl (en rfl (en rfl (en rfl s3))))))))
          have s5 := (hg 5).trans (en rfl (en rfl (en rfl (en rfl (en rfl (en rfl (en rfl (en rfl s5))))))))
          have s8 := (hg 8).trans (en rfl (en rfl (en rfl (en rfl (en rfl (en rfl (en rfl (en rfl s8))))))))
          have s9 := (hg 9).trans (en rfl (en rfl (en rfl (en rfl (en rfl (en rfl (en rfl (en rfl s9))))))))
          have s10 := (hg 10).trans (en rfl (en rfl (en rfl (en rfl (en rfl (en rfl (en rfl (en rfl s10))))))))
          have s11 := (hg 11).trans (en rfl es)
          have s12 := (hg 12).trans es
          have s30 := (hg 30).trans (en rfl (en rfl (en rfl (en rfl (en rfl (en rfl (en rfl (en rfl s30))))))))
          have s36 := (hg 36).trans (en rfl (en rfl (en rfl (en rfl (en rfl (en rfl (en rfl (en rfl s36))))))))
          have s37 := (hg 37).trans (en rfl (en rfl (en rfl (en rfl (en rfl (en rfl (en rfl (en rfl s37))))))))
          have s38 := (hg 38).trans (en rfl (en rfl (en rfl (en rfl (en rfl (en rfl (en rfl (en rfl s38))))))))
          have s39 := (hg 39).trans (en rfl (en rfl (en rfl (en rfl (en rfl (en rfl (en rfl (en rfl s39))))))))
          have s77 := (hg 77).trans (en rfl (en rfl (en rfl (en rfl (en rfl (en rfl (en rfl (en rfl s77))))))))
          have s99 := (hg 99).trans (en rfl (en rfl (en rfl (en rfl (en rfl (en rfl (en rfl (en rfl s99))))))))
          have s100 := (hg 100).trans (en rfl (en rfl (en rfl (en rfl (en rfl (en rfl (en rfl (en rfl s100))))))))
          have s101 := (hg 101).trans (en rfl (en rfl (en rfl (en rfl (en rfl (en rfl (en rfl (en rfl s101))))))))
          clear hg
          refine xc_seq (fun K hK30 => ?_)
          refine xc_region ?_
          refine x_val (r_move s12) (nd_of rfl) rfl ?_
          refine x_val (r_neq es ec (r := false) rfl) (nd_of rfl) rfl ?_
          refine x_val (r_move es) (nd_of rfl) rfl ?_
          refine x_take (d := 111) rfl rfl es ?_
          refine x_val (r_move (en rfl (en rfl (en rfl s11)))) (nd_of rfl) rfl ?_
          refine x_take (d := 111) rfl rfl (en rfl es) ?_
          refine x_val (r_move (en rfl (en rfl (en rfl (en rfl s8))))) (nd_of rfl) rfl ?_
          refine x_take (d := 111) rfl rfl (en rfl (en rfl es)) ?_
          refine x_val (r_move (en rfl (en rfl (en rfl (en rfl (en rfl s10)))))) (nd_of rfl) rfl ?_
          refine x_take (d := 111) rfl rfl (en rfl (en rfl (en rfl es))) ?_
          refine x_val (r_index1 Try.underlying23 Try.sizeOf38 (en rfl es) es hkl2) (nd_of rfl) rfl ?_
          refine x_take (d := 111) rfl rfl (en rfl (en rfl (en rfl (en rfl es)))) ?_
          refine x_val (r_loadCell Try.isAgg38 es (hcellu _ h.drop)) (nd_of rfl) rfl ?_
          refine x_take (d := 111) rfl rfl (en rfl (en rfl (en rfl (en rfl (en rfl es))))) ?_
          refine x_enter (r_call Try.call16 (.cons (en rfl (en rfl (en rfl (en rfl es)))) (.cons es .nil))) (nd_of rfl) rfl (same_yes (l := l) (a_row h) (hac.weak (fun _ h => h.drop)) hle.2.2 (by omega) h) ?_
          rintro _ w ⟨rfl, h⟩
          refine x_take (d := 111) rfl rfl (en rfl (en rfl (en rfl (en rfl (en rfl (en rfl es)))))) ?_
          refine x_val (r_not es rfl) (nd_of rfl) rfl ?_
          refine x_val (r_pick_f (en rfl (en rfl (en rfl (en rfl (en rfl (en rfl (en rfl es))))))) es) (nd_of rfl) rfl ?_
          refine xw_nil ?_
          refine hK30 _ _ ?_
          refine xc_gen (fun g hg => ?_)
          have s0 := (hg 0).trans (en rfl (en rfl (en rfl (en rfl (en rfl (en rfl (en rfl (en rfl (en rfl (en rfl (en rfl s0)))))))))))
          have s1 := (hg 1).trans (en rfl (en rfl (en rfl (en rfl (en rfl (en rfl (en rfl (en rfl (en rfl (en rfl (en rfl s1)))))))))))
          have s3 := (hg 3).trans (en rfl (en rfl (en rfl (en rfl (en rfl (en rfl (en rfl (en rfl (en rfl (en rfl (en rfl s3)))))))))))
          have s5 := (hg 5).trans (en rfl (en rfl (en rfl (en rfl (en rfl (en rfl (en rfl (en rfl (en rfl (en rfl (en rfl s5)))))))))))
          have s8 := (hg 8).trans (en rfl (en rfl (en rfl (en rfl (en rfl (en rfl (en rfl (en rfl (en rfl (en rfl (en rfl s8)))))))))))
          have s9 := (hg 9).trans (en rfl (en rfl (en rfl (en rfl (en rfl (en rfl (en rfl (en rfl (en rfl (en rfl (en rfl s9)))))))))))
          have s10 := (hg 10).trans (en rfl (en rfl (en rfl (en rfl (en rfl (en rfl (en rfl (en rfl (en rfl (en rfl (en rfl s10)))))))))))
          have s11 := (hg 11).trans (en rfl (en rfl (en rfl (en rfl (en rfl (en rfl (en rfl (en rfl (en rfl (en rfl (en rfl s11)))))))))))
          have s12 := (hg 12).trans (en rfl (en rfl (en rfl (en rfl (en rfl (en rfl (en rfl (en rfl (en rfl (en rfl (en rfl s12)))))))))))
          have s30 := (hg 30).trans (en rfl (en rfl (en rfl (en rfl (en rfl (en rfl (en rfl (en rfl (en rfl (en rfl (en rfl s30)))))))))))
          have s36 := (hg 36).trans (en rfl (en rfl (en rfl (en rfl (en rfl (en rfl (en rfl (en rfl (en rfl (en rfl (en rfl s36)))))))))))
          have s37 := (hg 37).trans (en rfl (en rfl (en rfl (en rfl (en rfl (en rfl (en rfl (en rfl (en rfl (en rfl (en rfl s37)))))))))))
          have s38 := (hg 38).trans (en rfl (en rfl (en rfl (en rfl (en rfl (en rfl (en rfl (en rfl (en rfl (en rfl (en rfl s38)))))))))))
          have s39 := (hg 39).trans (en rfl (en rfl (en rfl (en rfl (en rfl (en rfl (en rfl (en rfl (en rfl (en rfl (en rfl s39)))))))))))
          have s77 := (hg 77).trans (en rfl (en rfl (en rfl (en rfl (en rfl (en rfl (en rfl (en rfl (en rfl (en rfl (en rfl s77)))))))))))
          have s99 := (hg 99).trans (en rfl (en rfl (en rfl (en rfl (en rfl (en rfl (en rfl (en rfl (en rfl (en rfl (en rfl s99)))))))))))
          have s100 := (hg 100).trans (en rfl (en rfl (en rfl (en rfl (en rfl (en rfl (en rfl (en rfl (en rfl (en rfl (en rfl s100)))))))))))
          have s101 := (hg 101).trans (en rfl (en rfl (en rfl (en rfl (en rfl (en rfl (en rfl (en rfl (en rfl (en rfl (en rfl s101)))))))))))
          have s119 := (hg 119).trans es
          clear hg
          refine xc_cond s119 (fun hc => by cases hc) (fun _ => ?_)
          refine xc_skip ?_
          refine hK27 _ _ ?_
          refine xc_region ?_
          refine x_val (r_add s100 ec (show _ = (((k + 1 : Nat) : Int) : Int) from by omega) (by unfold I64; omega)) (nd_of rfl) rfl ?_
          refine x_val (r_move es) (nd_of rfl) rfl ?_
          refine xw_nil ?_
          have h := h.f4
          have h := h.f4
          have h := h.f4
          have h := h.f4
          exact ⟨ys.length - (k + 1), by omega, ⟨k + 1, rfl, by omega, es, h.f4.drop⟩, ⟨((en rfl (en rfl s0))).trans zG24_0.symm, ((en rfl (en rfl s1))).trans zG24_1.symm, ((en rfl (en rfl s3))).trans zG24_3.symm, ((en rfl (en rfl s5))).trans zG24_5.symm, ((en rfl (en rfl s8))).trans zG24_8.symm, ((en rfl (en rfl s9))).trans zG24_9.symm, ((en rfl (en rfl s30))).trans zG24_30.symm, ((en rfl (en rfl s36))).trans zG24_36.symm, ((en rfl (en rfl s37))).trans zG24_37.symm, ((en rfl (en rfl s38))).trans zG24_38.symm, ((en rfl (en rfl s39))).trans zG24_39.symm, ((en rfl (en rfl s77))).trans zG24_77.symm, ((en rfl (en rfl s99))).trans zG24_99.symm⟩⟩
        ·
          refine xc_exit ?_
          refine hK22 _ _ ?_
          refine xc_seq (fun K hK31 => ?_)
          refine xc_seq (fun K hK32 => ?_)
          refine xc_region ?_
          refine x_val (r_move s5) (nd_of rfl) rfl ?_
          refine x_enter (r_call Try.call14 (.cons es .nil)) (nd_of rfl) rfl (lenP h) ?_
          rintro _ w ⟨rfl, h⟩
          refine x_val (r_move (en rfl (en rfl s8))) (nd_of rfl) rfl ?_
          refine x_val (r_len Try.underlying23 es) (nd_of rfl) rfl ?_
          refine x_val (r_neq (en rfl (en rfl es)) es (decide_eq_false (by omega))) (nd_of rfl) rfl ?_
          refine xw_nil ?_
          refine hK32 _ _ ?_
          refine xc_gen (fun g hg => ?_)
          have s0 := (hg 0).trans (en rfl (en rfl (en rfl (en rfl (en rfl s0)))))
          have s1 := (hg 1).trans (en rfl (en rfl (en rfl (en rfl (en rfl s1)))))
          have s3 := (hg 3).trans (en rfl (en rfl (en rfl (en rfl (en rfl s3)))))
          have s5 := (hg 5).trans (en rfl (en rfl (en rfl (en rfl (en rfl s5)))))
          have s8 := (hg 8).trans (en rfl (en rfl (en rfl (en rfl (en rfl s8)))))
          have s9 := (hg 9).trans (en rfl (en rfl (en rfl (en rfl (en rfl s9)))))
          have s30 := (hg 30).trans (en rfl (en rfl (en rfl (en rfl (en rfl s30)))))
          have s36 := (hg 36).trans (en rfl (en rfl (en rfl (en rfl (en rfl s36)))))
          have s37 := (hg 37).trans (en rfl (en rfl (en rfl (en rfl (en rfl s37)))))
          have s38 := (hg 38).trans (en rfl (en rfl (en rfl (en rfl (en rfl s38)))))
          have s39 := (hg 39).trans (en rfl (en rfl (en rfl (en rfl (en rfl s39)))))
          have s77 := (hg 77).trans (en rfl (en rfl (en rfl (en rfl (en rfl s77)))))
          have s99 := (hg 99).trans (en rfl (en rfl (en rfl (en rfl (en rfl s99)))))
          have s100 := (hg 100).trans (en rfl (en rfl (en rfl (en rfl (en rfl s100)))))
          have s101 := (hg 101).trans (en rfl (en rfl (en rfl (en rfl (en rfl s101)))))
          have s125 := (hg 125).trans es
          clear hg
          refine xc_cond s125 (fun hc => by cases hc) (fun _ => ?_)
          refine xc_skip ?_
          refine hK31 _ _ ?_
          rcases Classical.em (isPart L.length oa.k oa.m) with hp2 | hp2
          ·
            skip
            refine xc_seq (fun K hK33 => ?_)
            refine xc_seq (fun K hK34 => ?_)
            refine xc_region ?_
            refine x_val (r_move s5) (nd_of rfl) rfl ?_
            refine x_val (r_fieldAddr (o' := 1) Try.underlying26 rfl Try.sizeOf3 rfl (en rfl s3) rfl) (nd_of rfl) rfl ?_
            refine x_val (r_load h 3 rfl Try.isAgg3 es gc1) (nd_of rfl) rfl ?_
            refine x_val (r_fieldAddr (o' := 2) Try.underlying26 rfl Try.sizeOf3 rfl (en rfl (en rfl (en rfl s3))) rfl) (nd_of rfl) rfl ?_
            refine x_val (r_load h 3 rfl Try.isAgg3 es gc2) (nd_of rfl) rfl ?_
            refine x_val (r_fieldAddr (o' := 4) Try.underlying26 rfl Try.sizeOf24 rfl (en rfl (en rfl (en rfl (en rfl (en rfl s3))))) rfl) (nd_of rfl) rfl ?_
            refine x_val (r_load h 3 rfl Try.isAgg24 es gc4) (nd_of rfl) rfl ?_
            refine x_enter (r_call Try.call12 (.cons (en rfl (en rfl (en rfl (en rfl (en rfl (en rfl es)))))) (.cons (en rfl (en rfl (en rfl (en rfl es)))) (.cons (en rfl (en rfl es)) (.cons es .nil))))) (nd_of rfl) rfl (patP hI2 (hso.patch ho) (by omega) (hxv ▸ ho.cp.creads 3 rfl) h) ?_
            rintro _ w ⟨rfl, h⟩
            refine x_val (r_neq es ec (decide_eq_false (by exact fun hh => hh (err_zero hp2)))) (nd_of rfl) rfl ?_
            refine xw_nil ?_
            refine hK34 _ _ ?_
            refine xc_gen (fun g hg => ?_)
            have s0 := (hg 0).trans (en rfl (en rfl (en rfl (en rfl (en rfl (en rfl (en rfl (en rfl (en rfl s0)))))))))
            have s1 := (hg 1).trans (en rfl (en rfl (en rfl (en rfl (en rfl (en rfl (en rfl (en rfl (en rfl s1)))))))))
            have s3 := (hg 3).trans (en rfl (en rfl (en rfl (en rfl (en rfl (en rfl (en rfl (en rfl (en rfl s3)))))))))
            have s5 := (hg 5).trans (en rfl (en rfl (en rfl (en rfl (en rfl (en rfl (en rfl (en rfl (en rfl s5)))))))))
            have s8 := (hg 8).trans (en rfl (en rfl (en rfl (en rfl (en rfl (en rfl (en rfl (en rfl (en rfl s8)))))))))
            have s9 := (hg 9).trans (en rfl (en rfl (en rfl (en rfl (en rfl (en rfl (en rfl (en rfl (en rfl s9)))))))))
            have s30 := (hg 30).trans (en rfl (en rfl (en rfl (en rfl (en rfl (en rfl (en rfl (en rfl (en rfl s30)))))))))
            have s36 := (hg 36).trans (en rfl (en rfl (en rfl (en rfl (en rfl (en rfl (en rfl (en rfl (en rfl s36)))))))))
            have s37 := (hg 37).trans (en rfl (en rfl (en rfl (en rfl (en rfl (en rfl (en rfl (en rfl (en rfl s37)))))))))
            have s38 := (hg 38).trans (en rfl (en rfl (en rfl (en rfl (en rfl (en rfl (en rfl (en rfl (en rfl s38)))))))))
            have s39 := (hg 39).trans (en rfl (en rfl (en rfl (en rfl (en rfl (en rfl (en rfl (en rfl (en rfl s39)))))))))
            have s77 := (hg 77).trans (en rfl (en rfl (en rfl (en rfl (en rfl (en rfl (en rfl (en rfl (en rfl s77)))))))))
            have s99 := (hg 99).trans (en rfl (en rfl (en rfl (en rfl (en rfl (en rfl (en rfl (en rfl (en rfl s99)))))))))
            have s100 := (hg 100).trans (en rfl (en rfl (en rfl (en rfl (en rfl (en rfl (en rfl (en rfl (en rfl s100)))))))))
            have s101 := (hg 101).trans (en rfl (en rfl (en rfl (en rfl (en rfl (en rfl (en rfl (en rfl (en rfl s101)))))))))
            have s125 := (hg 125).trans (en rfl (en rfl (en rfl (en rfl (en rfl (en rfl (en rfl (en rfl (en rfl s125)))))))))
            have s134 := (hg 134).trans es
            clear hg
            refine xc_cond s134 (fun hc => by cases hc) (fun _ => ?_)
            refine xc_skip ?_
            refine hK33 _ _ ?_
            refine xc_seq (fun K hK35 => ?_)
            refine xc_seq (fun K hK36 => ?_)
            have hI3 := hI2.pat (i := oa.k) (j := oa.m) (hso.patch ho)
            obtain ⟨LL, hLL⟩ : ∃ LL, LL = patL L oa.k oa.m oa.cs := ⟨_, rfl⟩
            have hLl : LL.length = L.length := by rw [hLL, pat_len]
            rw [← hLL] at h hI3
            obtain ⟨B2, hB2⟩ : ∃ B2, B2 = plc (n + 1 + 1 + 1) := ⟨_, rfl⟩
            rw [← hB2] at h
            have hS := (s_rows h.b2).weak (fun _ h => h.b2)
            refine xc_region ?_
            refine x_val (r_move s8) (nd_of rfl) rfl ?_
            refine x_val (r_len Try.underlying23 es) (nd_of rfl) rfl ?_
            refine x_val (r_move ec) (nd_of rfl) rfl ?_
            refine xw_nil ?_
            refine hK36 _ _ ?_
            refine xc_gen (fun g hg => ?_)
            have s0 := (hg 0).trans (en rfl (en rfl (en rfl s0)))
            have s1 := (hg 1).trans (en rfl (en rfl (en rfl s1)))
            have s3 := (hg 3).trans (en rfl (en rfl (en rfl s3)))
            have s5 := (hg 5).trans (en rfl (en rfl (en rfl s5)))
            have s8 := (hg 8).trans (en rfl (en rfl (en rfl s8)))
            have s9 := (hg 9).trans (en rfl (en rfl (en rfl s9)))
            have s30 := (hg 30).trans (en rfl (en rfl (en rfl s30)))
            have s36 := (hg 36).trans (en rfl (en rfl (en rfl s36)))
            have s37 := (hg 37).trans (en rfl (en rfl (en rfl s37)))
            have s38 := (hg 38).trans (en rfl (en rfl (en rfl s38)))
            have s39 := (hg 39).trans (en rfl (en rfl (en rfl s39)))
            have s77 := (hg 77).trans (en rfl (en rfl (en rfl s77)))
            have s99 := (hg 99).trans (en rfl (en rfl (en rfl s99)))
            have s100 := (hg 100).trans (en rfl (en rfl (en rfl s100)))
            have s101 := (hg 101).trans (en rfl (en rfl (en rfl s101)))
            have s125 := (hg 125).trans (en rfl (en rfl (en rfl s125)))
            have s134 := (hg 134).trans (en rfl (en rfl (en rfl s134)))
            have s137 := (hg 137).trans (en rfl es)
            have s138 := (hg 138).trans es
            clear hg
            refine xc_block ?_
            obtain ⟨G37, hG37⟩ : ∃ g0 : Nat → Value, g0 = g := ⟨_, rfl⟩
            have zG37_0 : G37 0 = _ := (congrFun hG37 0).trans s0
            have zG37_1 : G37 1 = _ := (congrFun hG37 1).trans s1
            have zG37_3 : G37 3 = _ := (congrFun hG37 3).trans s3
            have zG37_5 : G37 5 = _ := (congrFun hG37 5).trans s5
            have zG37_8 : G37 8 = _ := (congrFun hG37 8).trans s8
            have zG37_9 : G37 9 = _ := (congrFun hG37 9).trans s9
            have zG37_30 : G37 30 = _ := (congrFun hG37 30).trans s30
            have zG37_36 : G37 36 = _ := (congrFun hG37 36).trans s36
            have zG37_37 : G37 37 = _ := (congrFun hG37 37).trans s37
            have zG37_38 : G37 38 = _ := (congrFun hG37 38).trans s38
            have zG37_39 : G37 39 = _ := (congrFun hG37 39).trans s39
            have zG37_77 : G37 77 = _ := (congrFun hG37 77).trans s77
            have zG37_99 : G37 99 = _ := (congrFun hG37 99).trans s99
            have zG37_100 : G37 100 = _ := (congrFun hG37 100).trans s100
            have zG37_101 : G37 101 = _ := (congrFun hG37 101).trans s101
            have zG37_125 : G37 125 = _ := (congrFun hG37 125).trans s125
            have zG37_134 : G37 134 = _ := (congrFun hG37 134).trans s134
            have zG37_137 : G37 137 = _ := (congrFun hG37 137).trans s137
            refine xc_loop (fun m f w => (∃ (k : Nat), m = ys.length - k ∧ k ≤ ys.length ∧ f 138 = .int .i64 (k : Int) ∧ SatL E w (Pa b LL B2 :: XRow (.slice au ys.length cu) ys :: RowsL ys L :: Cells b3 #[.int .i64 oa.kind, .int .i64 oa.k, .int .i64 oa.m, .slice al oa.ls.length cl, .slice ax oa.cs.length cx] 26 :: Old W :: R)) ∧ (f 0 = G37 0 ∧ f 1 = G37 1 ∧ f 3 = G37 3 ∧ f 5 = G37 5 ∧ f 8 = G37 8 ∧ f 9 = G37 9 ∧ f 30 = G37 30 ∧ f 36 = G37 36 ∧ f 37 = G37 37 ∧ f 38 = G37 38 ∧ f 39 = G37 39 ∧ f 77 = G37 77 ∧ f 99 = G37 99 ∧ f 100 = G37 100 ∧ f 101 = G37 101 ∧ f 125 = G37 125 ∧ f 134 = G37 134 ∧ f 137 = G37 137)) (ys.length) ⟨⟨0, by omega, by omega, s138, h⟩, ⟨congrFun hG37.symm 0, congrFun hG37.symm 1, congrFun hG37.symm 3, congrFun hG37.symm 5, congrFun hG37.symm 8, congrFun hG37.symm 9, congrFun hG37.symm 30, congrFun hG37.symm 36, congrFun hG37.symm 37, congrFun hG37.symm 38, congrFun hG37.symm 39, congrFun hG37.symm 77, congrFun hG37.symm 99, congrFun hG37.symm 100, congrFun hG37.symm 101, congrFun hG37.symm 125, congrFun hG37.symm 134, congrFun hG37.symm 137⟩⟩ ?_
            rintro m g w ⟨⟨k, hm2, hkl, s138, h⟩, ⟨y0, y1, y3, y5, y8, y9, y30, y36, y37, y38, y39, y77, y99, y100, y101, y125, y134, y137⟩⟩
            have s0 := y0.trans zG37_0
            have s1 := y1.trans zG37_1
            have s3 := y3.trans zG37_3
            have s5 := y5.trans zG37_5
            have s8 := y8.trans zG37_8
            have s9 := y9.trans zG37_9
            have s30 := y30.trans zG37_30
            have s36 := y36.trans zG37_36
            have s37 := y37.trans zG37_37
            have s38 := y38.trans zG37_38
            have s39 := y39.trans zG37_39
            have s77 := y77.trans zG37_77
            have s99 := y99.trans zG37_99
            have s100 := y100.trans zG37_100
            have s101 := y101.trans zG37_101
            have s125 := y125.trans zG37_125
            have s134 := y134.trans zG37_134
            have s137 := y137.trans zG37_137
            refine xc_seq (fun K hK38 => ?_)
            refine xc_region ?_
            refine x_val (r_lss s138 s137 rfl) (nd_of rfl) rfl ?_
            refine xw_nil ?_
            refine hK38 _ _ ?_
            refine xc_gen (fun g hg => ?_)
            have s0 := (hg 0).trans (en rfl s0)
            have s1 := (hg 1).trans (en rfl s1)
            have s3 := (hg 3).trans (en rfl s3)
            have s5 := (hg 5).trans (en rfl s5)
            have s8 := (hg 8).trans (en rfl s8)
            have s9 := (hg 9).trans (en rfl s9)
            have s30 := (hg 30).trans (en rfl s30)
            have s36 := (hg 36).trans (en rfl s36)
            have s37 := (hg 37).trans (en rfl s37)
            have s38 := (hg 38).trans (en rfl s38)
            have s39 := (hg 39).trans (en rfl s39)
            have s77 := (hg 77).trans (en rfl s77)
            have s99 := (hg 99).trans (en rfl s99)
            have s100 := (hg 100).trans (en rfl s100)
            have s101 := (hg 101).trans (en rfl s101)
            have s125 := (hg 125).trans (en rfl s125)
            have s134 := (hg 134).trans (en rfl s134)
            have s137 := (hg 137).trans (en rfl s137)
            have s138 := (hg 138).trans (en rfl s138)
            have s139 := (hg 139).trans es
            clear hg
            refine xc_seq (fun K hK39 => ?_)
            refine xc_cond s139 (fun hc => ?_) (fun hc => ?_)
            ·
              refine xc_skip ?_
              refine hK39 _ _ ?_
              refine xc_seq (fun K hK40 => ?_)
              refine xc_block ?_
              refine xc_seq (fun K hK41 => ?_)
              have hkl2 : k < ys.length := by have := of_decide_eq_true hc; omega
              obtain ⟨l, hl⟩ : ∃ l, L[k]? = some l := ⟨_, List.getElem?_eq_getElem (by omega)⟩
              have hle := hinv.each l (List.mem_of_getElem? hl)
              refine xc_region ?_
              refine x_val (r_move s138) (nd_of rfl) rfl ?_
              refine x_val (r_assign es) (nd_of rfl) rfl ?_
              refine xw_nil ?_
              refine hK41 _ _ ?_
              refine xc_gen (fun g hg => ?_)
              have s0 := (hg 0).trans (en rfl (en rfl s0))
              have s1 := (hg 1).trans (en rfl (en rfl s1))
              have s3 := (hg 3).trans (en rfl (en rfl s3))
              have s5 := (hg 5).trans (en rfl (en rfl s5))
              have s8 := (hg 8).trans (en rfl (en rfl s8))
              have s9 := (hg 9).trans (en rfl (en rfl s9))
              have s13 := (hg 13).trans es
              have s30 := (hg 30).trans (en rfl (en rfl s30))
              have s36 := (hg 36).trans (en rfl (en rfl s36))
              have s37 := (hg 37).trans (en rfl (en rfl s37))
              have s38 := (hg 38).trans (en rfl (en rfl s38))
              have s39 := (hg 39).trans (en rfl (en rfl s39))
              have s77 := (hg 77).trans (en rfl (en rfl s77))
              have s99 := (hg 99).trans (en rfl (en rfl s99))
              have s100 := (hg 100).trans (en rfl (en rfl s100))
              have s101 := (hg 101).trans (en rfl (en rfl s101))
              have s125 := (hg 125).trans (en rfl (en rfl s125))
              have s134 := (hg 134).trans (en rfl (en rfl s134))
              have s137 := (hg 137).trans (en rfl (en rfl s137))
              have s138 := (hg 138).trans (en rfl (en rfl s138))
              have s139 := (hg 139).trans (en rfl (en rfl s139))
              clear hg
              rcases Int.lt_or_le (k : Int) oa.k with hk1 | hk1
              ·
                skip
                refine xc_seq (fun K hK42 => ?_)
                have hl2 : LL[k]? = some l := by rw [hLL, pat_out hp2 (.inl hk1)]; exact hl
                have hle2 := hI3.each _ (List.mem_of_getElem? hl2)
                have hrl2 := hle2.2.1
                refine xc_region ?_
                refine x_val (r_move s5) (nd_of rfl) rfl ?_
                refine x_val (r_move (en rfl s13)) (nd_of rfl) rfl ?_
                refine x_enter (r_call Try.call15 (.cons (en rfl es) (.cons es .nil))) (nd_of rfl) rfl (atP (n := k) hl2 (by omega) (by omega) h) ?_
                rintro _ w ⟨v5, rfl, h⟩
                obtain ⟨a5, c5, rfl, _, _⟩ := h.rowVal
                obtain ⟨adu, cu2, xu, evu, hnu, hcellu, hac⟩ := hS.at hl h.drop
                simp only [Value.slice.injEq] at evu
                obtain ⟨rfl, _, rfl⟩ := evu
                refine x_val (r_move es) (nd_of rfl) rfl ?_
                refine x_val (r_extract es gc0) (nd_of rfl) rfl ?_
                refine x_val (r_extract (en rfl es) gc1) (nd_of rfl) rfl ?_
                refine x_val (r_assign (en rfl es)) (nd_of rfl) rfl ?_
                refine x_val (r_assign (en rfl es)) (nd_of rfl) rfl ?_
                refine xw_nil ?_
                refine hK42 _ _ ?_
                refine xc_gen (fun g hg => ?_)
                have s0 := (hg 0).trans (en rfl (en rfl (en rfl (en rfl (en rfl (en rfl (en rfl (en rfl s0))))))))
                have s1 := (hg 1).trans (en rfl (en rfl (en rfl (en rfl (en rfl (en rfl (en rfl (en rfl s1))))))))
                have s3 := (hg 3).trans (en rfl (en rfl (en rfl (en rfl (en rfl (en rfl (en rfl (en rfl s3))))))))
                have s5 := (hg 5).trans (en rfl (en rfl (en rfl (en rfl (en rfl (en rfl (en rfl (en rfl s5))))))))
                have s8 := (hg 8).trans (en rfl (en rfl (en rfl (en rfl (en rfl (en rfl (en rfl (en rfl s8))))))))
                have s9 := (hg 9).trans (en rfl (en rfl (en rfl (en rfl (en rfl (en rfl (en rfl (en rfl s9))))))))
                have s13 := (hg 13).trans (en rfl (en rfl (en rfl (en rfl (en rfl (en rfl (en rfl (en rfl s13))))))))
                have s14 := (hg 14).trans (en rfl es)
                have s15 := (hg 15).trans es
                have s30 := (hg 30).trans (en rfl (en rfl (en rfl (en rfl (en rfl (en rfl (en rfl (en rfl s30))))))))
                have s36 := (hg 36).trans (en rfl (en rfl (en rfl (en rfl (en rfl (en rfl (en rfl (en rfl s36))))))))
                have s37 := (hg 37).trans (en rfl (en rfl (en rfl (en rfl (en rfl (en rfl (en rfl (en rfl s37))))))))
                have s38 := (hg 38).trans (en rfl (en rfl (en rfl (en rfl (en rfl (en rfl (en rfl (en rfl s38))))))))
                have s39 := (hg 39).trans (en rfl (en rfl (en rfl (en rfl (en rfl (en rfl (en rfl (en rfl s39))))))))
                have s77 := (hg 77).trans (en rfl (en rfl (en rfl (en rfl (en rfl (en rfl (en rfl (en rfl s77))))))))
                have s99 := (hg 99).trans (en rfl (en rfl (en rfl (en rfl (en rfl (en rfl (en rfl (en rfl s99))))))))
                have s100 := (hg 100).trans (en rfl (en rfl (en rfl (en rfl (en rfl (en rfl (en rfl (en rfl s100))))))))
                have s101 := (hg 101).trans (en rfl (en rfl (en rfl (en rfl (en rfl (en rfl (en rfl (en rfl s101))))))))
                have s125 := (hg 125).trans (en rfl (en rfl (en rfl (en rfl (en rfl (en rfl (en rfl (en rfl s125))))))))
                have s134 := (hg 134).trans (en rfl (en rfl (en rfl (en rfl (en rfl (en rfl (en rfl (en rfl s134))))))))
                have s137 := (hg 137).trans (en rfl (en rfl (en rfl (en rfl (en rfl (en rfl (en rfl (en rfl s137))))))))
                have s138 := (hg 138).trans (en rfl (en rfl (en rfl (en rfl (en rfl (en rfl (en rfl (en rfl s138))))))))
                have s139 := (hg 139).trans (en rfl (en rfl (en rfl (en rfl (en rfl (en rfl (en rfl (en rfl s139))))))))
                clear hg
                refine xc_seq (fun K hK43 => ?_)
                refine xc_seq (fun K hK44 => ?_)
                refine xc_region ?_
                refine x_val (r_move s15) (nd_of rfl) rfl ?_
                refine x_val (r_neq es ec (r := false) rfl) (nd_of rfl) rfl ?_
                refine x_val (r_move es) (nd_of rfl) rfl ?_
                refine x_take (d := 149) rfl rfl es ?_
                refine x_val (r_move (en rfl (en rfl (en rfl s13)))) (nd_of rfl) rfl ?_
                refine x_take (d := 149) rfl rfl (en rfl es) ?_
                refine x_val (r_fieldAddr (o' := 1) Try.underlying26 rfl Try.sizeOf3 rfl (en rfl (en rfl (en rfl (en rfl s3)))) rfl) (nd_of rfl) rfl ?_
                refine x_take (d := 149) rfl rfl (en rfl (en rfl es)) ?_
                refine x_val (r_load h 4 rfl Try.isAgg3 es gc1) (nd_of rfl) rfl ?_
                refine x_take (d := 149) rfl rfl (en rfl (en rfl (en rfl es))) ?_
                refine x_val (r_lss (en rfl (en rfl es)) es (decide_eq_true (by omega))) (nd_of rfl) rfl ?_
                refine x_take (d := 149) rfl rfl (en rfl (en rfl (en rfl (en rfl es)))) ?_
                refine x_val (r_move es) (nd_of rfl) rfl ?_
                refine x_pass (d := 154) rfl rfl es rfl ?_
                refine x_pass (d := 154) rfl rfl (en rfl es) rfl ?_
                refine x_pass (d := 154) rfl rfl (en rfl (en rfl es)) rfl ?_
                refine x_pass (d := 154) rfl rfl (en rfl (en rfl (en rfl es))) rfl ?_
                refine x_take (d := 149) rfl rfl (en rfl (en rfl (en rfl (en rfl (en rfl (en rfl (en rfl (en rfl (en rfl es))))))))) ?_
                refine x_val (r_pick_t (en rfl (en rfl (en rfl (en rfl es)))) ec) (nd_of rfl) rfl ?_
                refine x_take (d := 149) rfl rfl (en rfl (en rfl (en rfl (en rfl (en rfl (en rfl (en rfl (en rfl (en rfl (en rfl es)))))))))) ?_
                refine x_val (r_move es) (nd_of rfl) rfl ?_
                refine x_take (d := 160) rfl rfl es ?_
                refine x_val (r_move (en rfl (en rfl (en rfl (en rfl (en rfl (en rfl (en rfl (en rfl (en rfl (en rfl (en rfl (en rfl (en rfl (en rfl s14))))))))))))))) (nd_of rfl) rfl ?_
                refine x_take (d := 160) rfl rfl (en rfl es) ?_
                refine x_val (r_move (en rfl (en rfl (en rfl (en rfl (en rfl (en rfl (en rfl (en rfl (en rfl (en rfl (en rfl (en rfl (en rfl (en rfl (en rfl s8)))))))))))))))) (nd_of rfl) rfl ?_
                refine x_take (d := 160) rfl rfl (en rfl (en rfl es)) ?_
                refine x_val (r_move (en rfl (en rfl (en rfl (en rfl (en rfl (en rfl (en rfl (en rfl (en rfl (en rfl (en rfl (en rfl (en rfl (en rfl (en rfl (en rfl s13))))))))))))))))) (nd_of rfl) rfl ?_
                refine x_take (d := 160) rfl rfl (en rfl (en rfl (en rfl es))) ?_
                refine x_val (r_index1 Try.underlying23 Try.sizeOf38 (en rfl es) es hkl2) (nd_of rfl) rfl ?_
                refine x_take (d := 160) rfl rfl (en rfl (en rfl (en rfl (en rfl es)))) ?_
                refine x_val (r_loadCell Try.isAgg38 es (hcellu _ h.drop)) (nd_of rfl) rfl ?_
                refine x_take (d := 160) rfl rfl (en rfl (en rfl (en rfl (en rfl (en rfl es))))) ?_
                refine x_enter (r_call Try.call16 (.cons (en rfl (en rfl (en rfl (en rfl es)))) (.cons es .nil))) (nd_of rfl) rfl (same_yes (l := l) (a_row h) (hac.weak (fun _ h => h.drop)) hle.2.2 (by omega) h) ?_
                rintro _ w ⟨rfl, h⟩
                refine x_take (d := 160) rfl rfl (en rfl (en rfl (en rfl (en rfl (en rfl (en rfl es)))))) ?_
                refine x_val (r_not es rfl) (nd_of rfl) rfl ?_
                refine x_take (d := 149) rfl rfl (en rfl (en rfl (en rfl (en rfl (en rfl (en rfl (en rfl (en rfl (en rfl (en rfl (en rfl (en rfl (en rfl (en rfl (en rfl (en rfl (en rfl (en rfl es)))))))))))))))))) ?_
                refine x_val (r_pick_t (en rfl (en rfl (en rfl (en rfl (en rfl (en rfl (en rfl es))))))) es) (nd_of rfl) rfl ?_
                refine x_val (r_pick_f (en rfl (en rfl (en rfl (en rfl (en rfl (en rfl (en rfl (en rfl (en rfl (en rfl (en rfl (en rfl (en rfl (en rfl (en rfl (en rfl (en rfl (en rfl (en rfl es))))))))))))))))))) es) (nd_of rfl) rfl ?_
                refine xw_nil ?_
                refine hK44 _ _ ?_
                refine xc_gen (fun g hg => ?_)
                have s0 := (hg 0).trans (en rfl (en rfl (en rfl (en rfl (en rfl (en rfl (en rfl (en rfl (en rfl (en rfl (en rfl (en rfl (en rfl (en rfl (en rfl (en rfl (en rfl (en rfl (en rfl (en rfl (en rfl (en rfl (en rfl s0)))))))))))))))))))))))
                have s1 := (hg 1).trans (en rfl (en rfl (en rfl (en rfl (en rfl (en rfl (en rfl (en rfl (en rfl (en rfl (en rfl (en rfl (en rfl (en rfl (en rfl (en rfl (en rfl (en rfl (en rfl (en rfl (en rfl (en rfl (en rfl s1)))))))))))))))))))))))
                have s3 := (hg 3).trans (en rfl (en rfl (en rfl (en rfl (en rfl (en rfl (en rfl (en rfl (en rfl (en rfl (en rfl (en rfl (en rfl (en rfl (en rfl (en rfl (en rfl (en rfl (en rfl (en rfl (en rfl (en rfl (en rfl s3)))))))))))))))))))))))
                have s5 := (hg 5).trans (en rfl (en rfl (en rfl (en rfl (en rfl (en rfl (en rfl (en rfl (en rfl (en rfl (en rfl (en rfl (en rfl (en rfl (en rfl (en rfl (en rfl (en rfl (en rfl (en rfl (en rfl (en rfl (en rfl s5)))))))))))))))))))))))
                have s8 := (hg 8).trans (en rfl (en rfl (en rfl (en rfl (en rfl (en rfl (en rfl (en rfl (en rfl (en rfl (en rfl (en rfl (en rfl (en rfl (en rfl (en rfl (en rfl (en rfl (en rfl (en rfl (en rfl (en rfl (en rfl s8)))))))))))))))))))))))
                have s9 := (hg 9).trans (en rfl (en rfl (en rfl (en rfl (en rfl (en rfl (en rfl (en rfl (en rfl (en rfl (en rfl (en rfl (en rfl (en rfl (en rfl (en rfl (en rfl (en rfl (en rfl (en rfl (en rfl (en rfl (en rfl s9)))))))))))))))))))))))
                have s13 := (hg 13).trans (en rfl (en rfl (en rfl (en rfl (en rfl (en rfl (en rfl (en rfl (en rfl (en rfl (en rfl (en rfl (en rfl (en rfl (en rfl (en rfl (en rfl (en rfl (en rfl (en rfl (en rfl (en rfl (en rfl s13)))))))))))))))))))))))
                have s14 := (hg 14).trans (en rfl (en rfl (en rfl (en rfl (en rfl (en rfl (en rfl (en rfl (en rfl (en rfl (en rfl (en rfl (en rfl (en rfl (en rfl (en rfl (en rfl (en rfl (en rfl (en rfl (en rfl (en rfl (en rfl s14)))))))))))))))))))))))
                have s15 := (hg 15).trans (en rfl (en rfl (en rfl (en rfl (en rfl (en rfl (en rfl (en rfl (en rfl (en rfl (en rfl (en rfl (en rfl (en rfl (en rfl (en rfl (en rfl (en rfl (en rfl (en rfl (en rfl (en rfl (en rfl s15)))))))))))))))))))))))
                have s30 := (hg 30).trans (en rfl (en rfl (en rfl (en rfl (en rfl (en rfl (en rfl (en rfl (en rfl (en rfl (en rfl (en rfl (en rfl (en rfl (en rfl (en rfl (en rfl (en rfl (en rfl (en rfl (en rfl (en rfl (en rfl s30)))))))))))))))))))))))
                have s36 := (hg 36).trans (en rfl (en rfl (en rfl (en rfl (en rfl (en rfl (en rfl (en rfl (en rfl (en rfl (en rfl (en rfl (en rfl (en rfl (en rfl (en rfl (en rfl (en rfl (en rfl (en rfl (en rfl (en rfl (en rfl s36)))))))))))))))))))))))
                have s37 := (hg 37).trans (en rfl (en rfl (en rfl (en rfl (en rfl (en rfl (en rfl (en rfl (en rfl (en rfl (en rfl (en rfl (en rfl (en rfl (en rfl (en rfl (en rfl (en rfl (en rfl (en rfl (en rfl (en rfl (en rfl s37)))))))))))))))))))))))
                have s38 := (hg 38).trans (en rfl (en rfl (en rfl (en rfl (en rfl (en rfl (en rfl (en rfl (en rfl (en rfl (en rfl (en rfl (en rfl (en rfl (en rfl (en rfl (en rfl (en rfl (en rfl (en rfl (en rfl (en rfl (en rfl s38)))))))))))))))))))))))
                have s39 := (hg 39).trans (en rfl (en rfl (en rfl (en rfl (en rfl (en rfl (en rfl (en rfl (en rfl (en rfl (en rfl (en rfl (en rfl (en rfl (en rfl (en rfl (en rfl (en rfl (en rfl (en rfl (en rfl (en rfl (en rfl s39)))))))))))))))))))))))
                have s77 := (hg 77).trans (en rfl (en rfl (en rfl (en rfl (en rfl (en rfl (en rfl (en rfl (en rfl (en rfl (en rfl (en rfl (en rfl (en rfl (en rfl (en rfl (en rfl (en rfl (en rfl (en rfl (en rfl (en rfl (en rfl s77)))))))))))))))))))))))
                have s99 := (hg 99).trans (en rfl (en rfl (en rfl (en rfl (en rfl (en rfl (en rfl (en rfl (en rfl (en rfl (en rfl (en rfl (en rfl (en rfl (en rfl (en rfl (en rfl (en rfl (en rfl (en rfl (en rfl (en rfl (en rfl s99)))))))))))))))))))))))
                have s100 := (hg 100).trans (en rfl (en rfl (en rfl (en rfl (en rfl (en rfl (en rfl (en rfl (en rfl (en rfl (en rfl (en rfl (en rfl (en rfl (en rfl (en rfl (en rfl (en rfl (en rfl (en rfl (en rfl (en rfl (en rfl s100)))))))))))))))))))))))
                have s101 := (hg 101).trans (en rfl (en rfl (en rfl (en rfl (en rfl (en rfl (en rfl (en rfl (en rfl (en rfl (en rfl (en rfl (en rfl (en rfl (en rfl (en rfl (en rfl (en rfl (en rfl (en rfl (en rfl (en rfl (en rfl s101)))))))))))))))))))))))
                have s125 := (hg 125).trans (en rfl (en rfl (en rfl (en rfl (en rfl (en rfl (en rfl (en rfl (en rfl (en rfl (en rfl (en rfl (en rfl (en rfl (en rfl (en rfl (en rfl (en rfl (en rfl (en rfl (en rfl (en rfl (en rfl s125)))))))))))))))))))))))
                have s134 := (hg 134).trans (en rfl (en rfl (en rfl (en rfl (en rfl (en rfl (en rfl (en rfl (en rfl (en rfl (en rfl (en rfl (en rfl (en rfl (en rfl (en rfl (en rfl (en rfl (en rfl (en rfl (en rfl (en rfl (en rfl s134)))))))))))))))))))))))
                have s137 := (hg 137).trans (en rfl (en rfl (en rfl (en rfl (en rfl (en rfl (en rfl (en rfl (en rfl (en rfl (en rfl (en rfl (en rfl (en rfl (en rfl (en rfl (en rfl (en rfl (en rfl (en rfl (en rfl (en rfl (en rfl s137)))))))))))))))))))))))
                have s138 := (hg 138).trans (en rfl (en rfl (en rfl (en rfl (en rfl (en rfl (en rfl (en rfl (en rfl (en rfl (en rfl (en rfl (en rfl (en rfl (en rfl (en rfl (en rfl (en rfl (en rfl (en rfl (en rfl (en rfl (en rfl s138)))))))))))))))))))))))
                have s139 := (hg 139).trans (en rfl (en rfl (en rfl (en rfl (en rfl (en rfl (en rfl (en rfl (en rfl (en rfl (en rfl (en rfl (en rfl (en rfl (en rfl (en rfl (en rfl (en rfl (en rfl (en rfl (en rfl (en rfl (en rfl s139)))))))))))))))))))))))
                have s169 := (hg 169).trans es
                clear hg
                refine xc_cond s169 (fun hc => by cases hc) (fun _ => ?_)
                refine xc_skip ?_
                refine hK43 _ _ ?_
                refine xc_seq (fun K hK45 => ?_)
                refine xc_region ?_
                refine x_val (r_fieldAddr (o' := 4) Try.underlying26 rfl Try.sizeOf24 rfl s3 rfl) (nd_of rfl) rfl ?_
                refine x_val (r_load h 4 rfl Try.isAgg24 es gc4) (nd_of rfl) rfl ?_
                refine x_val (r_len Try.underlying24 es) (nd_of rfl) rfl ?_
                refine x_val (r_move ec) (nd_of rfl) rfl ?_
                refine xw_nil ?_
                refine hK45 _ _ ?_
                refine xc_gen (fun g hg => ?_)
                have s0 := (hg 0).trans (en rfl (en rfl (en rfl (en rfl s0))))
                have s1 := (hg 1).trans (en rfl (en rfl (en rfl (en rfl s1))))
                have s3 := (hg 3).trans (en rfl (en rfl (en rfl (en rfl s3))))
                have s5 := (hg 5).trans (en rfl (en rfl (en rfl (en rfl s5))))
                have s8 := (hg 8).trans (en rfl (en rfl (en rfl (en rfl s8))))
                have s9 := (hg 9).trans (en rfl (en rfl (en rfl (en rfl s9))))
                have s13 := (hg 13).trans (en rfl (en rfl (en rfl (en rfl s13))))
                have s14 := (hg 14).trans (en rfl (en rfl (en rfl (en rfl s14))))
                have s15 := (hg 15).trans (en rfl (en rfl (en rfl (en rfl s15))))
                have s30 := (hg 30).trans (en rfl (en rfl (en rfl (en rfl s30))))
                have s36 := (hg 36).trans (en rfl (en rfl (en rfl (en rfl s36))))
                have s37 := (hg 37).trans (en rfl (en rfl (en rfl (en rfl s37))))
                have s38 := (hg 38).trans (en rfl (en rfl (en rfl (en rfl s38))))
                have s39 := (hg 39).trans (en rfl (en rfl (en rfl (en rfl s39))))
                have s77 := (hg 77).trans (en rfl (en rfl (en rfl (en rfl s77))))
                have s99 := (hg 99).trans (en rfl (en rfl (en rfl (en rfl s99))))
                have s100 := (hg 100).trans (en rfl (en rfl (en rfl (en rfl s100))))
                have s101 := (hg 101).trans (en rfl (en rfl (en rfl (en rfl s101))))
                have s125 := (hg 125).trans (en rfl (en rfl (en rfl (en rfl s125))))
                have s134 := (hg 134).trans (en rfl (en rfl (en rfl (en rfl s134))))
                have s137 := (hg 137).trans (en rfl (en rfl (en rfl (en rfl s137))))
                have s138 := (hg 138).trans (en rfl (en rfl (en rfl (en rfl s138))))
                have s139 := (hg 139).trans (en rfl (en rfl (en rfl (en rfl s139))))
                have s169 := (hg 169).trans (en rfl (en rfl (en rfl (en rfl s169))))
                have s171 := (hg 171).trans (en rfl (en rfl es))
                have s172 := (hg 172).trans (en rfl es)
                have s173 := (hg 173).trans es
                clear hg
                refine xc_block ?_
                obtain ⟨G46, hG46⟩ : ∃ g0 : Nat → Value, g0 = g := ⟨_, rfl⟩
                have zG46_0 : G46 0 = _ := (congrFun hG46 0).trans s0
                have zG46_1 : G46 1 = _ := (congrFun hG46 1).trans s1
                have zG46_3 : G46 3 = _ := (congrFun hG46 3).trans s3
                have zG46_5 : G46 5 = _ := (congrFun hG46 5).trans s5
                have zG46_8 : G46 8 = _ := (congrFun hG46 8).trans s8
                have zG46_9 : G46 9 = _ := (congrFun hG46 9).trans s9
                have zG46_13 : G46 13 = _ := (congrFun hG46 13).trans s13
                have zG46_14 : G46 14 = _ := (congrFun hG46 14).trans s14
                have zG46_15 : G46 15 = _ := (congrFun hG46 15).trans s15
                have zG46_30 : G46 30 = _ := (congrFun hG46 30).trans s30
                have zG46_36 : G46 36 = _ := (congrFun hG46 36).trans s36
                have zG46_37 : G46 37 = _ := (congrFun hG46 37).trans s37
                have zG46_38 : G46 38 = _ := (congrFun hG46 38).trans s38
                have zG46_39 : G46 39 = _ := (congrFun hG46 39).trans s39
                have zG46_77 : G46 77 = _ := (congrFun hG46 77).trans s77
                have zG46_99 : G46 99 = _ := (congrFun hG46 99).trans s99
                have zG46_100 : G46 100 = _ := (congrFun hG46 100).trans s100
                have zG46_101 : G46 101 = _ := (congrFun hG46 101).trans s101
                have zG46_125 : G46 125 = _ := (congrFun hG46 125).trans s125
                have zG46_134 : G46 134 = _ := (congrFun hG46 134).trans s134
                have zG46_137 : G46 137 = _ := (congrFun hG46 137).trans s137
                have zG46_138 : G46 138 = _ := (congrFun hG46 138).trans s138
                have zG46_139 : G46 139 = _ := (congrFun hG46 139).trans s139
                have zG46_169 : G46 169 = _ := (congrFun hG46 169).trans s169
                have zG46_171 : G46 171 = _ := (congrFun hG46 171).trans s171
                have zG46_172 : G46 172 = _ := (congrFun hG46 172).trans s172
                refine xc_loop (fun m f w => (∃ (q : Nat), m = oa.cs.length - q ∧ q ≤ oa.cs.length ∧ f 173 = .int .i64 (q : Int) ∧ SatL E w (ARow (.slice a5 (l).length c5) (l) :: Pa b LL B2 :: XRow (.slice (some adu) ys.length cu) ys :: RowsL ys L :: Cells b3 #[.int .i64 oa.kind, .int .i64 oa.k, .int .i64 oa.m, .slice al oa.ls.length cl, .slice ax oa.cs.length cx] 26 :: Old W :: R)) ∧ (f 0 = G46 0 ∧ f 1 = G46 1 ∧ f 3 = G46 3 ∧ f 5 = G46 5 ∧ f 8 = G46 8 ∧ f 9 = G46 9 ∧ f 13 = G46 13 ∧ f 14 = G46 14 ∧ f 15 = G46 15 ∧ f 30 = G46 30 ∧ f 36 = G46 36 ∧ f 37 = G46 37 ∧ f 38 = G46 38 ∧ f 39 = G46 39 ∧ f 77 = G46 77 ∧ f 99 = G46 99 ∧ f 100 = G46 100 ∧ f 101 = G46 101 ∧ f 125 = G46 125 ∧ f 134 = G46 134 ∧ f 137 = G46 137 ∧ f 138 = G46 138 ∧ f 139 = G46 139 ∧ f 169 = G46 169 ∧ f 171 = G46 171 ∧ f 172 = G46 172)) (oa.cs.length) ⟨⟨0, by omega, by omega, s173, h⟩, ⟨congrFun hG46.symm 0, congrFun hG46.symm 1, congrFun hG46.symm 3, congrFun hG46.symm 5, congrFun hG46.symm 8, congrFun hG46.symm 9, congrFun hG46.symm 13, congrFun hG46.symm 14, congrFun hG46.symm 15, congrFun hG46.symm 30, congrFun hG46.symm 36, congrFun hG46.symm 37, congrFun hG46.symm 38, congrFun hG46.symm 39, congrFun hG46.symm 77, congrFun hG46.symm 99, congrFun hG46.symm 100, congrFun hG46.symm 101, congrFun hG46.symm 125, congrFun hG46.symm 134, congrFun hG46.symm 137, congrFun hG46.symm 138, congrFun hG46.symm 139, congrFun hG46.symm 169, congrFun hG46.symm 171, congrFun hG46.symm 172⟩⟩ ?_
                rintro m g w ⟨⟨q, hm3, hq, s173, h⟩, ⟨y0, y1, y3, y5, y8, y9, y13, y14, y15, y30, y36, y37, y38, y39, y77, y99, y100, y101, y125, y134, y137, y138, y139, y169, y171, y172⟩⟩
                have s0 := y0.trans zG46_0
                have s1 := y1.trans zG46_1
                have s3 := y3.trans zG46_3
                have s5 := y5.trans zG46_5
                have s8 := y8.trans zG46_8
                have s9 := y9.trans zG46_9
                have s13 := y13.trans zG46_13
                have s14 := y14.trans zG46_14
                have s15 := y15.trans zG46_15
                have s30 := y30.trans zG46_30
                have s36 := y36.trans zG46_36
                have s37 := y37.trans zG46_37
                have s38 := y38.trans zG46_38
                have s39 := y39.trans zG46_39
                have s77 := y77.trans zG46_77
                have s99 := y99.trans zG46_99
                have s100 := y100.trans zG46_100
                have s101 := y101.trans zG46_101
                have s125 := y125.trans zG46_125
                have s134 := y134.trans zG46_134
                have s137 := y137.trans zG46_137
                have s138 := y138.trans zG46_138
                have s139 := y139.trans zG46_139
                have s169 := y169.trans zG46_169
                have s171 := y171.trans zG46_171
                have s172 := y172.trans zG46_172
                refine xc_seq (fun K hK47 => ?_)
                refine xc_region ?_
                refine x_val (r_lss s173 s172 rfl) (nd_of rfl) rfl ?_
                refine xw_nil ?_
                refine hK47 _ _ ?_
                refine xc_gen (fun g hg => ?_)
                have s0 := (hg 0).trans (en rfl s0)
                have s1 := (hg 1).trans (en rfl s1)
                have s3 := (hg 3).trans (en rfl s3)
                have s5 := (hg 5).trans (en rfl s5)
                have s8 := (hg 8).trans (en rfl s8)
                have s9 := (hg 9).trans (en rfl s9)
                have s13 := (hg 13).trans (en rfl s13)
                have s14 := (hg 14).trans (en rfl s14)
                have s15 := (hg 15).trans (en rfl s15)
                have s30 := (hg 30).trans (en rfl s30)
                have s36 := (hg 36).trans (en rfl s36)
                have s37 := (hg 37).trans (en rfl s37)
                have s38 := (hg 38).trans (en rfl s38)
                have s39 := (hg 39).trans (en rfl s39)
                have s77 := (hg 77).trans (en rfl s77)
                have s99 := (hg 99).trans (en rfl s99)
                have s100 := (hg 100).trans (en rfl s100)
                have s101 := (hg 101).trans (en rfl s101)
                have s125 := (hg 125).trans (en rfl s125)
                have s134 := (hg 134).trans (en rfl s134)
                have s137 := (hg 137).trans (en rfl s137)
                have s138 := (hg 138).trans (en rfl s138)
                have s139 := (hg 139).trans (en rfl s139)
                have s169 := (hg 169).trans (en rfl s169)
                have s171 := (hg 171).trans (en rfl s171)
                have s172 := (hg 172).trans (en rfl s172)
                have s173 := (hg 173).trans (en rfl s173)
                have s174 := (hg 174).trans es
                clear hg
                refine xc_seq (fun K hK48 => ?_)
                refine xc_cond s174 (fun hc => ?_) (fun hc => ?_)
                ·
                  refine xc_skip ?_
                  refine hK48 _ _ ?_
                  refine xc_seq (fun K hK49 => ?_)
                  refine xc_block ?_
                  refine xc_seq (fun K hK50 => ?_)
                  have hql : q < oa.cs.length := by have := of_decide_eq_true hc; omega
                  obtain ⟨c, hcx⟩ : ∃ c, oa.cs[q]? = some c := ⟨_, List.getElem?_eq_getElem hql⟩
                  have hcm := List.mem_of_getElem? hcx
                  obtain ⟨ad3, rfl, hcell3⟩ := hrdx q c hcx
                  have hokc := ok_cg c
                  refine xc_region ?_
                  refine x_val (r_indexAny Try.underlying24 Try.sizeOf46 s171 s173 (by omega) (by omega)) (nd_of rfl) rfl ?_
                  refine x_val (r_loadAggAt (cs := cgC c) Try.isAgg46 Try.sizeOf46 es rfl (fun j u hj => h.oldCell 5 rfl (hcell3 j u hj))) (nd_of rfl) rfl ?_
                  refine x_declA h Try.zeroValue46 Try.sizeOf46 rfl (en rfl es) (by first | assumption | exact Ok.node (by assumption) | exact xOk.cells (by assumption) | exact ChOk.ok (by assumption)) rfl ?_
                  intro b17 w h
                  refine xw_nil ?_
                  refine hK50 _ _ ?_
                  refine xc_gen (fun g hg => ?_)
                  have s0 := (hg 0).trans (en rfl (en rfl (en rfl s0)))
                  have s1 := (hg 1).trans (en rfl (en rfl (en rfl s1)))
                  have s3 := (hg 3).trans (en rfl (en rfl (en rfl s3)))
                  have s5 := (hg 5).trans (en rfl (en rfl (en rfl s5)))
                  have s8 := (hg 8).trans (en rfl (en rfl (en rfl s8)))
                  have s9 := (hg 9).trans (en rfl (en rfl (en rfl s9)))
                  have s13 := (hg 13).trans (en rfl (en rfl (en rfl s13)))
                  have s14 := (hg 14).trans (en rfl (en rfl (en rfl s14)))
                  have s15 := (hg 15).trans (en rfl (en rfl (en rfl s15)))
                  have s17 := (hg 17).trans es
                  have s30 := (hg 30).trans (en rfl (en rfl (en rfl s30)))
                  have s36 := (hg 36).trans (en rfl (en rfl (en rfl s36)))
                  have s37 := (hg 37).trans (en rfl (en rfl (en rfl s37)))
                  have s38 := (hg 38).trans (en rfl (en rfl (en rfl s38)))
                  have s39 := (hg 39).trans (en rfl (en rfl (en rfl s39)))
                  have s77 := (hg 77).trans (en rfl (en rfl (en rfl s77)))
                  have s99 := (hg 99).trans (en rfl (en rfl (en rfl s99)))
                  have s100 := (hg 100).trans (en rfl (en rfl (en rfl s100)))
                  have s101 := (hg 101).trans (en rfl (en rfl (en rfl s101)))
                  have s125 := (hg 125).trans (en rfl (en rfl (en rfl s125)))
                  have s134 := (hg 134).trans (en rfl (en rfl (en rfl s134)))
                  have s137 := (hg 137).trans (en rfl (en rfl (en rfl s137)))
                  have s138 := (hg 138).trans (en rfl (en rfl (en rfl s138)))
                  have s139 := (hg 139).trans (en rfl (en rfl (en rfl s139)))
                  have s169 := (hg 169).trans (en rfl (en rfl (en rfl s169)))
                  have s171 := (hg 171).trans (en rfl (en rfl (en rfl s171)))
                  have s172 := (hg 172).trans (en rfl (en rfl (en rfl s172)))
                  have s173 := (hg 173).trans (en rfl (en rfl (en rfl s173)))
                  have s174 := (hg 174).trans (en rfl (en rfl (en rfl s174)))
                  clear hg
                  refine xc_seq (fun K hK51 => ?_)
                  have h : SatL E w (Cells b17 #[.int .i64 c.1, .bool c.2.1, .int .u8 c.2.2.1, .int .i64 c.2.2.2.1, .int .u64 c.2.2.2.2.1, .string c.2.2.2.2.2] 46 :: _) := h
                  refine xc_region ?_
                  refine x_val (r_move s14) (nd_of rfl) rfl ?_
                  refine x_val (r_fieldAddr (o' := 0) Try.underlying46 rfl Try.sizeOf3 rfl (en rfl s17) rfl) (nd_of rfl) rfl ?_
                  refine x_val (r_load h 0 rfl Try.isAgg3 es gc0) (nd_of rfl) rfl ?_
                  refine x_enter (r_call Try.call17 (.cons (en rfl (en rfl es)) (.cons es .nil))) (nd_of rfl) rfl (get_any hrl2 ((a_row h.f1).weak (fun _ h => h.f1)) (by omega) h) ?_
                  rintro _ w ⟨z, bz, rfl, hz, h⟩
                  refine x_val (r_move es) (nd_of rfl) rfl ?_
                  refine x_val (r_extract es gc0) (nd_of rfl) rfl ?_
                  refine x_val (r_extract (en rfl es) gc1) (nd_of rfl) rfl ?_
                  refine x_declA h Try.zeroValue44 Try.sizeOf44 rfl (en rfl (en rfl es)) (by first | assumption | exact Ok.node (by assumption) | exact xOk.cells (by assumption) | exact ChOk.ok (by assumption)) rfl ?_
                  intro b18 w h
                  refine x_val (r_assign (en rfl es)) (nd_of rfl) rfl ?_
                  refine xw_nil ?_
                  refine hK51 _ _ ?_
                  refine xc_gen (fun g hg => ?_)
                  have s0 := (hg 0).trans (en rfl (en rfl (en rfl (en rfl (en rfl (en rfl (en rfl (en rfl (en rfl s0)))))))))
                  have s1 := (hg 1).trans (en rfl (en rfl (en rfl (en rfl (en rfl (en rfl (en rfl (en rfl (en rfl s1)))))))))
                  have s3 := (hg 3).trans (en rfl (en rfl (en rfl (en rfl (en rfl (en rfl (en rfl (en rfl (en rfl s3)))))))))
                  have s5 := (hg 5).trans (en rfl (en rfl (en rfl (en rfl (en rfl (en rfl (en rfl (en rfl (en rfl s5)))))))))
                  have s8 := (hg 8).trans (en rfl (en rfl (en rfl (en rfl (en rfl (en rfl (en rfl (en rfl (en rfl s8)))))))))
                  have s9 := (hg 9).trans (en rfl (en rfl (en rfl (en rfl (en rfl (en rfl (en rfl (en rfl (en rfl s9)))))))))
                  have s13 := (hg 13).trans (en rfl (en rfl (en rfl (en rfl (en rfl (en rfl (en rfl (en rfl (en rfl s13)))))))))
                  have s14 := (hg 14).trans (en rfl (en rfl (en rfl (en rfl (en rfl (en rfl (en rfl (en rfl (en rfl s14)))))))))
                  have s15 := (hg 15).trans (en rfl (en rfl (en rfl (en rfl (en rfl (en rfl (en rfl (en rfl (en rfl s15)))))))))
                  have s17 := (hg 17).trans (en rfl (en rfl (en rfl (en rfl (en rfl (en rfl (en rfl (en rfl (en rfl s17)))))))))
                  have s18 := (hg 18).trans (en rfl es)
                  have s19 := (hg 19).trans es
                  have s30 := (hg 30).trans (en rfl (en rfl (en rfl (en rfl (en rfl (en rfl (en rfl (en rfl (en rfl s30)))))))))
                  have s36 := (hg 36).trans (en rfl (en rfl (en rfl (en rfl (en rfl (en rfl (en rfl (en rfl (en rfl s36)))))))))
                  have s37 := (hg 37).trans (en rfl (en rfl (en rfl (en rfl (en rfl (en rfl (en rfl (en rfl (en rfl s37)))))))))
                  have s38 := (hg 38).trans (en rfl (en rfl (en rfl (en rfl (en rfl (en rfl (en rfl (en rfl (en rfl s38)))))))))
                  have s39 := (hg 39).trans (en rfl (en rfl (en rfl (en rfl (en rfl (en rfl (en rfl (en rfl (en rfl s39)))))))))
                  have s77 := (hg 77).trans (en rfl (en rfl (en rfl (en rfl (en rfl (en rfl (en rfl (en rfl (en rfl s77)))))))))
                  have s99 := (hg 99).trans (en rfl (en rfl (en rfl (en rfl (en rfl (en rfl (en rfl (en rfl (en rfl s99)))))))))
                  have s100 := (hg 100).trans (en rfl (en rfl (en rfl (en rfl (en rfl (en rfl (en rfl (en rfl (en rfl s100)))))))))
                  have s101 := (hg 101).trans (en rfl (en rfl (en rfl (en rfl (en rfl (en rfl (en rfl (en rfl (en rfl s101)))))))))
                  have s125 := (hg 125).trans (en rfl (en rfl (en rfl (en rfl (en rfl (en rfl (en rfl (en rfl (en rfl s125)))))))))
                  have s134 := (hg 134).trans (en rfl (en rfl (en rfl (en rfl (en rfl (en rfl (en rfl (en rfl (en rfl s134)))))))))
                  have s137 := (hg 137).trans (en rfl (en rfl (en rfl (en rfl (en rfl (en rfl (en rfl (en rfl (en rfl s137)))))))))
                  have s138 := (hg 138).trans (en rfl (en rfl (en rfl (en rfl (en rfl (en rfl (en rfl (en rfl (en rfl s138)))))))))
                  have s139 := (hg 139).trans (en rfl (en rfl (en rfl (en rfl (en rfl (en rfl (en rfl (en rfl (en rfl s139)))))))))
                  have s169 := (hg 169).trans (en rfl (en rfl (en rfl (en rfl (en rfl (en rfl (en rfl (en rfl (en rfl s169)))))))))
                  have s171 := (hg 171).trans (en rfl (en rfl (en rfl (en rfl (en rfl (en rfl (en rfl (en rfl (en rfl s171)))))))))
                  have s172 := (hg 172).trans (en rfl (en rfl (en rfl (en rfl (en rfl (en rfl (en rfl (en rfl (en rfl s172)))))))))
                  have s173 := (hg 173).trans (en rfl (en rfl (en rfl (en rfl (en rfl (en rfl (en rfl (en rfl (en rfl s173)))))))))
                  have s174 := (hg 174).trans (en rfl (en rfl (en rfl (en rfl (en rfl (en rfl (en rfl (en rfl (en rfl s174)))))))))
                  clear hg
                  refine xc_seq (fun K hK52 => ?_)
                  refine xc_region ?_
                  refine x_val (r_move s13) (nd_of rfl) rfl ?_
                  refine x_val (r_fieldAddr (o' := 1) Try.underlying26 rfl Try.sizeOf3 rfl (en rfl s3) rfl) (nd_of rfl) rfl ?_
                  refine x_val (r_load h 6 rfl Try.isAgg3 es gc1) (nd_of rfl) rfl ?_
                  refine x_val (r_geq (en rfl (en rfl es)) es (decide_eq_false (by omega))) (nd_of rfl) rfl ?_
                  refine x_val (r_move es) (nd_of rfl) rfl ?_
                  refine x_pass (d := 188) rfl rfl es rfl ?_
                  refine x_pass (d := 188) rfl rfl (en rfl es) rfl ?_
                  refine x_pass (d := 188) rfl rfl (en rfl (en rfl es)) rfl ?_
                  refine x_pass (d := 188) rfl rfl (en rfl (en rfl (en rfl es))) rfl ?_
                  refine x_val (r_pick_f (en rfl (en rfl (en rfl (en rfl es)))) ec) (nd_of rfl) rfl ?_
                  refine x_val (r_move es) (nd_of rfl) rfl ?_
                  refine x_pass (d := 194) rfl rfl es rfl ?_
                  refine x_pass (d := 194) rfl rfl (en rfl es) rfl ?_
                  refine x_pass (d := 194) rfl rfl (en rfl (en rfl es)) rfl ?_
                  refine x_pass (d := 194) rfl rfl (en rfl (en rfl (en rfl es))) rfl ?_
                  refine x_pass (d := 194) rfl rfl (en rfl (en rfl (en rfl (en rfl es)))) rfl ?_
                  refine x_pass0 (d := 199) rfl rfl es rfl ?_
                  refine x_pass0 (d := 199) rfl rfl (en rfl es) rfl ?_
                  refine x_pass0 (d := 201) rfl rfl es rfl ?_
                  refine x_pass0 (d := 201) rfl rfl (en rfl es) rfl ?_
                  refine x_pass0 (d := 201) rfl rfl (en rfl (en rfl es)) rfl ?_
                  refine x_pass0 (d := 201) rfl rfl (en rfl (en rfl (en rfl es))) rfl ?_
                  refine x_pass0 (d := 199) rfl rfl (en rfl (en rfl (en rfl (en rfl (en rfl (en rfl es)))))) rfl ?_
                  refine x_pass (d := 194) rfl rfl (en rfl (en rfl (en rfl (en rfl (en rfl (en rfl (en rfl (en rfl (en rfl (en rfl (en rfl (en rfl es)))))))))))) rfl ?_
                  refine x_val (r_pick_f (en rfl (en rfl (en rfl (en rfl (en rfl (en rfl (en rfl (en rfl (en rfl (en rfl (en rfl (en rfl (en rfl es))))))))))))) ec) (nd_of rfl) rfl ?_
                  refine xw_nil ?_
                  refine hK52 _ _ ?_
                  refine xc_gen (fun g hg => ?_)
                  have s0 := (hg 0).trans (en rfl (en rfl (en rfl (en rfl (en rfl (en rfl (en rfl (en rfl (en rfl (en rfl (en rfl (en rfl (en rfl (en rfl (en rfl (en rfl (en rfl (en rfl (en rfl (en rfl (en rfl (en rfl (en rfl (en rfl (en rfl s0)))))))))))))))))))))))))
                  have s1 := (hg 1).trans (en rfl (en rfl (en rfl (en rfl (en rfl (en rfl (en rfl (en rfl (en rfl (en rfl (en rfl (en rfl (en rfl (en rfl (en rfl (en rfl (en rfl (en rfl (en rfl (en rfl (en rfl (en rfl (en rfl (en rfl (en rfl s1)))))))))))))))))))))))))
                  have s3 := (hg 3).trans (en rfl (en rfl (en rfl (en rfl (en rfl (en rfl (en rfl (en rfl (en rfl (en rfl (en rfl (en rfl (en rfl (en rfl (en rfl (en rfl (en rfl (en rfl (en rfl (en rfl (en rfl (en rfl (en rfl (en rfl (en rfl s3)))))))))))))))))))))))))
                  have s5 := (hg 5).trans (en rfl (en rfl (en rfl (en rfl (en rfl (en rfl (en rfl (en rfl (en rfl (en rfl (en rfl (en rfl (en rfl (en rfl (en rfl (en rfl (en rfl (en rfl (en rfl (en rfl (en rfl (en rfl (en rfl (en rfl (en rfl s5)))))))))))))))))))))))))
                  have s8 := (hg 8).trans (en rfl (en rfl (en rfl (en rfl (en rfl (en rfl (en rfl (en rfl (en rfl (en rfl (en rfl (en rfl (en rfl (en rfl (en rfl (en rfl (en rfl (en rfl (en rfl (en rfl (en rfl (en rfl (en rfl (en rfl (en rfl s8)))))))))))))))))))))))))
                  have s9 := (hg 9).trans (en rfl (en rfl (en rfl (en rfl (en rfl (en rfl (en rfl (en rfl (en rfl (en rfl (en rfl (en rfl (en rfl (en rfl (en rfl (en rfl (en rfl (en rfl (en rfl (en rfl (en rfl (en rfl (en rfl (en rfl (en rfl s9)))))))))))))))))))))))))
                  have s13 := (hg 13).trans (en rfl (en rfl (en rfl (en rfl (en rfl (en rfl (en rfl (en rfl (en rfl (en rfl (en rfl (en rfl (en rfl (en rfl (en rfl (en rfl (en rfl (en rfl (en rfl (en rfl (en rfl (en rfl (en rfl (en rfl (en rfl s13)))))))))))))))))))))))))
                  have s14 := (hg 14).trans (en rfl (en rfl (en rfl (en rfl (en rfl (en rfl (en rfl (en rfl (en rfl (en rfl (en rfl (en rfl (en rfl (en rfl (en rfl (en rfl (en rfl (en rfl (en rfl (en rfl (en rfl (en rfl (en rfl (en rfl (en rfl s14)))))))))))))))))))))))))
                  have s15 := (hg 15).trans (en rfl (en rfl (en rfl (en rfl (en rfl (en rfl (en rfl (en rfl (en rfl (en rfl (en rfl (en rfl (en rfl (en rfl (en rfl (en rfl (en rfl (en rfl (en rfl (en rfl (en rfl (en rfl (en rfl (en rfl (en rfl s15)))))))))))))))))))))))))
                  have s17 := (hg 17).trans (en rfl (en rfl (en rfl (en rfl (en rfl (en rfl (en rfl (en rfl (en rfl (en rfl (en rfl (en rfl (en rfl (en rfl (en rfl (en rfl (en rfl (en rfl (en rfl (en rfl (en rfl (en rfl (en rfl (en rfl (en rfl s17)))))))))))))))))))))))))
                  have s18 := (hg 18).trans (en rfl (en rfl (en rfl (en rfl (en rfl (en rfl (en rfl (en rfl (en rfl (en rfl (en rfl (en rfl (en rfl (en rfl (en rfl (en rfl (en rfl (en rfl (en rfl (en rfl (en rfl (en rfl (en rfl (en rfl (en rfl s18)))))))))))))))))))))))))
                  have s19 := (hg 19).trans (en rfl (en rfl (en rfl (en rfl (en rfl (en rfl (en rfl (en rfl (en rfl (en rfl (en rfl (en rfl (en rfl (en rfl (en rfl (en rfl (en rfl (en rfl (en rfl (en rfl (en rfl (en rfl (en rfl (en rfl (en rfl s19)))))))))))))))))))))))))
                  have s30 := (hg 30).trans (en rfl (en rfl (en rfl (en rfl (en rfl (en rfl (en rfl (en rfl (en rfl (en rfl (en rfl (en rfl (en rfl (en rfl (en rfl (en rfl (en rfl (en rfl (en rfl (en rfl (en rfl (en rfl (en rfl (en rfl (en rfl s30)))))))))))))))))))))))))
                  have s36 := (hg 36).trans (en rfl (en rfl (en rfl (en rfl (en rfl (en rfl (en rfl (en rfl (en rfl (en rfl (en rfl (en rfl (en rfl (en rfl (en rfl (en rfl (en rfl (en rfl (en rfl (en rfl (en rfl (en rfl (en rfl (en rfl (en rfl s36)))))))))))))))))))))))))
                  have s37 := (hg 37).trans (en rfl (en rfl (en rfl (en rfl (en rfl (en rfl (en rfl (en rfl (en rfl (en rfl (en rfl (en rfl (en rfl (en rfl (en rfl (en rfl (en rfl (en rfl (en rfl (en rfl (en rfl (en rfl (en rfl (en rfl (en rfl s37)))))))))))))))))))))))))
                  have s38 := (hg 38).trans (en rfl (en rfl (en rfl (en rfl (en rfl (en rfl (en rfl (en rfl (en rfl (en rfl (en rfl (en rfl (en rfl (en rfl (en rfl (en rfl (en rfl (en rfl (en rfl (en rfl (en rfl (en rfl (en rfl (en rfl (en rfl s38)))))))))))))))))))))))))
                  have s39 := (hg 39).trans (en rfl (en rfl (en rfl (en rfl (en rfl (en rfl (en rfl (en rfl (en rfl (en rfl (en rfl (en rfl (en rfl (en rfl (en rfl (en rfl (en rfl (en rfl (en rfl (en rfl (en rfl (en rfl (en rfl (en rfl (en rfl s39)))))))))))))))))))))))))
                  have s77 := (hg 77).trans (en rfl (en rfl (en rfl (en rfl (en rfl (en rfl (en rfl (en rfl (en rfl (en rfl (en rfl (en rfl (en rfl (en rfl (en rfl (en rfl (en rfl (en rfl (en rfl (en rfl (en rfl (en rfl (en rfl (en rfl (en rfl s77)))))))))))))))))))))))))
                  have s99 := (hg 99).trans (en rfl (en rfl (en rfl (en rfl (en rfl (en rfl (en rfl (en rfl (en rfl (en rfl (en rfl (en rfl (en rfl (en rfl (en rfl (en rfl (en rfl (en rfl (en rfl (en rfl (en rfl (en rfl (en rfl (en rfl (en rfl s99)))))))))))))))))))))))))
                  have s100 := (hg 100).trans (en rfl (en rfl (en rfl (en rfl (en rfl (en rfl (en rfl (en rfl (en rfl (en rfl (en rfl (en rfl (en rfl (en rfl (en rfl (en rfl (en rfl (en rfl (en rfl (en rfl (en rfl (en rfl (en rfl (en rfl (en rfl s100)))))))))))))))))))))))))
                  have s101 := (hg 101).trans (en rfl (en rfl (en rfl (en rfl (en rfl (en rfl (en rfl (en rfl (en rfl (en rfl (en rfl (en rfl (en rfl (en rfl (en rfl (en rfl (en rfl (en rfl (en rfl (en rfl (en rfl (en rfl (en rfl (en rfl (en rfl s101)))))))))))))))))))))))))
                  have s125 := (hg 125).trans (en rfl (en rfl (en rfl (en rfl (en rfl (en rfl (en rfl (en rfl (en rfl (en rfl (en rfl (en rfl (en rfl (en rfl (en rfl (en rfl (en rfl (en rfl (en rfl (en rfl (en rfl (en rfl (en rfl (en rfl (en rfl s125)))))))))))))))))))))))))
                  have s134 := (hg 134).trans (en rfl (en rfl (en rfl (en rfl (en rfl (en rfl (en rfl (en rfl (en rfl (en rfl (en rfl (en rfl (en rfl (en rfl (en rfl (en rfl (en rfl (en rfl (en rfl (en rfl (en rfl (en rfl (en rfl (en rfl (en rfl s134)))))))))))))))))))))))))
                  have s137 := (hg 137).trans (en rfl (en rfl (en rfl (en rfl (en rfl (en rfl (en rfl (en rfl (en rfl (en rfl (en rfl (en rfl (en rfl (en rfl (en rfl (en rfl (en rfl (en rfl (en rfl (en rfl (en rfl (en rfl (en rfl (en rfl (en rfl s137)))))))))))))))))))))))))
                  have s138 := (hg 138).trans (en rfl (en rfl (en rfl (en rfl (en rfl (en rfl (en rfl (en rfl (en rfl (en rfl (en rfl (en rfl (en rfl (en rfl (en rfl (en rfl (en rfl (en rfl (en rfl (en rfl (en rfl (en rfl (en rfl (en rfl (en rfl s138)))))))))))))))))))))))))
                  have s139 := (hg 139).trans (en rfl (en rfl (en rfl (en rfl (en rfl (en rfl (en rfl (en rfl (en rfl (en rfl (en rfl (en rfl (en rfl (en rfl (en rfl (en rfl (en rfl (en rfl (en rfl (en rfl (en rfl (en rfl (en rfl (en rfl (en rfl s139)))))))))))))))))))))))))
                  have s169 := (hg 169).trans (en rfl (en rfl (en rfl (en rfl (en rfl (en rfl (en rfl (en rfl (en rfl (en rfl (en rfl (en rfl (en rfl (en rfl (en rfl (en rfl (en rfl (en rfl (en rfl (en rfl (en rfl (en rfl (en rfl (en rfl (en rfl s169)))))))))))))))))))))))))
                  have s171 := (hg 171).trans (en rfl (en rfl (en rfl (en rfl (en rfl (en rfl (en rfl (en rfl (en rfl (en rfl (en rfl (en rfl (en rfl (en rfl (en rfl (en rfl (en rfl (en rfl (en rfl (en rfl (en rfl (en rfl (en rfl (en rfl (en rfl s171)))))))))))))))))))))))))
                  have s172 := (hg 172).trans (en rfl (en rfl (en rfl (en rfl (en rfl (en rfl (en rfl (en rfl (en rfl (en rfl (en rfl (en rfl (en rfl (en rfl (en rfl (en rfl (en rfl (en rfl (en rfl (en rfl (en rfl (en rfl (en rfl (en rfl (en rfl s172)))))))))))))))))))))))))
                  have s173 := (hg 173).trans (en rfl (en rfl (en rfl (en rfl (en rfl (en rfl (en rfl (en rfl (en rfl (en rfl (en rfl (en rfl (en rfl (en rfl (en rfl (en rfl (en rfl (en rfl (en rfl (en rfl (en rfl (en rfl (en rfl (en rfl (en rfl s173)))))))))))))))))))))))))
                  have s174 := (hg 174).trans (en rfl (en rfl (en rfl (en rfl (en rfl (en rfl (en rfl (en rfl (en rfl (en rfl (en rfl (en rfl (en rfl (en rfl (en rfl (en rfl (en rfl (en rfl (en rfl (en rfl (en rfl (en rfl (en rfl (en rfl (en rfl s174)))))))))))))))))))))))))
                  have s208 := (hg 208).trans es
                  clear hg
                  refine xc_cond s208 (fun hc => by cases hc) (fun _ => ?_)
                  refine xc_skip ?_
                  refine hK49 _ _ ?_
                  refine xc_region ?_
                  refine x_val (r_add s173 ec (show _ = (((q + 1 : Nat) : Int) : Int) from by omega) (by unfold I64; omega)) (nd_of rfl) rfl ?_
                  refine x_val (r_move es) (nd_of rfl) rfl ?_
                  refine xw_nil ?_
                  have h := h.f1
                  have h := h.f6
                  have h := h.f6
                  have h := h.f6
                  have h := h.f6
                  have h := h.f6
                  exact ⟨oa.cs.length - (q + 1), by omega, ⟨q + 1, rfl, by omega, es, h.f5.drop.f5.drop⟩, ⟨((en rfl (en rfl s0))).trans zG46_0.symm, ((en rfl (en rfl s1))).trans zG46_1.symm, ((en rfl (en rfl s3))).trans zG46_3.symm, ((en rfl (en rfl s5))).trans zG46_5.symm, ((en rfl (en rfl s8))).trans zG46_8.symm, ((en rfl (en rfl s9))).trans zG46_9.symm, ((en rfl (en rfl s13))).trans zG46_13.symm, ((en rfl (en rfl s14))).trans zG46_14.symm, ((en rfl (en rfl s15))).trans zG46_15.symm, ((en rfl (en rfl s30))).trans zG46_30.symm, ((en rfl (en rfl s36))).trans zG46_36.symm, ((en rfl (en rfl s37))).trans zG46_37.symm, ((en rfl (en rfl s38))).trans zG46_38.symm, ((en rfl (en rfl s39))).trans zG46_39.symm, ((en rfl (en rfl s77))).trans zG46_77.symm, ((en rfl (en rfl s99))).trans zG46_99.symm, ((en rfl (en rfl s100))).trans zG46_100.symm, ((en rfl (en rfl s101))).trans zG46_101.symm, ((en rfl (en rfl s125))).trans zG46_125.symm, ((en rfl (en rfl s134))).trans zG46_134.symm, ((en rfl (en rfl s137))).trans zG46_137.symm, ((en rfl (en rfl s138))).trans zG46_138.symm, ((en rfl (en rfl s139))).trans zG46_139.symm, ((en rfl (en rfl s169))).trans zG46_169.symm, ((en rfl (en rfl s171))).trans zG46_171.symm, ((en rfl (en rfl s172))).trans zG46_172.symm⟩⟩
                ·
                  refine xc_exit ?_
                  refine hK40 _ _ ?_
                  refine xc_region ?_
                  refine x_val (r_add s138 ec (show _ = (((k + 1 : Nat) : Int) : Int) from by omega) (by unfold I64; omega)) (nd_of rfl) rfl ?_
                  refine x_val (r_move es) (nd_of rfl) rfl ?_
                  refine xw_nil ?_
                  have h := h.f4
                  have h := h.f4
                  have h := h.f4
                  have h := h.f4
                  exact ⟨ys.length - (k + 1), by omega, ⟨k + 1, rfl, by omega, es, h.f4.drop⟩, ⟨((en rfl (en rfl s0))).trans zG37_0.symm, ((en rfl (en rfl s1))).trans zG37_1.symm, ((en rfl (en rfl s3))).trans zG37_3.symm, ((en rfl (en rfl s5))).trans zG37_5.symm, ((en rfl (en rfl s8))).trans zG37_8.symm, ((en rfl (en rfl s9))).trans zG37_9.symm, ((en rfl (en rfl s30))).trans zG37_30.symm, ((en rfl (en rfl s36))).trans zG37_36.symm, ((en rfl (en rfl s37))).trans zG37_37.symm, ((en rfl (en rfl s38))).trans zG37_38.symm, ((en rfl (en rfl s39))).trans zG37_39.symm, ((en rfl (en rfl s77))).trans zG37_77.symm, ((en rfl (en rfl s99))).trans zG37_99.symm, ((en rfl (en rfl s100))).trans zG37_100.symm, ((en rfl (en rfl s101))).trans zG37_101.symm, ((en rfl (en rfl s125))).trans zG37_125.symm, ((en rfl (en rfl s134))).trans zG37_134.symm, ((en rfl (en rfl s137))).trans zG37_137.symm⟩⟩
              ·
                skip
                rcases Int.lt_or_le (k : Int) oa.m with hk2 | hk2
                ·
                  skip
                  refine xc_seq (fun K hK53 => ?_)
                  have hl2 : LL[k]? = some (applyL l oa.cs) := by rw [hLL]; exact pat_in hp2 hk1 hk2 hl
                  have hle2 := hI3.each _ (List.mem_of_getElem? hl2)
                  have hrl2 := hle2.2.1
                  refine xc_region ?_
                  refine x_val (r_move s5) (nd_of rfl) rfl ?_
                  refine x_val (r_move (en rfl s13)) (nd_of rfl) rfl ?_
                  refine x_enter (r_call Try.call15 (.cons (en rfl es) (.cons es .nil))) (nd_of rfl) rfl (atP (n := k) hl2 (by omega) (by omega) h) ?_
                  rintro _ w ⟨v5, rfl, h⟩
                  obtain ⟨a5, c5, rfl, _, _⟩ := h.rowVal
                  refine x_val (r_move es) (nd_of rfl) rfl ?_
                  refine x_val (r_extract es gc0) (nd_of rfl) rfl ?_
                  refine x_val (r_extract (en rfl es) gc1) (nd_of rfl) rfl ?_
                  refine x_val (r_assign (en rfl es)) (nd_of rfl) rfl ?_
                  refine x_val (r_assign (en rfl es)) (nd_of rfl) rfl ?_
                  refine xw_nil ?_
                  refine hK53 _ _ ?_
                  refine xc_gen (fun g hg => ?_)
                  have s0 := (hg 0).trans (en rfl (en rfl (en rfl (en rfl (en rfl (en rfl (en rfl (en rfl s0))))))))
                  have s1 := (hg 1).trans (en rfl (en rfl (en rfl (en rfl (en rfl (en rfl (en rfl (en rfl s1))))))))
                  have s3 := (hg 3).trans (en rfl (en rfl (en rfl (en rfl (en rfl (en rfl (en rfl (en rfl s3))))))))
                  have s5 := (hg 5).trans (en rfl (en rfl (en rfl (en rfl (en rfl (en rfl (en rfl (en rfl s5))))))))
                  have s8 := (hg 8).trans (en rfl (en rfl (en rfl (en rfl (en rfl (en rfl (en rfl (en rfl s8))))))))
                  have s9 := (hg 9).trans (en rfl (en rfl (en rfl (en rfl (en rfl (en rfl (en rfl (en rfl s9))))))))
                  have s13 := (hg 13).trans (en rfl (en rfl (en rfl (en rfl (en rfl (en rfl (en rfl (en rfl s13))))))))
                  have s14 := (hg 14).trans (en rfl es)
                  have s15 := (hg 15).trans es
                  have s30 := (hg 30).trans (en rfl (en rfl (en rfl (en rfl (en rfl (en rfl (en rfl (en rfl s30))))))))
                  have s36 := (hg 36).trans (en rfl (en rfl (en rfl (en rfl (en rfl (en rfl (en rfl (en rfl s36))))))))
                  have s37 := (hg 37).trans (en rfl (en rfl (en rfl (en rfl (en rfl (en rfl (en rfl (en rfl s37))))))))
                  have s38 := (hg 38).trans (en rfl (en rfl (en rfl (en rfl (en rfl (en rfl (en rfl (en rfl s38))))))))
                  have s39 := (hg 39).trans (en rfl (en rfl (en rfl (en rfl (en rfl (en rfl (en rfl (en rfl s39))))))))
                  have s77 := (hg 77).trans (en rfl (en rfl (en rfl (en rfl (en rfl (en rfl (en rfl (en rfl s77))))))))
                  have s99 := (hg 99).trans (en rfl (en rfl (en rfl (en rfl (en rfl (en rfl (en rfl (en rfl s99))))))))
                  have s100 := (hg 100).trans (en rfl (en rfl (en rfl (en rfl (en rfl (en rfl (en rfl (en rfl s100))))))))
                  have s101 := (hg 101).trans (en rfl (en rfl (en rfl (en rfl (en rfl (en rfl (en rfl (en rfl s101))))))))
                  have s125 := (hg 125).trans (en rfl (en rfl (en rfl (en rfl (en rfl (en rfl (en rfl (en rfl s125))))))))
                  have s134 := (hg 134).trans (en rfl (en rfl (en rfl (en rfl (en rfl (en rfl (en rfl (en rfl s134))))))))
                  have s137 := (hg 137).trans (en rfl (en rfl (en rfl (en rfl (en rfl (en rfl (en rfl (en rfl s137))))))))
                  have s138 := (hg 138).trans (en rfl (en rfl (en rfl (en rfl (en rfl (en rfl (en rfl (en rfl s138))))))))
                  have s139 := (hg 139).trans (en rfl (en rfl (en rfl (en rfl (en rfl (en rfl (en rfl (en rfl s139))))))))
                  clear hg
                  refine xc_seq (fun K hK54 => ?_)
                  refine xc_seq (fun K hK55 => ?_)
                  refine xc_region ?_
                  refine x_val (r_move s15) (nd_of rfl) rfl ?_
                  refine x_val (r_neq es ec (r := false) rfl) (nd_of rfl) rfl ?_
                  refine x_val (r_move es) (nd_of rfl) rfl ?_
                  refine x_take (d := 149) rfl rfl es ?_
                  refine x_val (r_move (en rfl (en rfl (en rfl s13)))) (nd_of rfl) rfl ?_
                  refine x_take (d := 149) rfl rfl (en rfl es) ?_
                  refine x_val (r_fieldAddr (o' := 1) Try.underlying26 rfl Try.sizeOf3 rfl (en rfl (en rfl (en rfl (en rfl s3)))) rfl) (nd_of rfl) rfl ?_
                  refine x_take (d := 149) rfl rfl (en rfl (en rfl es)) ?_
                  refine x_val (r_load h 4 rfl Try.isAgg3 es gc1) (nd_of rfl) rfl ?_
                  refine x_take (d := 149) rfl rfl (en rfl (en rfl (en rfl es))) ?_
                  refine x_val (r_lss (en rfl (en rfl es)) es (decide_eq_false (by omega))) (nd_of rfl) rfl ?_
                  refine x_take (d := 149) rfl rfl (en rfl (en rfl (en rfl (en rfl es)))) ?_
                  refine x_val (r_move es) (nd_of rfl) rfl ?_
                  refine x_take (d := 154) rfl rfl es ?_
                  refine x_val (r_move (en rfl (en rfl (en rfl (en rfl (en rfl (en rfl (en rfl (en rfl s13))))))))) (nd_of rfl) rfl ?_
                  refine x_take (d := 154) rfl rfl (en rfl es) ?_
                  refine x_val (r_fieldAddr (o' := 2) Try.underlying26 rfl Try.sizeOf3 rfl (en rfl (en rfl (en rfl (en rfl (en rfl (en rfl (en rfl (en rfl (en rfl s3))))))))) rfl) (nd_of rfl) rfl ?_
                  refine x_take (d := 154) rfl rfl (en rfl (en rfl es)) ?_
                  refine x_val (r_load h 4 rfl Try.isAgg3 es gc2) (nd_of rfl) rfl ?_
                  refine x_take (d := 154) rfl rfl (en rfl (en rfl (en rfl es))) ?_
                  refine x_val (r_geq (en rfl (en rfl es)) es (decide_eq_false (by omega))) (nd_of rfl) rfl ?_
                  refine x_take (d := 149) rfl rfl (en rfl (en rfl (en rfl (en rfl (en rfl (en rfl (en rfl (en rfl (en rfl es))))))))) ?_
                  refine x_val (r_pick_f (en rfl (en rfl (en rfl (en rfl es)))) es) (nd_of rfl) rfl ?_
                  refine x_take (d := 149) rfl rfl (en rfl (en rfl (en rfl (en rfl (en rfl (en rfl (en rfl (en rfl (en rfl (en rfl es)))))))))) ?_
                  refine x_val (r_move es) (nd_of rfl) rfl ?_
                  refine x_pass (d := 160) rfl rfl es rfl ?_
                  refine x_pass (d := 160) rfl rfl (en rfl es) rfl ?_
                  refine x_pass (d := 160) rfl rfl (en rfl (en rfl es)) rfl ?_
                  refine x_pass (d := 160) rfl rfl (en rfl (en rfl (en rfl es))) rfl ?_
                  refine x_pass (d := 160) rfl rfl (en rfl (en rfl (en rfl (en rfl es)))) rfl ?_
                  refine x_pass (d := 160) rfl rfl (en rfl (en rfl (en rfl (en rfl (en rfl es))))) rfl ?_
                  refine x_pass (d := 160) rfl rfl (en rfl (en rfl (en rfl (en rfl (en rfl (en rfl es)))))) rfl ?_
                  refine x_take (d := 149) rfl rfl (en rfl (en rfl (en rfl (en rfl (en rfl (en rfl (en rfl (en rfl (en rfl (en rfl (en rfl (en rfl (en rfl (en rfl (en rfl (en rfl (en rfl (en rfl es)))))))))))))))))) ?_
                  refine x_val (r_pick_f (en rfl (en rfl (en rfl (en rfl (en rfl (en rfl (en rfl es))))))) ec) (nd_of rfl) rfl ?_
                  refine x_val (r_pick_f (en rfl (en rfl (en rfl (en rfl (en rfl (en rfl (en rfl (en rfl (en rfl (en rfl (en rfl (en rfl (en rfl (en rfl (en rfl (en rfl (en rfl (en rfl (en rfl es))))))))))))))))))) es) (nd_of rfl) rfl ?_
                  refine xw_nil ?_
                  refine hK55 _ _ ?_
                  refine xc_gen (fun g hg => ?_)
                  have s0 := (hg 0).trans (en rfl (en rfl (en rfl (en rfl (en rfl (en rfl (en rfl (en rfl (en rfl (en rfl (en rfl (en rfl (en rfl (en rfl (en rfl (en rfl (en rfl (en rfl (en rfl (en rfl (en rfl (en rfl (en rfl s0)))))))))))))))))))))))
                  have s1 := (hg 1).trans (en rfl (en rfl (en rfl (en rfl (en rfl (en rfl (en rfl (en rfl (en rfl (en rfl (en rfl (en rfl (en rfl (en rfl (en rfl (en rfl (en rfl (en rfl (en rfl (en rfl (en rfl (en rfl (en rfl s1)))))))))))))))))))))))
                  have s3 := (hg 3).trans (en rfl (en rfl (en rfl (en rfl (en rfl (en rfl (en rfl (en rfl (en rfl (en rfl (en rfl (en rfl (en rfl (en rfl (en rfl (en rfl (en rfl (en rfl (en rfl (en rfl (en rfl (en rfl (en rfl s3)))))))))))))))))))))))
                  have s5 := (hg 5).trans (en rfl (en rfl (en rfl (en rfl (en rfl (en rfl (en rfl (en rfl (en rfl (en rfl (en rfl (en rfl (en rfl (en rfl (en rfl (en rfl (en rfl (en rfl (en rfl (en rfl (en rfl (en rfl (en rfl s5)))))))))))))))))))))))
                  have s8 := (hg 8).trans (en rfl (en rfl (en rfl (en rfl (en rfl (en rfl (en rfl (en rfl (en rfl (en rfl (en rfl (en rfl (en rfl (en rfl (en rfl (en rfl (en rfl (en rfl (en rfl (en rfl (en rfl (en rfl (en rfl s8)))))))))))))))))))))))
                  have s9 := (hg 9).trans (en rfl (en rfl (en rfl (en rfl (en rfl (en rfl (en rfl (en rfl (en rfl (en rfl (en rfl (en rfl (en rfl (en rfl (en rfl (en rfl (en rfl (en rfl (en rfl (en rfl (en rfl (en rfl (en rfl s9)))))))))))))))))))))))
                  have s13 := (hg 13).trans (en rfl (en rfl (en rfl (en rfl (en rfl (en rfl (en rfl (en rfl (en rfl (en rfl (en rfl (en rfl (en rfl (en rfl (en rfl (en rfl (en rfl (en rfl (en rfl (en rfl (en rfl (en rfl (en rfl s13)))))))))))))))))))))))
                  have s14 := (hg 14).trans (en rfl (en rfl (en rfl (en rfl (en rfl (en rfl (en rfl (en rfl (en rfl (en rfl (en rfl (en rfl (en rfl (en rfl (en rfl (en rfl (en rfl (en rfl (en rfl (en rfl (en rfl (en rfl (en rfl s14)))))))))))))))))))))))
                  have s15 := (hg 15).trans (en rfl (en rfl (en rfl (en rfl (en rfl (en rfl (en rfl (en rfl (en rfl (en rfl (en rfl (en rfl (en rfl (en rfl (en rfl (en rfl (en rfl (en rfl (en rfl (en rfl (en rfl (en rfl (en rfl s15)))))))))))))))))))))))
                  have s30 := (hg 30).trans (en rfl (en rfl (en rfl (en rfl (en rfl (en rfl (en rfl (en rfl (en rfl (en rfl (en rfl (en rfl (en rfl (en rfl (en rfl (en rfl (en rfl (en rfl (en rfl (en rfl (en rfl (en rfl (en rfl s30)))))))))))))))))))))))
                  have s36 := (hg 36).trans (en rfl (en rfl (en rfl (en rfl (en rfl (en rfl (en rfl (en rfl (en rfl (en rfl (en rfl (en rfl (en rfl (en rfl (en rfl (en rfl (en rfl (en rfl (en rfl (en rfl (en rfl (en rfl (en rfl s36)))))))))))))))))))))))
                  have s37 := (hg 37).trans (en rfl (en rfl (en rfl (en rfl (en rfl (en rfl (en rfl (en rfl (en rfl (en rfl (en rfl (en rfl (en rfl (en rfl (en rfl (en rfl (en rfl (en rfl (en rfl (en rfl (en rfl (en rfl (en rfl s37)))))))))))))))))))))))
                  have s38 := (hg 38).trans (en rfl (en rfl (en rfl (en rfl (en rfl (en rfl (en rfl (en rfl (en rfl (en rfl (en rfl (en rfl (en rfl (en rfl (en rfl (en rfl (en rfl (en rfl (en rfl (en rfl (en rfl (en rfl (en rfl s38)))))))))))))))))))))))
                  have s39 := (hg 39).trans (en rfl (en rfl (en rfl (en rfl (en rfl (en rfl (en rfl (en rfl (en rfl (en rfl (en rfl (en rfl (en rfl (en rfl (en rfl (en rfl (en rfl (en rfl (en rfl (en rfl (en rfl (en rfl (en rfl s39)))))))))))))))))))))))
                  have s77 := (hg 77).trans (en rfl (en rfl (en rfl (en rfl (en rfl (en rfl (en rfl (en rfl (en rfl (en rfl (en rfl (en rfl (en rfl (en rfl (en rfl (en rfl (en rfl (en rfl (en rfl (en rfl (en rfl (en rfl (en rfl s77)))))))))))))))))))))))
                  have s99 := (hg 99).trans (en rfl (en rfl (en rfl (en rfl (en rfl (en rfl (en rfl (en rfl (en rfl (en rfl (en rfl (en rfl (en rfl (en rfl (en rfl (en rfl (en rfl (en rfl (en rfl (en rfl (en rfl (en rfl (en rfl s99)))))))))))))))))))))))
                  have s100 := (hg 100).trans (en rfl (en rfl (en rfl (en rfl (en rfl (en rfl (en rfl (en rfl (en rfl (en rfl (en rfl (en rfl (en rfl (en rfl (en rfl (en rfl (en rfl (en rfl (en rfl (en rfl (en rfl (en rfl (en rfl s100)))))))))))))))))))))))
                  have s101 := (hg 101).trans (en rfl (en rfl (en rfl (en rfl (en rfl (en rfl (en rfl (en rfl (en rfl (en rfl (en rfl (en rfl (en rfl (en rfl (en rfl (en rfl (en rfl (en rfl (en rfl (en rfl (en rfl (en rfl (en rfl s101)))))))))))))))))))))))
                  have s125 := (hg 125).trans (en rfl (en rfl (en rfl (en rfl (en rfl (en rfl (en rfl (en rfl (en rfl (en rfl (en rfl (en rfl (en rfl (en rfl (en rfl (en rfl (en rfl (en rfl (en rfl (en rfl (en rfl (en rfl (en rfl s125)))))))))))))))))))))))
                  have s134 := (hg 134).trans (en rfl (en rfl (en rfl (en rfl (en rfl (en rfl (en rfl (en rfl (en rfl (en rfl (en rfl (en rfl (en rfl (en rfl (en rfl (en rfl (en rfl (en rfl (en rfl (en rfl (en rfl (en rfl (en rfl s134)))))))))))))))))))))))
                  have s137 := (hg 137).trans (en rfl (en rfl (en rfl (en rfl (en rfl (en rfl (en rfl (en rfl (en rfl (en rfl (en rfl (en rfl (en rfl (en rfl (en rfl (en rfl (en rfl (en rfl (en rfl (en rfl (en rfl (en rfl (en rfl s137)))))))))))))))))))))))
                  have s138 := (hg 138).trans (en rfl (en rfl (en rfl (en rfl (en rfl (en rfl (en rfl (en rfl (en rfl (en rfl (en rfl (en rfl (en rfl (en rfl (en rfl (en rfl (en rfl (en rfl (en rfl (en rfl (en rfl (en rfl (en rfl s138)))))))))))))))))))))))
                  have s139 := (hg 139).trans (en rfl (en rfl (en rfl (en rfl (en rfl (en rfl (en rfl (en rfl (en rfl (en rfl (en rfl (en rfl (en rfl (en rfl (en rfl (en rfl (en rfl (en rfl (en rfl (en rfl (en rfl (en rfl (en rfl s139)))))))))))))))))))))))
                  have s169 := (hg 169).trans es
                  clear hg
                  refine xc_cond s169 (fun hc => by cases hc) (fun _ => ?_)
                  refine xc_skip ?_
                  refine hK54 _ _ ?_
                  refine xc_seq (fun K hK56 => ?_)
                  refine xc_region ?_
                  refine x_val (r_fieldAddr (o' := 4) Try.underlying26 rfl Try.sizeOf24 rfl s3 rfl) (nd_of rfl) rfl ?_
                  refine x_val (r_load h 4 rfl Try.isAgg24 es gc4) (nd_of rfl) rfl ?_
                  refine x_val (r_len Try.underlying24 es) (nd_of rfl) rfl ?_
                  refine x_val (r_move ec) (nd_of rfl) rfl ?_
                  refine xw_nil ?_
                  refine hK56 _ _ ?_
                  refine xc_gen (fun g hg => ?_)
                  have s0 := (hg 0).trans (en rfl (en rfl (en rfl (en rfl s0))))
                  have s1 := (hg 1).trans (en rfl (en rfl (en rfl (en rfl s1))))
                  have s3 := (hg 3).trans (en rfl (en rfl (en rfl (en rfl s3))))
                  have s5 := (hg 5).trans (en rfl (en rfl (en rfl (en rfl s5))))
                  have s8 := (hg 8).trans (en rfl (en rfl (en rfl (en rfl s8))))
                  have s9 := (hg 9).trans (en rfl (en rfl (en rfl (en rfl s9))))
                  have s13 := (hg 13).trans (en rfl (en rfl (en rfl (en rfl s13))))
                  have s14 := (hg 14).trans (en rfl (en rfl (en rfl (en rfl s14))))
                  have s15 := (hg 15).trans (en rfl (en rfl (en rfl (en rfl s15))))
                  have s30 := (hg 30).trans (en rfl (en rfl (en rfl (en rfl s30))))
                  have s36 := (hg 36).trans (en rfl (en rfl (en rfl (en rfl s36))))
                  have s37 := (hg 37).trans (en rfl (en rfl (en rfl (en rfl s37))))
                  have s38 := (hg 38).trans (en rfl (en rfl (en rfl (en rfl s38))))
                  have s39 := (hg 39).trans (en rfl (en rfl (en rfl (en rfl s39))))
                  have s77 := (hg 77).trans (en rfl (en rfl (en rfl (en rfl s77))))
                  have s99 := (hg 99).trans (en rfl (en rfl (en rfl (en rfl s99))))
                  have s100 := (hg 100).trans (en rfl (en rfl (en rfl (en rfl s100))))
                  have s101 := (hg 101).trans (en rfl (en rfl (en rfl (en rfl s101))))
                  have s125 := (hg 125).trans (en rfl (en rfl (en rfl (en rfl s125))))
                  have s134 := (hg 134).trans (en rfl (en rfl (en rfl (en rfl s134))))
                  have s137 := (hg 137).trans (en rfl (en rfl (en rfl (en rfl s137))))
                  have s138 := (hg 138).trans (en rfl (en rfl (en rfl (en rfl s138))))
                  have s139 := (hg 139).trans (en rfl (en rfl (en rfl (en rfl s139))))
                  have s169 := (hg 169).trans (en rfl (en rfl (en rfl (en rfl s169))))
                  have s171 := (hg 171).trans (en rfl (en rfl es))
                  have s172 := (hg 172).trans (en rfl es)
                  have s173 := (hg 173).trans es
                  clear hg
                  refine xc_block ?_
                  obtain ⟨G57, hG57⟩ : ∃ g0 : Nat → Value, g0 = g := ⟨_, rfl⟩
                  have zG57_0 : G57 0 = _ := (congrFun hG57 0).trans s0
                  have zG57_1 : G57 1 = _ := (congrFun hG57 1).trans s1
                  have zG57_3 : G57 3 = _ := (congrFun hG57 3).trans s3
                  have zG57_5 : G57 5 = _ := (congrFun hG57 5).trans s5
                  have zG57_8 : G57 8 = _ := (congrFun hG57 8).trans s8
                  have zG57_9 : G57 9 = _ := (congrFun hG57 9).trans s9
                  have zG57_13 : G57 13 = _ := (congrFun hG57 13).trans s13
                  have zG57_14 : G57 14 = _ := (congrFun hG57 14).trans s14
                  have zG57_15 : G57 15 = _ := (congrFun hG57 15).trans s15
                  have zG57_30 : G57 30 = _ := (congrFun hG57 30).trans s30
                  have zG57_36 : G57 36 = _ := (congrFun hG57 36).trans s36
                  have zG57_37 : G57 37 = _ := (congrFun hG57 37).trans s37
                  have zG57_38 : G57 38 = _ := (congrFun hG57 38).trans s38
                  have zG57_39 : G57 39 = _ := (congrFun hG57 39).trans s39
                  have zG57_77 : G57 77 = _ := (congrFun hG57 77).trans s77
                  have zG57_99 : G57 99 = _ := (congrFun hG57 99).trans s99
                  have zG57_100 : G57 100 = _ := (congrFun hG57 100).trans s100
                  have zG57_101 : G57 101 = _ := (congrFun hG57 101).trans s101
                  have zG57_125 : G57 125 = _ := (congrFun hG57 125).trans s125
                  have zG57_134 : G57 134 = _ := (congrFun hG57 134).trans s134
                  have zG57_137 : G57 137 = _ := (congrFun hG57 137).trans s137
                  have zG57_138 : G57 138 = _ := (congrFun hG57 138).trans s138
                  have zG57_139 : G57 139 = _ := (congrFun hG57 139).trans s139
                  have zG57_169 : G57 169 = _ := (congrFun hG57 169).trans s169
                  have zG57_171 : G57 171 = _ := (congrFun hG57 171).trans s171
                  have zG57_172 : G57 172 = _ := (congrFun hG57 172).trans s172
                  refine xc_loop (fun m f w => (∃ (q : Nat), m = oa.cs.length - q ∧ q ≤ oa.cs.length ∧ f 173 = .int .i64 (q : Int) ∧ SatL E w (ARow (.slice a5 (applyL l oa.cs).length c5) (applyL l oa.cs) :: Pa b LL B2 :: XRow (.slice au ys.length cu) ys :: RowsL ys L :: Cells b3 #[.int .i64 oa.kind, .int .i64 oa.k, .int .i64 oa.m, .slice al oa.ls.length cl, .slice ax oa.cs.length cx] 26 :: Old W :: R)) ∧ (f 0 = G57 0 ∧ f 1 = G57 1 ∧ f 3 = G57 3 ∧ f 5 = G57 5 ∧ f 8 = G57 8 ∧ f 9 = G57 9 ∧ f 13 = G57 13 ∧ f 14 = G57 14 ∧ f 15 = G57 15 ∧ f 30 = G57 30 ∧ f 36 = G57 36 ∧ f 37 = G57 37 ∧ f 38 = G57 38 ∧ f 39 = G57 39 ∧ f 77 = G57 77 ∧ f 99 = G57 99 ∧ f 100 = G57 100 ∧ f 101 = G57 101 ∧ f 125 = G57 125 ∧ f 134 = G57 134 ∧ f 137 = G57 137 ∧ f 138 = G57 138 ∧ f 139 = G57 139 ∧ f 169 = G57 169 ∧ f 171 = G57 171 ∧ f 172 = G57 172)) (oa.cs.length) ⟨⟨0, by omega, by omega, s173, h⟩, ⟨congrFun hG57.symm 0, congrFun hG57.symm 1, congrFun hG57.symm 3, congrFun hG57.symm 5, congrFun hG57.symm 8, congrFun hG57.symm 9, congrFun hG57.symm 13, congrFun hG57.symm 14, congrFun hG57.symm 15, congrFun hG57.symm 30, congrFun hG57.symm 36, congrFun hG57.symm 37, congrFun hG57.symm 38, congrFun hG57.symm 39, congrFun hG57.symm 77, congrFun hG57.symm 99, congrFun hG57.symm 100, congrFun hG57.symm 101, congrFun hG57.symm 125, congrFun hG57.symm 134, congrFun hG57.symm 137, congrFun hG57.symm 138, congrFun hG57.symm 139, congrFun hG57.symm 169, congrFun hG57.symm 171, congrFun hG57.symm 172⟩⟩ ?_
                  rintro m g w ⟨⟨q, hm3, hq, s173, h⟩, ⟨y0, y1, y3, y5, y8, y9, y13, y14, y15, y30, y36, y37, y38, y39, y77, y99, y100, y101, y125, y134, y137, y138, y139, y169, y171, y172⟩⟩
                  have s0 := y0.trans zG57_0
                  have s1 := y1.trans zG57_1
                  have s3 := y3.trans zG57_3
                  have s5 := y5.trans zG57_5
                  have s8 := y8.trans zG57_8
                  have s9 := y9.trans zG57_9
                  have s13 := y13.trans zG57_13
                  have s14 := y14.trans zG57_14
                  have s15 := y15.trans zG57_15
                  have s30 := y30.trans zG57_30
                  have s36 := y36.trans zG57_36
                  have s37 := y37.trans zG57_37
                  have s38 := y38.trans zG57_38
                  have s39 := y39.trans zG57_39
                  have s77 := y77.trans zG57_77
                  have s99 := y99.trans zG57_99
                  have s100 := y100.trans zG57_100
                  have s101 := y101.trans zG57_101
                  have s125 := y125.trans zG57_125
                  have s134 := y134.trans zG57_134
                  have s137 := y137.trans zG57_137
                  have s138 := y138.trans zG57_138
                  have s139 := y139.trans zG57_139
                  have s169 := y169.trans zG57_169
                  have s171 := y171.trans zG57_171
                  have s172 := y172.trans zG57_172
                  refine xc_seq (fun K hK58 => ?_)
                  refine xc_region ?_
                  refine x_val (r_lss s173 s172 rfl) (nd_of rfl) rfl ?_
                  refine xw_nil ?_
                  refine hK58 _ _ ?_
                  refine xc_gen (fun g hg => ?_)
                  have s0 := (hg 0).trans (en rfl s0)
                  have s1 := (hg 1).trans (en rfl s1)
                  have s3 := (hg 3).trans (en rfl s3)
                  have s5 := (hg 5).trans (en rfl s5)
                  have s8 := (hg 8).trans (en rfl s8)
                  have s9 := (hg 9).trans (en rfl s9)
                  have s13 := (hg 13).trans (en rfl s13)
                  have s14 := (hg 14).trans (en rfl s14)
                  have s15 := (hg 15).trans (en rfl s15)
                  have s30 := (hg 30).trans (en rfl s30)
                  have s36 := (hg 36).trans (en rfl s36)
                  have s37 := (hg 37).trans (en rfl s37)
                  have s38 := (hg 38).trans (en rfl s38)
                  have s39 := (hg 39).trans (en rfl s39)
                  have s77 := (hg 77).trans (en rfl s77)
                  have s99 := (hg 99).trans (en rfl s99)
                  have s100 := (hg 100).trans (en rfl s100)
                  have s101 := (hg 101).trans (en rfl s101)
                  have s125 := (hg 125).trans (en rfl s125)
                  have s134 := (hg 134).trans (en rfl s134)
                  have s137 := (hg 137).trans (en rfl s137)
                  have s138 := (hg 138).trans (en rfl s138)
                  have s139 := (hg 139).trans (en rfl s139)
                  have s169 := (hg 169).trans (en rfl s169)
                  have s171 := (hg 171).trans (en rfl s171)
                  have s172 := (hg 172).trans (en rfl s172)
                  have s173 := (hg 173).trans (en rfl s173)
                  have s174 := (hg 174).trans es
                  clear hg
                  refine xc_seq (fun K hK59 => ?_)
                  refine xc_cond s174 (fun hc => ?_) (fun hc => ?_)
                  ·
                    refine xc_skip ?_
                    refine hK59 _ _ ?_
                    refine xc_seq (fun K hK60 => ?_)
                    refine xc_block ?_
                    refine xc_seq (fun K hK61 => ?_)
                    have hql : q < oa.cs.length := by have := of_decide_eq_true hc; omega
                    obtain ⟨c, hcx⟩ : ∃ c, oa.cs[q]? = some c := ⟨_, List.getElem?_eq_getElem hql⟩
                    have hcm := List.mem_of_getElem? hcx
                    obtain ⟨ad3, rfl, hcell3⟩ := hrdx q c hcx
                    have hokc := ok_cg c
                    refine xc_region ?_
                    refine x_val (r_indexAny Try.underlying24 Try.sizeOf46 s171 s173 (by omega) (by omega)) (nd_of rfl) rfl ?_
                    refine x_val (r_loadAggAt (cs := cgC c) Try.isAgg46 Try.sizeOf46 es rfl (fun j u hj => h.oldCell 5 rfl (hcell3 j u hj))) (nd_of rfl) rfl ?_
                    refine x_declA h Try.zeroValue46 Try.sizeOf46 rfl (en rfl es) (by first | assumption | exact Ok.node (by assumption) | exact xOk.cells (by assumption) | exact ChOk.ok (by assumption)) rfl ?_
                    intro b17 w h
                    refine xw_nil ?_
                    refine hK61 _ _ ?_
                    refine xc_gen (fun g hg => ?_)
                    have s0 := (hg 0).trans (en rfl (en rfl (en rfl s0)))
                    have s1 := (hg 1).trans (en rfl (en rfl (en rfl s1)))
                    have s3 := (hg 3).trans (en rfl (en rfl (en rfl s3)))
                    have s5 := (hg 5).trans (en rfl (en rfl (en rfl s5)))
                    have s8 := (hg 8).trans (en rfl (en rfl (en rfl s8)))
                    have s9 := (hg 9).trans (en rfl (en rfl (en rfl s9)))
                    have s13 := (hg 13).trans (en rfl (en rfl (en rfl s13)))
                    have s14 := (hg 14).trans (en rfl (en rfl (en rfl s14)))
                    have s15 := (hg 15).trans (en rfl (en rfl (en rfl s15)))
                    have s17 := (hg 17).trans es
                    have s30 := (hg 30).trans (en rfl (en rfl (en rfl s30)))
                    have s36 := (hg 36).trans (en rfl (en rfl (en rfl s36)))
                    have s37 := (hg 37).trans (en rfl (en rfl (en rfl s37)))
                    have s38 := (hg 38).trans (en rfl (en rfl (en rfl s38)))
                    have s39 := (hg 39).trans (en rfl (en rfl (en rfl s39)))
                    have s77 := (hg 77).trans (en rfl (en rfl (en rfl s77)))
                    have s99 := (hg 99).trans (en rfl (en rfl (en rfl s99)))
                    have s100 := (hg 100).trans (en rfl (en rfl (en rfl s100)))
                    have s101 := (hg 101).trans (en rfl (en rfl (en rfl s101)))
                    have s125 := (hg 125).trans (en rfl (en rfl (en rfl s125)))
                    have s134 := (hg 134).trans (en rfl (en rfl (en rfl s134)))
                    have s137 := (hg 137).trans (en rfl (en rfl (en rfl s137)))
                    have s138 := (hg 138).trans (en rfl (en rfl (en rfl s138)))
                    have s139 := (hg 139).trans (en rfl (en rfl (en rfl s139)))
                    have s169 := (hg 169).trans (en rfl (en rfl (en rfl s169)))
                    have s171 := (hg 171).trans (en rfl (en rfl (en rfl s171)))
                    have s172 := (hg 172).trans (en rfl (en rfl (en rfl s172)))
                    have s173 := (hg 173).trans (en rfl (en rfl (en rfl s173)))
                    have s174 := (hg 174).trans (en rfl (en rfl (en rfl s174)))
                    clear hg
                    have h : SatL E w (Cells b17 #[.int .i64 c.1, .bool c.2.1, .int .u8 c.2.2.1, .int .i64 c.2.2.2.1, .int .u64 c.2.2.2.2.1, .string c.2.2.2.2.2] 46 :: _) := h
                    rcases (show c.2.1 = true ∨ c.2.1 = false by cases c.2.1 <;> simp) with hg | hg
                    ·
                      skip
                      refine xc_seq (fun K hK62 => ?_)
                      refine xc_region ?_
                      refine x_val (r_move s14) (nd_of rfl) rfl ?_
                      refine x_val (r_fieldAddr (o' := 0) Try.underlying46 rfl Try.sizeOf3 rfl (en rfl s17) rfl) (nd_of rfl) rfl ?_
                      refine x_val (r_load h 0 rfl Try.isAgg3 es gc0) (nd_of rfl) rfl ?_
                      refine x_enter (r_call Try.call17 (.cons (en rfl (en rfl es)) (.cons es .nil))) (nd_of rfl) rfl (get_no (key := c.1) ((a_row h.f1).weak (fun _ h => h.f1)) (apply_gone hg l oa.cs hle.2.1 hXr hcm) (by omega) h) ?_
                      rintro _ w ⟨z, rfl, hz, h⟩
                      refine x_val (r_move es) (nd_of rfl) rfl ?_
                      refine x_val (r_extract es gc0) (nd_of rfl) rfl ?_
                      refine x_val (r_extract (en rfl es) gc1) (nd_of rfl) rfl ?_
                      refine x_declA h Try.zeroValue44 Try.sizeOf44 rfl (en rfl (en rfl es)) (by first | assumption | exact Ok.node (by assumption) | exact xOk.cells (by assumption) | exact ChOk.ok (by assumption)) rfl ?_
                      intro b18 w h
                      refine x_val (r_assign (en rfl es)) (nd_of rfl) rfl ?_
                      refine xw_nil ?_
                      refine hK62 _ _ ?_
                      refine xc_gen (fun g hg => ?_)
                      have s0 := (hg 0).trans (en rfl (en rfl (en rfl (en rfl (en rfl (en rfl (en rfl (en rfl (en rfl s0)))))))))
                      have s1 := (hg 1).trans (en rfl (en rfl (en rfl (en rfl (en rfl (en rfl (en rfl (en rfl (en rfl s1)))))))))
                      have s3 := (hg 3).trans (en rfl (en rfl (en rfl (en rfl (en rfl (en rfl (en rfl (en rfl (en rfl s3)))))))))
                      have s5 := (hg 5).trans (en rfl (en rfl (en rfl (en rfl (en rfl (en rfl (en rfl (en rfl (en rfl s5)))))))))
                      have s8 := (hg 8).trans (en rfl (en rfl (en rfl (en rfl (en rfl (en rfl (en rfl (en rfl (en rfl s8)))))))))
                      have s9 := (hg 9).trans (en rfl (en rfl (en rfl (en rfl (en rfl (en rfl (en rfl (en rfl (en rfl s9)))))))))
                      have s13 := (hg 13).trans (en rfl (en rfl (en rfl (en rfl (en rfl (en rfl (en rfl (en rfl (en rfl s13)))))))))
                      have s14 := (hg 14).trans (en rfl (en rfl (en rfl (en rfl (en rfl (en rfl (en rfl (en rfl (en rfl s14)))))))))
                      have s15 := (hg 15).trans (en rfl (en rfl (en rfl (en rfl (en rfl (en rfl (en rfl (en rfl (en rfl s15)))))))))
                      have s17 := (hg 17).trans (en rfl (en rfl (en rfl (en rfl (en rfl (en rfl (en rfl (en rfl (en rfl s17)))))))))
                      have s18 := (hg 18).trans (en rfl es)
                      have s19 := (hg 19).trans es
                      have s30 := (hg 30).trans (en rfl (en rfl (en rfl (en rfl (en rfl (en rfl (en rfl (en rfl (en rfl s30)))))))))
                      have s36 := (hg 36).trans (en rfl (en rfl (en rfl (en rfl (en rfl (en rfl (en rfl (en rfl (en rfl s36)))))))))
                      have s37 := (hg 37).trans (en rfl (en rfl (en rfl (en rfl (en rfl (en rfl (en rfl (en rfl (en rfl s37)))))))))
                      have s38 := (hg 38).trans (en rfl (en rfl (en rfl (en rfl (en rfl (en rfl (en rfl (en rfl (en rfl s38)))))))))
                      have s39 := (hg 39).trans (en rfl (en rfl (en rfl (en rfl (en rfl (en rfl (en rfl (en rfl (en rfl s39)))))))))
                      have s77 := (hg 77).trans (en rfl (en rfl (en rfl (en rfl (en rfl (en rfl (en rfl (en rfl (en rfl s77)))))))))
                      have s99 := (hg 99).trans (en rfl (en rfl (en rfl (en rfl (en rfl (en rfl (en rfl (en rfl (en rfl s99)))))))))
                      have s100 := (hg 100).trans (en rfl (en rfl (en rfl (en rfl (en rfl (en rfl (en rfl (en rfl (en rfl s100)))))))))
                      have s101 := (hg 101).trans (en rfl (en rfl (en rfl (en rfl (en rfl (en rfl (en rfl (en rfl (en rfl s101)))))))))
                      have s125 := (hg 125).trans (en rfl (en rfl (en rfl (en rfl (en rfl (en rfl (en rfl (en rfl (en rfl s125)))))))))
                      have s134 := (hg 134).trans (en rfl (en rfl (en rfl (en rfl (en rfl (en rfl (en rfl (en rfl (en rfl s134)))))))))
                      have s137 := (hg 137).trans (en rfl (en rfl (en rfl (en rfl (en rfl (en rfl (en rfl (en rfl (en rfl s137)))))))))
                      have s138 := (hg 138).trans (en rfl (en rfl (en rfl (en rfl (en rfl (en rfl (en rfl (en rfl (en rfl s138)))))))))
                      have s139 := (hg 139).trans (en rfl (en rfl (en rfl (en rfl (en rfl (en rfl (en rfl (en rfl (en rfl s139)))))))))
                      have s169 := (hg 169).trans (en rfl (en rfl (en rfl (en rfl (en rfl (en rfl (en rfl (en rfl (en rfl s169)))))))))
                      have s171 := (hg 171).trans (en rfl (en rfl (en rfl (en rfl (en rfl (en rfl (en rfl (en rfl (en rfl s171)))))))))
                      have s172 := (hg 172).trans (en rfl (en rfl (en rfl (en rfl (en rfl (en rfl (en rfl (en rfl (en rfl s172)))))))))
                      have s173 := (hg 173).trans (en rfl (en rfl (en rfl (en rfl (en rfl (en rfl (en rfl (en rfl (en rfl s173)))))))))
                      have s174 := (hg 174).trans (en rfl (en rfl (en rfl (en rfl (en rfl (en rfl (en rfl (en rfl (en rfl s174)))))))))
                      clear hg
                      refine xc_seq (fun K hK63 => ?_)
                      refine xc_region ?_
                      refine x_val (r_move s13) (nd_of rfl) rfl ?_
                      refine x_val (r_fieldAddr (o' := 1) Try.underlying26 rfl Try.sizeOf3 rfl (en rfl s3) rfl) (nd_of rfl) rfl ?_
                      refine x_val (r_load h 6 rfl Try.isAgg3 es gc1) (nd_of rfl) rfl ?_
                      refine x_val (r_geq (en rfl (en rfl es)) es (decide_eq_true (by omega))) (nd_of rfl) rfl ?_
                      refine x_val (r_move es) (nd_of rfl) rfl ?_
                      refine x_take (d := 188) rfl rfl es ?_
                      refine x_val (r_move (en rfl (en rfl (en rfl (en rfl (en rfl s13)))))) (nd_of rfl) rfl ?_
                      refine x_take (d := 188) rfl rfl (en rfl es) ?_
                      refine x_val (r_fieldAddr (o' := 2) Try.underlying26 rfl Try.sizeOf3 rfl (en rfl (en rfl (en rfl (en rfl (en rfl (en rfl s3)))))) rfl) (nd_of rfl) rfl ?_
                      refine x_take (d := 188) rfl rfl (en rfl (en rfl es)) ?_
                      refine x_val (r_load h 6 rfl Try.isAgg3 es gc2) (nd_of rfl) rfl ?_
                      refine x_take (d := 188) rfl rfl (en rfl (en rfl (en rfl es))) ?_
                      refine x_val (r_lss (en rfl (en rfl es)) es (decide_eq_true (by omega))) (nd_of rfl) rfl ?_
                      refine x_val (r_pick_t (en rfl (en rfl (en rfl (en rfl es)))) es) (nd_of rfl) rfl ?_
                      refine x_val (r_move es) (nd_of rfl) rfl ?_
                      refine x_take (d := 194) rfl rfl es ?_
                      refine x_val (r_move (en rfl (en rfl (en rfl (en rfl (en rfl (en rfl (en rfl (en rfl (en rfl (en rfl (en rfl s19)))))))))))) (nd_of rfl) rfl ?_
                      refine x_take (d := 194) rfl rfl (en rfl es) ?_
                      refine x_val (r_fieldAddr (o' := 1) Try.underlying46 rfl Try.sizeOf4 rfl (en rfl (en rfl (en rfl (en rfl (en rfl (en rfl (en rfl (en rfl (en rfl (en rfl (en rfl (en rfl s17)))))))))))) rfl) (nd_of rfl) rfl ?_
                      refine x_take (d := 194) rfl rfl (en rfl (en rfl es)) ?_
                      refine x_val (r_load h 1 rfl Try.isAgg4 es gc1) (nd_of rfl) rfl ?_
                      refine x_take (d := 194) rfl rfl (en rfl (en rfl (en rfl es))) ?_
                      refine x_val (r_eqb Try.underlying4 (en rfl (en rfl es)) es (r := false) (by rw [hg]; rfl)) (nd_of rfl) rfl ?_
                      refine x_take (d := 194) rfl rfl (en rfl (en rfl (en rfl (en rfl es)))) ?_
                      refine x_val (r_move es) (nd_of rfl) rfl ?_
                      refine x_take (d := 199) rfl rfl es ?_
                      refine x_val (r_move (en rfl (en rfl (en rfl (en rfl (en rfl (en rfl (en rfl (en rfl (en rfl (en rfl (en rfl (en rfl (en rfl (en rfl (en rfl (en rfl s19))))))))))))))))) (nd_of rfl) rfl ?_
                      refine x_take (d := 199) rfl rfl (en rfl es) ?_
                      refine x_val (r_move es) (nd_of rfl) rfl ?_
                      refine x_pass (d := 201) rfl rfl es rfl ?_
                      refine x_pass (d := 201) rfl rfl (en rfl es) rfl ?_
                      refine x_pass (d := 201) rfl rfl (en rfl (en rfl es)) rfl ?_
                      refine x_pass (d := 201) rfl rfl (en rfl (en rfl (en rfl es))) rfl ?_
                      refine x_take (d := 199) rfl rfl (en rfl (en rfl (en rfl (en rfl (en rfl (en rfl es)))))) ?_
                      refine x_val (r_pick_f (en rfl (en rfl (en rfl (en rfl es)))) ec) (nd_of rfl) rfl ?_
                      refine x_take (d := 194) rfl rfl (en rfl (en rfl (en rfl (en rfl (en rfl (en rfl (en rfl (en rfl (en rfl (en rfl (en rfl (en rfl es)))))))))))) ?_
                      refine x_val (r_pick_f (en rfl (en rfl (en rfl (en rfl (en rfl (en rfl (en rfl es))))))) es) (nd_of rfl) rfl ?_
                      refine x_val (r_pick_t (en rfl (en rfl (en rfl (en rfl (en rfl (en rfl (en rfl (en rfl (en rfl (en rfl (en rfl (en rfl (en rfl es))))))))))))) es) (nd_of rfl) rfl ?_
                      refine xw_nil ?_
                      refine hK63 _ _ ?_
                      refine xc_gen (fun g hg => ?_)
                      have s0 := (hg 0).trans (en rfl (en rfl (en rfl (en rfl (en rfl (en rfl (en rfl (en rfl (en rfl (en rfl (en rfl (en rfl (en rfl (en rfl (en rfl (en rfl (en rfl (en rfl (en rfl (en rfl (en rfl (en rfl (en rfl (en rfl (en rfl s0)))))))))))))))))))))))))
                      have s1 := (hg 1).trans (en rfl (en rfl (en rfl (en rfl (en rfl (en rfl (en rfl (en rfl (en rfl (en rfl (en rfl (en rfl (en rfl (en rfl (en rfl (en rfl (en rfl (en rfl (en rfl (en rfl (en rfl (en rfl (en rfl (en rfl (en rfl s1)))))))))))))))))))))))))
                      have s3 := (hg 3).trans (en rfl (en rfl (en rfl (en rfl (en rfl (en rfl (en rfl (en rfl (en rfl (en rfl (en rfl (en rfl (en rfl (en rfl (en rfl (en rfl (en rfl (en rfl (en rfl (en rfl (en rfl (en rfl (en rfl (en rfl (en rfl s3)))))))))))))))))))))))))
                      have s5 := (hg 5).trans (en rfl (en rfl (en rfl (en rfl (en rfl (en rfl (en rfl (en rfl (en rfl (en rfl (en rfl (en rfl (en rfl (en rfl (en rfl (en rfl (en rfl (en rfl (en rfl (en rfl (en rfl (en rfl (en rfl (en rfl (en rfl s5)))))))))))))))))))))))))
                      have s8 := (hg 8).trans (en rfl (en rfl (en rfl (en rfl (en rfl (en rfl (en rfl (en rfl (en rfl (en rfl (en rfl (en rfl (en rfl (en rfl (en rfl (en rfl (en rfl (en rfl (en rfl (en rfl (en rfl (en rfl (en rfl (en rfl (en rfl s8)))))))))))))))))))))))))
                      have s9 := (hg 9).trans (en rfl (en rfl (en rfl (en rfl (en rfl (en rfl (en rfl (en rfl (en rfl (en rfl (en rfl (en rfl (en rfl (en rfl (en rfl (en rfl (en rfl (en rfl (en rfl (en rfl (en rfl (en rfl (en rfl (en rfl (en rfl s9)))))))))))))))))))))))))
                      have s13 := (hg 13).trans (en rfl (en rfl (en rfl (en rfl (en rfl (en rfl (en rfl (en rfl (en rfl (en rfl (en rfl (en rfl (en rfl (en rfl (en rfl (en rfl (en rfl (en rfl (en rfl (en rfl (en rfl (en rfl (en rfl (en rfl (en rfl s13)))))))))))))))))))))))))
                      have s14 := (hg 14).trans (en rfl (en rfl (en rfl (en rfl (en rfl (en rfl (en rfl (en rfl (en rfl (en rfl (en rfl (en rfl (en rfl (en rfl (en rfl (en rfl (en rfl (en rfl (en rfl (en rfl (en rfl (en rfl (en rfl (en rfl (en rfl s14)))))))))))))))))))))))))
                      have s15 := (hg 15).trans (en rfl (en rfl (en rfl (en rfl (en rfl (en rfl (en rfl (en rfl (en rfl (en rfl (en rfl (en rfl (en rfl (en rfl (en rfl (en rfl (en rfl (en rfl (en rfl (en rfl (en rfl (en rfl (en rfl (en rfl (en rfl s15)))))))))))))))))))))))))
                      have s17 := (hg 17).trans (en rfl (en rfl (en rfl (en rfl (en rfl (en rfl (en rfl (en rfl (en rfl (en rfl (en rfl (en rfl (en rfl (en rfl (en rfl (en rfl (en rfl (en rfl (en rfl (en rfl (en rfl (en rfl (en rfl (en rfl (en rfl s17)))))))))))))))))))))))))
                      have s18 := (hg 18).trans (en rfl (en rfl (en rfl (en rfl (en rfl (en rfl (en rfl (en rfl (en rfl (en rfl (en rfl (en rfl (en rfl (en rfl (en rfl (en rfl (en rfl (en rfl (en rfl (en rfl (en rfl (en rfl (en rfl (en rfl (en rfl s18)))))))))))))))))))))))))
                      have s19 := (hg 19).trans (en rfl (en rfl (en rfl (en rfl (en rfl (en rfl (en rfl (en rfl (en rfl (en rfl (en rfl (en rfl (en rfl (en rfl (en rfl (en rfl (en rfl (en rfl (en rfl (en rfl (en rfl (en rfl (en rfl (en rfl (en rfl s19)))))))))))))))))))))))))
                      have s30 := (hg 30).trans (en rfl (en rfl (en rfl (en rfl (en rfl (en rfl (en rfl (en rfl (en rfl (en rfl (en rfl (en rfl (en rfl (en rfl (en rfl (en rfl (en rfl (en rfl (en rfl (en rfl (en rfl (en rfl (en rfl (en rfl (en rfl s30)))))))))))))))))))))))))
                      have s36 := (hg 36).trans (en rfl (en rfl (en rfl (en rfl (en rfl (en rfl (en rfl (en rfl (en rfl (en rfl (en rfl (en rfl (en rfl (en rfl (en rfl (en rfl (en rfl (en rfl (en rfl (en rfl (en rfl (en rfl (en rfl (en rfl (en rfl s36)))))))))))))))))))))))))
                      have s37 := (hg 37).trans (en rfl (en rfl (en rfl (en rfl (en rfl (en rfl (en rfl (en rfl (en rfl (en rfl (en rfl (en rfl (en rfl (en rfl (en rfl (en rfl (en rfl (en rfl (en rfl (en rfl (en rfl (en rfl (en rfl (en rfl (en rfl s37)))))))))))))))))))))))))
                      have s38 := (hg 38).trans (en rfl (en rfl (en rfl (en rfl (en rfl (en rfl (en rfl (en rfl (en rfl (en rfl (en rfl (en rfl (en rfl (en rfl (en rfl (en rfl (en rfl (en rfl (en rfl (en rfl (en rfl (en rfl (en rfl (en rfl (en rfl s38)))))))))))))))))))))))))
                      have s39 := (hg 39).trans (en rfl (en rfl (en rfl (en rfl (en rfl (en rfl (en rfl (en rfl (en rfl (en rfl (en rfl (en rfl (en rfl (en rfl (en rfl (en rfl (en rfl (en rfl (en rfl (en rfl (en rfl (en rfl (en rfl (en rfl (en rfl s39)))))))))))))))))))))))))
                      have s77 := (hg 77).trans (en rfl (en rfl (en rfl (en rfl (en rfl (en rfl (en rfl (en rfl (en rfl (en rfl (en rfl (en rfl (en rfl (en rfl (en rfl (en rfl (en rfl (en rfl (en rfl (en rfl (en rfl (en rfl (en rfl (en rfl (en rfl s77)))))))))))))))))))))))))
                      have s99 := (hg 99).trans (en rfl (en rfl (en rfl (en rfl (en rfl (en rfl (en rfl (en rfl (en rfl (en rfl (en rfl (en rfl (en rfl (en rfl (en rfl (en rfl (en rfl (en rfl (en rfl (en rfl (en rfl (en rfl (en rfl (en rfl (en rfl s99)))))))))))))))))))))))))
                      have s100 := (hg 100).trans (en rfl (en rfl (en rfl (en rfl (en rfl (en rfl (en rfl (en rfl (en rfl (en rfl (en rfl (en rfl (en rfl (en rfl (en rfl (en rfl (en rfl (en rfl (en rfl (en rfl (en rfl (en rfl (en rfl (en rfl (en rfl s100)))))))))))))))))))))))))
                      have s101 := (hg 101).trans (en rfl (en rfl (en rfl (en rfl (en rfl (en rfl (en rfl (en rfl (en rfl (en rfl (en rfl (en rfl (en rfl (en rfl (en rfl (en rfl (en rfl (en rfl (en rfl (en rfl (en rfl (en rfl (en rfl (en rfl (en rfl s101)))))))))))))))))))))))))
                      have s125 := (hg 125).trans (en rfl (en rfl (en rfl (en rfl (en rfl (en rfl (en rfl (en rfl (en rfl (en rfl (en rfl (en rfl (en rfl (en rfl (en rfl (en rfl (en rfl (en rfl (en rfl (en rfl (en rfl (en rfl (en rfl (en rfl (en rfl s125)))))))))))))))))))))))))
                      have s134 := (hg 134).trans (en rfl (en rfl (en rfl (en rfl (en rfl (en rfl (en rfl (en rfl (en rfl (en rfl (en rfl (en rfl (en rfl (en rfl (en rfl (en rfl (en rfl (en rfl (en rfl (en rfl (en rfl (en rfl (en rfl (en rfl (en rfl s134)))))))))))))))))))))))))
                      have s137 := (hg 137).trans (en rfl (en rfl (en rfl (en rfl (en rfl (en rfl (en rfl (en rfl (en rfl (en rfl (en rfl (en rfl (en rfl (en rfl (en rfl (en rfl (en rfl (en rfl (en rfl (en rfl (en rfl (en rfl (en rfl (en rfl (en rfl s137)))))))))))))))))))))))))
                      have s138 := (hg 138).trans (en rfl (en rfl (en rfl (en rfl (en rfl (en rfl (en rfl (en rfl (en rfl (en rfl (en rfl (en rfl (en rfl (en rfl (en rfl (en rfl (en rfl (en rfl (en rfl (en rfl (en rfl (en rfl (en rfl (en rfl (en rfl s138)))))))))))))))))))))))))
                      have s139 := (hg 139).trans (en rfl (en rfl (en rfl (en rfl (en rfl (en rfl (en rfl (en rfl (en rfl (en rfl (en rfl (en rfl (en rfl (en rfl (en rfl (en rfl (en rfl (en rfl (en rfl (en rfl (en rfl (en rfl (en rfl (en rfl (en rfl s139)))))))))))))))))))))))))
                      have s169 := (hg 169).trans (en rfl (en rfl (en rfl (en rfl (en rfl (en rfl (en rfl (en rfl (en rfl (en rfl (en rfl (en rfl (en rfl (en rfl (en rfl (en rfl (en rfl (en rfl (en rfl (en rfl (en rfl (en rfl (en rfl (en rfl (en rfl s169)))))))))))))))))))))))))
                      have s171 := (hg 171).trans (en rfl (en rfl (en rfl (en rfl (en rfl (en rfl (en rfl (en rfl (en rfl (en rfl (en rfl (en rfl (en rfl (en rfl (en rfl (en rfl (en rfl (en rfl (en rfl (en rfl (en rfl (en rfl (en rfl (en rfl (en rfl s171)))))))))))))))))))))))))
                      have s172 := (hg 172).trans (en rfl (en rfl (en rfl (en rfl (en rfl (en rfl (en rfl (en rfl (en rfl (en rfl (en rfl (en rfl (en rfl (en rfl (en rfl (en rfl (en rfl (en rfl (en rfl (en rfl (en rfl (en rfl (en rfl (en rfl (en rfl s172)))))))))))))))))))))))))
                      have s173 := (hg 173).trans (en rfl (en rfl (en rfl (en rfl (en rfl (en rfl (en rfl (en rfl (en rfl (en rfl (en rfl (en rfl (en rfl (en rfl (en rfl (en rfl (en rfl (en rfl (en rfl (en rfl (en rfl (en rfl (en rfl (en rfl (en rfl s173)))))))))))))))))))))))))
                      have s174 := (hg 174).trans (en rfl (en rfl (en rfl (en rfl (en rfl (en rfl (en rfl (en rfl (en rfl (en rfl (en rfl (en rfl (en rfl (en rfl (en rfl (en rfl (en rfl (en rfl (en rfl (en rfl (en rfl (en rfl (en rfl (en rfl (en rfl s174)))))))))))))))))))))))))
                      have s208 := (hg 208).trans es
                      clear hg
                      refine xc_cond s208 (fun hc => by cases hc) (fun _ => ?_)
                      refine xc_skip ?_
                      refine hK60 _ _ ?_
                      refine xc_region ?_
                      refine x_val (r_add s173 ec (show _ = (((q + 1 : Nat) : Int) : Int) from by omega) (by unfold I64; omega)) (nd_of rfl) rfl ?_
                      refine x_val (r_move es) (nd_of rfl) rfl ?_
                      refine xw_nil ?_
                      have h := h.f1
                      have h := h.f6
                      have h := h.f6
                      have h := h.f6
                      have h := h.f6
                      have h := h.f6
                      exact ⟨oa.cs.length - (q + 1), by omega, ⟨q + 1, rfl, by omega, es, h.f5.drop.f5.drop⟩, ⟨((en rfl (en rfl s0))).trans zG57_0.symm, ((en rfl (en rfl s1))).trans zG57_1.symm, ((en rfl (en rfl s3))).trans zG57_3.symm, ((en rfl (en rfl s5))).trans zG57_5.symm, ((en rfl (en rfl s8))).trans zG57_8.symm, ((en rfl (en rfl s9))).trans zG57_9.symm, ((en rfl (en rfl s13))).trans zG57_13.symm, ((en rfl (en rfl s14))).trans zG57_14.symm, ((en rfl (en rfl s15))).trans zG57_15.symm, ((en rfl (en rfl s30))).trans zG57_30.symm, ((en rfl (en rfl s36))).trans zG57_36.symm, ((en rfl (en rfl s37))).trans zG57_37.symm, ((en rfl (en rfl s38))).trans zG57_38.symm, ((en rfl (en rfl s39))).trans zG57_39.symm, ((en rfl (en rfl s77))).trans zG57_77.symm, ((en rfl (en rfl s99))).trans zG57_99.symm, ((en rfl (en rfl s100))).trans zG57_100.symm, ((en rfl (en rfl s101))).trans zG57_101.symm, ((en rfl (en rfl s125))).trans zG57_125.symm, ((en rfl (en rfl s134))).trans zG57_134.symm, ((en rfl (en rfl s137))).trans zG57_137.symm, ((en rfl (en rfl s138))).trans zG57_138.symm, ((en rfl (en rfl s139))).trans zG57_139.symm, ((en rfl (en rfl s169))).trans zG57_169.symm, ((en rfl (en rfl s171))).trans zG57_171.symm, ((en rfl (en rfl s172))).trans zG57_172.symm⟩⟩
                    ·
                      skip
                      refine xc_seq (fun K hK64 => ?_)
                      have hokv : Ok 4 (valC (chA c).2).toArray := ⟨rfl, by simp [valC, Value.oneCell']⟩
                      have hwc := (ho.wfc c hcm).2
                      refine xc_region ?_
                      refine x_val (r_move s14) (nd_of rfl) rfl ?_
                      refine x_val (r_fieldAddr (o' := 0) Try.underlying46 rfl Try.sizeOf3 rfl (en rfl s17) rfl) (nd_of rfl) rfl ?_
                      refine x_val (r_load h 0 rfl Try.isAgg3 es gc0) (nd_of rfl) rfl ?_
                      refine x_enter (r_call Try.call17 (.cons (en rfl (en rfl es)) (.cons es .nil))) (nd_of rfl) rfl (get_mem (a := chA c) (key := c.1) hrl2 (apply_put hg l oa.cs hcm) rfl ((a_row h.f1).weak (fun _ h => h.f1)) (by omega) h) ?_
                      rintro _ w ⟨rfl, h⟩
                      refine x_val (r_move es) (nd_of rfl) rfl ?_
                      refine x_val (r_extract es gc0) (nd_of rfl) rfl ?_
                      refine x_val (r_extract (en rfl es) gc1) (nd_of rfl) rfl ?_
                      refine x_declA h Try.zeroValue44 Try.sizeOf44 rfl (en rfl (en rfl es)) (by first | assumption | exact Ok.node (by assumption) | exact xOk.cells (by assumption) | exact ChOk.ok (by assumption)) rfl ?_
                      intro b18 w h
                      refine x_val (r_assign (en rfl es)) (nd_of rfl) rfl ?_
                      refine xw_nil ?_
                      refine hK64 _ _ ?_
                      refine xc_gen (fun g hg => ?_)
                      have s0 := (hg 0).trans (en rfl (en rfl (en rfl (en rfl (en rfl (en rfl (en rfl (en rfl (en rfl s0)))))))))
                      have s1 := (hg 1).trans (en rfl (en rfl (en rfl (en rfl (en rfl (en rfl (en rfl (en rfl (en rfl s1)))))))))
                      have s3 := (hg 3).trans (en rfl (en rfl (en rfl (en rfl (en rfl (en rfl (en rfl (en rfl (en rfl s3)))))))))
                      have s5 := (hg 5).trans (en rfl (en rfl (en rfl (en rfl (en rfl (en rfl (en rfl (en rfl (en rfl s5)))))))))
                      have s8 := (hg 8).trans (en rfl (en rfl (en rfl (en rfl (en rfl (en rfl (en rfl (en rfl (en rfl s8)))))))))
                      have s9 := (hg 9).trans (en rfl (en rfl (en rfl (en rfl (en rfl (en rfl (en rfl (en rfl (en rfl s9)))))))))
                      have s13 := (hg 13).trans (en rfl (en rfl (en rfl (en rfl (en rfl (en rfl (en rfl (en rfl (en rfl s13)))))))))
                      have s14 := (hg 14).trans (en rfl (en rfl (en rfl (en rfl (en rfl (en rfl (en rfl (en rfl (en rfl s14)))))))))
                      have s15 := (hg 15).trans (en rfl (en rfl (en rfl (en rfl (en rfl (en rfl (en rfl (en rfl (en rfl s15)))))))))
                      have s17 := (hg 17).trans (en rfl (en rfl (en rfl (en rfl (en rfl (en rfl (en rfl (en rfl (en rfl s17)))))))))
                      have s18 := (hg 18).trans (en rfl es)
                      have s19 := (hg 19).trans es
                      have s30 := (hg 30).trans (en rfl (en rfl (en rfl (en rfl (en rfl (en rfl (en rfl (en rfl (en rfl s30)))))))))
                      have s36 := (hg 36).trans (en rfl (en rfl (en rfl (en rfl (en rfl (en rfl (en rfl (en rfl (en rfl s36)))))))))
                      have s37 := (hg 37).trans (en rfl (en rfl (en rfl (en rfl (en rfl (en rfl (en rfl (en rfl (en rfl s37)))))))))
                      have s38 := (hg 38).trans (en rfl (en rfl (en rfl (en rfl (en rfl (en rfl (en rfl (en rfl (en rfl s38)))))))))
                      have s39 := (hg 39).trans (en rfl (en rfl (en rfl (en rfl (en rfl (en rfl (en rfl (en rfl (en rfl s39)))))))))
                      have s77 := (hg 77).trans (en rfl (en rfl (en rfl (en rfl (en rfl (en rfl (en rfl (en rfl (en rfl s77)))))))))
                      have s99 := (hg 99).trans (en rfl (en rfl (en rfl (en rfl (en rfl (en rfl (en rfl (en rfl (en rfl s99)))))))))
                      have s100 := (hg 100).trans (en rfl (en rfl (en rfl (en rfl (en rfl (en rfl (en rfl (en rfl (en rfl s100)))))))))
                      have s101 := (hg 101).trans (en rfl (en rfl (en rfl (en rfl (en rfl (en rfl (en rfl (en rfl (en rfl s101)))))))))
                      have s125 := (hg 125).trans (en rfl (en rfl (en rfl (en rfl (en rfl (en rfl (en rfl (en rfl (en rfl s125)))))))))
                      have s134 := (hg 134).trans (en rfl (en rfl (en rfl (en rfl (en rfl (en rfl (en rfl (en rfl (en rfl s134)))))))))
                      have s137 := (hg 137).trans (en rfl (en rfl (en rfl (en rfl (en rfl (en rfl (en rfl (en rfl (en rfl s137)))))))))
                      have s138 := (hg 138).trans (en rfl (en rfl (en rfl (en rfl (en rfl (en rfl (en rfl (en rfl (en rfl s138)))))))))
                      have s139 := (hg 139).trans (en rfl (en rfl (en rfl (en rfl (en rfl (en rfl (en rfl (en rfl (en rfl s139)))))))))
                      have s169 := (hg 169).trans (en rfl (en rfl (en rfl (en rfl (en rfl (en rfl (en rfl (en rfl (en rfl s169)))))))))
                      have s171 := (hg 171).trans (en rfl (en rfl (en rfl (en rfl (en rfl (en rfl (en rfl (en rfl (en rfl s171)))))))))
                      have s172 := (hg 172).trans (en rfl (en rfl (en rfl (en rfl (en rfl (en rfl (en rfl (en rfl (en rfl s172)))))))))
                      have s173 := (hg 173).trans (en rfl (en rfl (en rfl (en rfl (en rfl (en rfl (en rfl (en rfl (en rfl s173)))))))))
                      have s174 := (hg 174).trans (en rfl (en rfl (en rfl (en rfl (en rfl (en rfl (en rfl (en rfl (en rfl s174)))))))))
                      clear hg
                      refine xc_seq (fun K hK65 => ?_)
                      refine xc_region ?_
                      refine x_val (r_move s13) (nd_of rfl) rfl ?_
                      refine x_val (r_fieldAddr (o' := 1) Try.underlying26 rfl Try.sizeOf3 rfl (en rfl s3) rfl) (nd_of rfl) rfl ?_
                      refine x_val (r_load h 6 rfl Try.isAgg3 es gc1) (nd_of rfl) rfl ?_
                      refine x_val (r_geq (en rfl (en rfl es)) es (decide_eq_true (by omega))) (nd_of rfl) rfl ?_
                      refine x_val (r_move es) (nd_of rfl) rfl ?_
                      refine x_take (d := 188) rfl rfl es ?_
                      refine x_val (r_move (en rfl (en rfl (en rfl (en rfl (en rfl s13)))))) (nd_of rfl) rfl ?_
                      refine x_take (d := 188) rfl rfl (en rfl es) ?_
                      refine x_val (r_fieldAddr (o' := 2) Try.underlying26 rfl Try.sizeOf3 rfl (en rfl (en rfl (en rfl (en rfl (en rfl (en rfl s3)))))) rfl) (nd_of rfl) rfl ?_
                      refine x_take (d := 188) rfl rfl (en rfl (en rfl es)) ?_
                      refine x_val (r_load h 6 rfl Try.isAgg3 es gc2) (nd_of rfl) rfl ?_
                      refine x_take (d := 188) rfl rfl (en rfl (en rfl (en rfl es))) ?_
                      refine x_val (r_lss (en rfl (en rfl es)) es (decide_eq_true (by omega))) (nd_of rfl) rfl ?_
                      refine x_val (r_pick_t (en rfl (en rfl (en rfl (en rfl es)))) es) (nd_of rfl) rfl ?_
                      refine x_val (r_move es) (nd_of rfl) rfl ?_
                      refine x_take (d := 194) rfl rfl es ?_
                      refine x_val (r_move (en rfl (en rfl (en rfl (en rfl (en rfl (en rfl (en rfl (en rfl (en rfl (en rfl (en rfl s19)))))))))))) (nd_of rfl) rfl ?_
                      refine x_take (d := 194) rfl rfl (en rfl es) ?_
                      refine x_val (r_fieldAddr (o' := 1) Try.underlying46 rfl Try.sizeOf4 rfl (en rfl (en rfl (en rfl (en rfl (en rfl (en rfl (en rfl (en rfl (en rfl (en rfl (en rfl (en rfl s17)))))))))))) rfl) (nd_of rfl) rfl ?_
                      refine x_take (d := 194) rfl rfl (en rfl (en rfl es)) ?_
                      refine x_val (r_load h 1 rfl Try.isAgg4 es gc1) (nd_of rfl) rfl ?_
                      refine x_take (d := 194) rfl rfl (en rfl (en rfl (en rfl es))) ?_
                      refine x_val (r_eqb Try.underlying4 (en rfl (en rfl es)) es (r := false) (by rw [hg]; rfl)) (nd_of rfl) rfl ?_
                      refine x_take (d := 194) rfl rfl (en rfl (en rfl (en rfl (en rfl es)))) ?_
                      refine x_val (r_move es) (nd_of rfl) rfl ?_
                      refine x_take (d := 199) rfl rfl es ?_
                      refine x_val (r_move (en rfl (en rfl (en rfl (en rfl (en rfl (en rfl (en rfl (en rfl (en rfl (en rfl (en rfl (en rfl (en rfl (en rfl (en rfl (en rfl s19))))))))))))))))) (nd_of rfl) rfl ?_
                      refine x_take (d := 199) rfl rfl (en rfl es) ?_
                      refine x_val (r_move es) (nd_of rfl) rfl ?_
                      refine x_take (d := 201) rfl rfl es ?_
                      refine x_val (r_loadAgg h 0 rfl Try.isAgg44 Try.sizeOf44 (en rfl (en rfl (en rfl (en rfl (en rfl (en rfl (en rfl (en rfl (en rfl (en rfl (en rfl (en rfl (en rfl (en rfl (en rfl (en rfl (en rfl (en rfl s18)))))))))))))))))) (by exact Nat.le_refl _) (ext_full rfl)) (nd_of rfl) rfl ?_
                      refine x_take (d := 201) rfl rfl (en rfl es) ?_
                      refine x_val (r_fieldAddr (o' := 2) Try.underlying46 rfl Try.sizeOf44 rfl (en rfl (en rfl (en rfl (en rfl (en rfl (en rfl (en rfl (en rfl (en rfl (en rfl (en rfl (en rfl (en rfl (en rfl (en rfl (en rfl (en rfl (en rfl (en rfl s17))))))))))))))))))) rfl) (nd_of rfl) rfl ?_
                      refine x_take (d := 201) rfl rfl (en rfl (en rfl es)) ?_
                      refine x_val (r_loadAgg (ds := (valC c.2.2).toArray) h 1 rfl Try.isAgg44 Try.sizeOf44 es (by exact Nat.le_refl _) (by kernel_rfl)) (nd_of rfl) rfl ?_
                      refine x_take (d := 201) rfl rfl (en rfl (en rfl (en rfl es))) ?_
                      refine x_val (r_neqSelf (en rfl (en rfl es)) es (by kernel_rfl) (by kernel_rfl) (keyV (n := 2) hwc) (by kernel_rfl)) (nd_of rfl) rfl ?_
                      refine x_take (d := 199) rfl rfl (en rfl (en rfl (en rfl (en rfl (en rfl (en rfl es)))))) ?_
                      refine x_val (r_pick_t (en rfl (en rfl (en rfl (en rfl es)))) es) (nd_of rfl) rfl ?_
                      refine x_take (d := 194) rfl rfl (en rfl (en rfl (en rfl (en rfl (en rfl (en rfl (en rfl (en rfl (en rfl (en rfl (en rfl (en rfl es)))))))))))) ?_
                      refine x_val (r_pick_f (en rfl (en rfl (en rfl (en rfl (en rfl (en rfl (en rfl es))))))) es) (nd_of rfl) rfl ?_
                      refine x_val (r_pick_t (en rfl (en rfl (en rfl (en rfl (en rfl (en rfl (en rfl (en rfl (en rfl (en rfl (en rfl (en rfl (en rfl es))))))))))))) es) (nd_of rfl) rfl ?_
                      refine xw_nil ?_
                      refine hK65 _ _ ?_
                      refine xc_gen (fun g hg => ?_)
                      have s0 := (hg 0).trans (en rfl (en rfl (en rfl (en rfl (en rfl (en rfl (en rfl (en rfl (en rfl (en rfl (en rfl (en rfl (en rfl (en rfl (en rfl (en rfl (en rfl (en rfl (en rfl (en rfl (en rfl (en rfl (en rfl (en rfl (en rfl s0)))))))))))))))))))))))))
                      have s1 := (hg 1).trans (en rfl (en rfl (en rfl (en rfl (en rfl (en rfl (en rfl (en rfl (en rfl (en rfl (en rfl (en rfl (en rfl (en rfl (en rfl (en rfl (en rfl (en rfl (en rfl (en rfl (en rfl (en rfl (en rfl (en rfl (en rfl s1)))))))))))))))))))))))))
                      have s3 := (hg 3).trans (en rfl (en rfl (en rfl (en rfl (en rfl (en rfl (en rfl (en rfl (en rfl (en rfl (en rfl (en rfl (en rfl (en rfl (en rfl (en rfl (en rfl (en rfl (en rfl (en rfl (en rfl (en rfl (en rfl (en rfl (en rfl s3)))))))))))))))))))))))))
                      have s5 := (hg 5).trans (en rfl (en rfl (en rfl (en rfl (en rfl (en rfl (en rfl (en rfl (en rfl (en rfl (en rfl (en rfl (en rfl (en rfl (en rfl (en rfl (en rfl (en rfl (en rfl (en rfl (en rfl (en rfl (en rfl (en rfl (en rfl s5)))))))))))))))))))))))))
                      have s8 := (hg 8).trans (en rfl (en rfl (en rfl (en rfl (en rfl (en rfl (en rfl (en rfl (en rfl (en rfl (en rfl (en rfl (en rfl (en rfl (en rfl (en rfl (en rfl (en rfl (en rfl (en rfl (en rfl (en rfl (en rfl (en rfl (en rfl s8)))))))))))))))))))))))))
                      have s9 := (hg 9).trans (en rfl (en rfl (en rfl (en rfl (en rfl (en rfl (en rfl (en rfl (en rfl (en rfl (en rfl (en rfl (en rfl (en rfl (en rfl (en rfl (en rfl (en rfl (en rfl (en rfl (en rfl (en rfl (en rfl (en rfl (en rfl s9)))))))))))))))))))))))))
                      have s13 := (hg 13).trans (en rfl (en rfl (en rfl (en rfl (en rfl (en rfl (en rfl (en rfl (en rfl (en rfl (en rfl (en rfl (en rfl (en rfl (en rfl (en rfl (en rfl (en rfl (en rfl (en rfl (en rfl (en rfl (en rfl (en rfl (en rfl s13)))))))))))))))))))))))))
                      have s14 := (hg 14).trans (en rfl (en rfl (en rfl (en rfl (en rfl (en rfl (en rfl (en rfl (en rfl (en rfl (en rfl (en rfl (en rfl (en rfl (en rfl (en rfl (en rfl (en rfl (en rfl (en rfl (en rfl (en rfl (en rfl (en rfl (en rfl s14)))))))))))))))))))))))))
                      have s15 := (hg 15).trans (en rfl (en rfl (en rfl (en rfl (en rfl (en rfl (en rfl (en rfl (en rfl (en rfl (en rfl (en rfl (en rfl (en rfl (en rfl (en rfl (en rfl (en rfl (en rfl (en rfl (en rfl (en rfl (en rfl (en rfl (en rfl s15)))))))))))))))))))))))))
                      have s17 := (hg 17).trans (en rfl (en rfl (en rfl (en rfl (en rfl (en rfl (en rfl (en rfl (en rfl (en rfl (en rfl (en rfl (en rfl (en rfl (en rfl (en rfl (en rfl (en rfl (en rfl (en rfl (en rfl (en rfl (en rfl (en rfl (en rfl s17)))))))))))))))))))))))))
                      have s18 := (hg 18).trans (en rfl (en rfl (en rfl (en rfl (en rfl (en rfl (en rfl (en rfl (en rfl (en rfl (en rfl (en rfl (en rfl (en rfl (en rfl (en rfl (en rfl (en rfl (en rfl (en rfl (en rfl (en rfl (en rfl (en rfl (en rfl s18)))))))))))))))))))))))))
                      have s19 := (hg 19).trans (en rfl (en rfl (en rfl (en rfl (en rfl (en rfl (en rfl (en rfl (en rfl (en rfl (en rfl (en rfl (en rfl (en rfl (en rfl (en rfl (en rfl (en rfl (en rfl (en rfl (en rfl (en rfl (en rfl (en rfl (en rfl s19)))))))))))))))))))))))))
                      have s30 := (hg 30).trans (en rfl (en rfl (en rfl (en rfl (en rfl (en rfl (en rfl (en rfl (en rfl (en rfl (en rfl (en rfl (en rfl (en rfl (en rfl (en rfl (en rfl (en rfl (en rfl (en rfl (en rfl (en rfl (en rfl (en rfl (en rfl s30)))))))))))))))))))))))))
                      have s36 := (hg 36).trans (en rfl (en rfl (en rfl (en rfl (en rfl (en rfl (en rfl (en rfl (en rfl (en rfl (en rfl (en rfl (en rfl (en rfl (en rfl (en rfl (en rfl (en rfl (en rfl (en rfl (en rfl (en rfl (en rfl (en rfl (en rfl s36)))))))))))))))))))))))))
                      have s37 := (hg 37).trans (en rfl (en rfl (en rfl (en rfl (en rfl (en rfl (en rfl (en rfl (en rfl (en rfl (en rfl (en rfl (en rfl (en rfl (en rfl (en rfl (en rfl (en rfl (en rfl (en rfl (en rfl (en rfl (en rfl (en rfl (en rfl s37)))))))))))))))))))))))))
                      have s38 := (hg 38).trans (en rfl (en rfl (en rfl (en rfl (en rfl (en rfl (en rfl (en rfl (en rfl (en rfl (en rfl (en rfl (en rfl (en rfl (en rfl (en rfl (en rfl (en rfl (en rfl (en rfl (en rfl (en rfl (en rfl (en rfl (en rfl s38)))))))))))))))))))))))))
                      have s39 := (hg 39).trans (en rfl (en rfl (en rfl (en rfl (en rfl (en rfl (en rfl (en rfl (en rfl (en rfl (en rfl (en rfl (en rfl (en rfl (en rfl (en rfl (en rfl (en rfl (en rfl (en rfl (en rfl (en rfl (en rfl (en rfl (en rfl s39)))))))))))))))))))))))))
                      have s77 := (hg 77).trans (en rfl (en rfl (en rfl (en rfl (en rfl (en rfl (en rfl (en rfl (en rfl (en rfl (en rfl (en rfl (en rfl (en rfl (en rfl (en rfl (en rfl (en rfl (en rfl (en rfl (en rfl (en rfl (en rfl (en rfl (en rfl s77)))))))))))))))))))))))))
                      have s99 := (hg 99).trans (en rfl (en rfl (en rfl (en rfl (en rfl (en rfl (en rfl (en rfl (en rfl (en rfl (en rfl (en rfl (en rfl (en rfl (en rfl (en rfl (en rfl (en rfl (en rfl (en rfl (en rfl (en rfl (en rfl (en rfl (en rfl s99)))))))))))))))))))))))))
                      have s100 := (hg 100).trans (en rfl (en rfl (en rfl (en rfl (en rfl (en rfl (en rfl (en rfl (en rfl (en rfl (en rfl (en rfl (en rfl (en rfl (en rfl (en rfl (en rfl (en rfl (en rfl (en rfl (en rfl (en rfl (en rfl (en rfl (en rfl s100)))))))))))))))))))))))))
                      have s101 := (hg 101).trans (en rfl (en rfl (en rfl (en rfl (en rfl (en rfl (en rfl (en rfl (en rfl (en rfl (en rfl (en rfl (en rfl (en rfl (en rfl (en rfl (en rfl (en rfl (en rfl (en rfl (en rfl (en rfl (en rfl (en rfl (en rfl s101)))))))))))))))))))))))))
                      have s125 := (hg 125).trans (en rfl (en rfl (en rfl (en rfl (en rfl (en rfl (en rfl (en rfl (en rfl (en rfl (en rfl (en rfl (en rfl (en rfl (en rfl (en rfl (en rfl (en rfl (en rfl (en rfl (en rfl (en rfl (en rfl (en rfl (en rfl s125)))))))))))))))))))))))))
                      have s134 := (hg 134).trans (en rfl (en rfl (en rfl (en rfl (en rfl (en rfl (en rfl (en rfl (en rfl (en rfl (en rfl (en rfl (en rfl (en rfl (en rfl (en rfl (en rfl (en rfl (en rfl (en rfl (en rfl (en rfl (en rfl (en rfl (en rfl s134)))))))))))))))))))))))))
                      have s137 := (hg 137).trans (en rfl (en rfl (en rfl (en rfl (en rfl (en rfl (en rfl (en rfl (en rfl (en rfl (en rfl (en rfl (en rfl (en rfl (en rfl (en rfl (en rfl (en rfl (en rfl (en rfl (en rfl (en rfl (en rfl (en rfl (en rfl s137)))))))))))))))))))))))))
                      have s138 := (hg 138).trans (en rfl (en rfl (en rfl (en rfl (en rfl (en rfl (en rfl (en rfl (en rfl (en rfl (en rfl (en rfl (en rfl (en rfl (en rfl (en rfl (en rfl (en rfl (en rfl (en rfl (en rfl (en rfl (en rfl (en rfl (en rfl s138)))))))))))))))))))))))))
                      have s139 := (hg 139).trans (en rfl (en rfl (en rfl (en rfl (en rfl (en rfl (en rfl (en rfl (en rfl (en rfl (en rfl (en rfl (en rfl (en rfl (en rfl (en rfl (en rfl (en rfl (en rfl (en rfl (en rfl (en rfl (en rfl (en rfl (en rfl s139)))))))))))))))))))))))))
                      have s169 := (hg 169).trans (en rfl (en rfl (en rfl (en rfl (en rfl (en rfl (en rfl (en rfl (en rfl (en rfl (en rfl (en rfl (en rfl (en rfl (en rfl (en rfl (en rfl (en rfl (en rfl (en rfl (en rfl (en rfl (en rfl (en rfl (en rfl s169)))))))))))))))))))))))))
                      have s171 := (hg 171).trans (en rfl (en rfl (en rfl (en rfl (en rfl (en rfl (en rfl (en rfl (en rfl (en rfl (en rfl (en rfl (en rfl (en rfl (en rfl (en rfl (en rfl (en rfl (en rfl (en rfl (en rfl (en rfl (en rfl (en rfl (en rfl s171)))))))))))))))))))))))))
                      have s172 := (hg 172).trans (en rfl (en rfl (en rfl (en rfl (en rfl (en rfl (en rfl (en rfl (en rfl (en rfl (en rfl (en rfl (en rfl (en rfl (en rfl (en rfl (en rfl (en rfl (en rfl (en rfl (en rfl (en rfl (en rfl (en rfl (en rfl s172)))))))))))))))))))))))))
                      have s173 := (hg 173).trans (en rfl (en rfl (en rfl (en rfl (en rfl (en rfl (en rfl (en rfl (en rfl (en rfl (en rfl (en rfl (en rfl (en rfl (en rfl (en rfl (en rfl (en rfl (en rfl (en rfl (en rfl (en rfl (en rfl (en rfl (en rfl s173)))))))))))))))))))))))))
                      have s174 := (hg 174).trans (en rfl (en rfl (en rfl (en rfl (en rfl (en rfl (en rfl (en rfl (en rfl (en rfl (en rfl (en rfl (en rfl (en rfl (en rfl (en rfl (en rfl (en rfl (en rfl (en rfl (en rfl (en rfl (en rfl (en rfl (en rfl s174)))))))))))))))))))))))))
                      have s208 := (hg 208).trans es
                      clear hg
                      refine xc_cond s208 (fun hc => by cases hc) (fun _ => ?_)
                      refine xc_skip ?_
                      refine hK60 _ _ ?_
                      refine xc_region ?_
                      refine x_val (r_add s173 ec (show _ = (((q + 1 : Nat) : Int) : Int) from by omega) (by unfold I64; omega)) (nd_of rfl) rfl ?_
                      refine x_val (r_move es) (nd_of rfl) rfl ?_
                      refine xw_nil ?_
                      have h := h.f1
                      have h := h.f6
                      have h := h.f6
                      have h := h.f6
                      have h := h.f6
                      have h := h.f6
                      exact ⟨oa.cs.length - (q + 1), by omega, ⟨q + 1, rfl, by omega, es, h.f5.drop.f5.drop⟩, ⟨((en rfl (en rfl s0))).trans zG57_0.symm, ((en rfl (en rfl s1))).trans zG57_1.symm, ((en rfl (en rfl s3))).trans zG57_3.symm, ((en rfl (en rfl s5))).trans zG57_5.symm, ((en rfl (en rfl s8))).trans zG57_8.symm, ((en rfl (en rfl s9))).trans zG57_9.symm, ((en rfl (en rfl s13))).trans zG57_13.symm, ((en rfl (en rfl s14))).trans zG57_14.symm, ((en rfl (en rfl s15))).trans zG57_15.symm, ((en rfl (en rfl s30))).trans zG57_30.symm, ((en rfl (en rfl s36))).trans zG57_36.symm, ((en rfl (en rfl s37))).trans zG57_37.symm, ((en rfl (en rfl s38))).trans zG57_38.symm, ((en rfl (en rfl s39))).trans zG57_39.symm, ((en rfl (en rfl s77))).trans zG57_77.symm, ((en rfl (en rfl s99))).trans zG57_99.symm, ((en rfl (en rfl s100))).trans zG57_100.symm, ((en rfl (en rfl s101))).trans zG57_101.symm, ((en rfl (en rfl s125))).trans zG57_125.symm, ((en rfl (en rfl s134))).trans zG57_134.symm, ((en rfl (en rfl s137))).trans zG57_137.symm, ((en rfl (en rfl s138))).trans zG57_138.symm, ((en rfl (en rfl s139))).trans zG57_139.symm, ((en rfl (en rfl s169))).trans zG57_169.symm, ((en rfl (en rfl s171))).trans zG57_171.symm, ((en rfl (en rfl s172))).trans zG57_172.symm⟩⟩
                  ·
                    refine xc_exit ?_
                    refine hK40 _ _ ?_
                    refine xc_region ?_
                    refine x_val (r_add s138 ec (show _ = (((k + 1 : Nat) : Int) : Int) from by omega) (by unfold I64; omega)) (nd_of rfl) rfl ?_
                    refine x_val (r_move es) (nd_of rfl) rfl ?_
                    refine xw_nil ?_
                    have h := h.f4
                    have h := h.f4
                    have h := h.f4
                    have h := h.f4
                    exact ⟨ys.length - (k + 1), by omega, ⟨k + 1, rfl, by omega, es, h.f4.drop⟩, ⟨((en rfl (en rfl s0))).trans zG37_0.symm, ((en rfl (en rfl s1))).trans zG37_1.symm, ((en rfl (en rfl s3))).trans zG37_3.symm, ((en rfl (en rfl s5))).trans zG37_5.symm, ((en rfl (en rfl s8))).trans zG37_8.symm, ((en rfl (en rfl s9))).trans zG37_9.symm, ((en rfl (en rfl s30))).trans zG37_30.symm, ((en rfl (en rfl s36))).trans zG37_36.symm, ((en rfl (en rfl s37))).trans zG37_37.symm, ((en rfl (en rfl s38))).trans zG37_38.symm, ((en rfl (en rfl s39))).trans zG37_39.symm, ((en rfl (en rfl s77))).trans zG37_77.symm, ((en rfl (en rfl s99))).trans zG37_99.symm, ((en rfl (en rfl s100))).trans zG37_100.symm, ((en rfl (en rfl s101))).trans zG37_101.symm, ((en rfl (en rfl s125))).trans zG37_125.symm, ((en rfl (en rfl s134))).trans zG37_134.symm, ((en rfl (en rfl s137))).trans zG37_137.symm⟩⟩
                ·
                  skip
                  refine xc_seq (fun K hK66 => ?_)
                  have hl2 : LL[k]? = some l := by rw [hLL, pat_out hp2 (.inr hk2)]; exact hl
                  have hle2 := hI3.each _ (List.mem_of_getElem? hl2)
                  have hrl2 := hle2.2.1
                  refine xc_region ?_
                  refine x_val (r_move s5) (nd_of rfl) rfl ?_
                  refine x_val (r_move (en rfl s13)) (nd_of rfl) rfl ?_
                  refine x_enter (r_call Try.call15 (.cons (en rfl es) (.cons es .nil))) (nd_of rfl) rfl (atP (n := k) hl2 (by omega) (by omega) h) ?_
                  rintro _ w ⟨v5, rfl, h⟩
                  obtain ⟨a5, c5, rfl, _, _⟩ := h.rowVal
                  obtain ⟨adu, cu2, xu, evu, hnu, hcellu, hac⟩ := hS.at hl h.drop
                  simp only [Value.slice.injEq] at evu
                  obtain ⟨rfl, _, rfl⟩ := evu
                  refine x_val (r_move es) (nd_of rfl) rfl ?_
                  refine x_val (r_extract es gc0) (nd_of rfl) rfl ?_
                  refine x_val (r_extract (en rfl es) gc1) (nd_of rfl) rfl ?_
                  refine x_val (r_assign (en rfl es)) (nd_of rfl) rfl ?_
                  refine x_val (r_assign (en rfl es)) (nd_of rfl) rfl ?_
                  refine xw_nil ?_
                  refine hK66 _ _ ?_
                  refine xc_gen (fun g hg => ?_)
                  have s0 := (hg 0).trans (en rfl (en rfl (en rfl (en rfl (en rfl (en rfl (en rfl (en rfl s0))))))))
                  have s1 := (hg 1).trans (en rfl (en rfl (en rfl (en rfl (en rfl (en rfl (en rfl (en rfl s1))))))))
                  have s3 := (hg 3).trans (en rfl (en rfl (en rfl (en rfl (en rfl (en rfl (en rfl (en rfl s3))))))))
                  have s5 := (hg 5).trans (en rfl (en rfl (en rfl (en rfl (en rfl (en rfl (en rfl (en rfl s5))))))))
                  have s8 := (hg 8).trans (en rfl (en rfl (en rfl (en rfl (en rfl (en rfl (en rfl (en rfl s8))))))))
                  have s9 := (hg 9).trans (en rfl (en rfl (en rfl (en rfl (en rfl (en rfl (en rfl (en rfl s9))))))))
                  have s13 := (hg 13).trans (en rfl (en rfl (en rfl (en rfl (en rfl (en rfl (en rfl (en rfl s13))))))))
                  have s14 := (hg 14).trans (en rfl es)
                  have s15 := (hg 15).trans es
                  have s30 := (hg 30).trans (en rfl (en rfl (en rfl (en rfl (en rfl (en rfl (en rfl (en rfl s30))))))))
                  have s36 := (hg 36).trans (en rfl (en rfl (en rfl (en rfl (en rfl (en rfl (en rfl (en rfl s36))))))))
                  have s37 := (hg 37).trans (en rfl (en rfl (en rfl (en rfl (en rfl (en rfl (en rfl (en rfl s37))))))))
                  have s38 := (hg 38).trans (en rfl (en rfl (en rfl (en rfl (en rfl (en rfl (en rfl (en rfl s38))))))))
                  have s39 := (hg 39).trans (en rfl (en rfl (en rfl (en rfl (en rfl (en rfl (en rfl (en rfl s39))))))))
                  have s77 := (hg 77).trans (en rfl (en rfl (en rfl (en rfl (en rfl (en rfl (en rfl (en rfl s77))))))))
                  have s99 := (hg 99).trans (en rfl (en rfl (en rfl (en rfl (en rfl (en rfl (en rfl (en rfl s99))))))))
                  have s100 := (hg 100).trans (en rfl (en rfl (en rfl (en rfl (en rfl (en rfl (en rfl (en rfl s100))))))))
                  have s101 := (hg 101).trans (en rfl (en rfl (en rfl (en rfl (en rfl (en rfl (en rfl (en rfl s101))))))))
                  have s125 := (hg 125).trans (en rfl (en rfl (en rfl (en rfl (en rfl (en rfl (en rfl (en rfl s125))))))))
                  have s134 := (hg 134).trans (en rfl (en rfl (en rfl (en rfl (en rfl (en rfl (en rfl (en rfl s134))))))))
                  have s137 := (hg 137).trans (en rfl (en rfl (en rfl (en rfl (en rfl (en rfl (en rfl (en rfl s137))))))))
                  have s138 := (hg 138).trans (en rfl (en rfl (en rfl (en rfl (en rfl (en rfl (en rfl (en rfl s138))))))))
                  have s139 := (hg 139).trans (en rfl (en rfl (en rfl (en rfl (en rfl (en rfl (en rfl (en rfl s139))))))))
                  clear hg
                  refine xc_seq (fun K hK67 => ?_)
                  refine xc_seq (fun K hK68 => ?_)
                  refine xc_region ?_
                  refine x_val (r_move s15) (nd_of rfl) rfl ?_
                  refine x_val (r_neq es ec (r := false) rfl) (nd_of rfl) rfl ?_
                  refine x_val (r_move es) (nd_of rfl) rfl ?_
                  refine x_take (d := 149) rfl rfl es ?_
                  refine x_val (r_move (en rfl (en rfl (en rfl s13)))) (nd_of rfl) rfl ?_
                  refine x_take (d := 149) rfl rfl (en rfl es) ?_
                  refine x_val (r_fieldAddr (o' := 1) Try.underlying26 rfl Try.sizeOf3 rfl (en rfl (en rfl (en rfl (en rfl s3)))) rfl) (nd_of rfl) rfl ?_
                  refine x_take (d := 149) rfl rfl (en rfl (en rfl es)) ?_
                  refine x_val (r_load h 4 rfl Try.isAgg3 es gc1) (nd_of rfl) rfl ?_
                  refine x_take (d := 149) rfl rfl (en rfl (en rfl (en rfl es))) ?_
                  refine x_val (r_lss (en rfl (en rfl es)) es (decide_eq_false (by omega))) (nd_of rfl) rfl ?_
                  refine x_take (d := 149) rfl rfl (en rfl (en rfl (en rfl (en rfl es)))) ?_
                  refine x_val (r_move es) (nd_of rfl) rfl ?_
                  refine x_take (d := 154) rfl rfl es ?_
                  refine x_val (r_move (en rfl (en rfl (en rfl (en rfl (en rfl (en rfl (en rfl (en rfl s13))))))))) (nd_of rfl) rfl ?_
                  refine x_take (d := 154) rfl rfl (en rfl es) ?_
                  refine x_val (r_fieldAddr (o' := 2) Try.underlying26 rfl Try.sizeOf3 rfl (en rfl (en rfl (en rfl (en rfl (en rfl (en rfl (en rfl (en rfl (en rfl s3))))))))) rfl) (nd_of rfl) rfl ?_
                  refine x_take (d := 154) rfl rfl (en rfl (en rfl es)) ?_
                  refine x_val (r_load h 4 rfl Try.isAgg3 es gc2) (nd_of rfl) rfl ?_
                  refine x_take (d := 154) rfl rfl (en rfl (en rfl (en rfl es))) ?_
                  refine x_val (r_geq (en rfl (en rfl es)) es (decide_eq_true (by omega))) (nd_of rfl) rfl ?_
                  refine x_take (d := 149) rfl rfl (en rfl (en rfl (en rfl (en rfl (en rfl (en rfl (en rfl (en rfl (en rfl es))))))))) ?_
                  refine x_val (r_pick_f (en rfl (en rfl (en rfl (en rfl es)))) es) (nd_of rfl) rfl ?_
                  refine x_take (d := 149) rfl rfl (en rfl (en rfl (en rfl (en rfl (en rfl (en rfl (en rfl (en rfl (en rfl (en rfl es)))))))))) ?_
                  refine x_val (r_move es) (nd_of rfl) rfl ?_
                  refine x_take (d := 160) rfl rfl es ?_
                  refine x_val (r_move (en rfl (en rfl (en rfl (en rfl (en rfl (en rfl (en rfl (en rfl (en rfl (en rfl (en rfl (en rfl (en rfl (en rfl s14))))))))))))))) (nd_of rfl) rfl ?_
                  refine x_take (d := 160) rfl rfl (en rfl es) ?_
                  refine x_val (r_move (en rfl (en rfl (en rfl (en rfl (en rfl (en rfl (en rfl (en rfl (en rfl (en rfl (en rfl (en rfl (en rfl (en rfl (en rfl s8)))))))))))))))) (nd_of rfl) rfl ?_
                  refine x_take (d := 160) rfl rfl (en rfl (en rfl es)) ?_
                  refine x_val (r_move (en rfl (en rfl (en rfl (en rfl (en rfl (en rfl (en rfl (en rfl (en rfl (en rfl (en rfl (en rfl (en rfl (en rfl (en rfl (en rfl s13))))))))))))))))) (nd_of rfl) rfl ?_
                  refine x_take (d := 160) rfl rfl (en rfl (en rfl (en rfl es))) ?_
                  refine x_val (r_index1 Try.underlying23 Try.sizeOf38 (en rfl es) es hkl2) (nd_of rfl) rfl ?_
                  refine x_take (d := 160) rfl rfl (en rfl (en rfl (en rfl (en rfl es)))) ?_
                  refine x_val (r_loadCell Try.isAgg38 es (hcellu _ h.drop)) (nd_of rfl) rfl ?_
                  refine x_take (d := 160) rfl rfl (en rfl (en rfl (en rfl (en rfl (en rfl es))))) ?_
                  refine x_enter (r_call Try.call16 (.cons (en rfl (en rfl (en rfl (en rfl es)))) (.cons es .nil))) (nd_of rfl) rfl (same_yes (l := l) (a_row h) (hac.weak (fun _ h => h.drop)) hle.2.2 (by omega) h) ?_
                  rintro _ w ⟨rfl, h⟩
                  refine x_take (d := 160) rfl rfl (en rfl (en rfl (en rfl (en rfl (en rfl (en rfl es)))))) ?_
                  refine x_val (r_not es rfl) (nd_of rfl) rfl ?_
                  refine x_take (d := 149) rfl rfl (en rfl (en rfl (en rfl (en rfl (en rfl (en rfl (en rfl (en rfl (en rfl (en rfl (en rfl (en rfl (en rfl (en rfl (en rfl (en rfl (en rfl (en rfl es)))))))))))))))))) ?_
                  refine x_val (r_pick_t (en rfl (en rfl (en rfl (en rfl (en rfl (en rfl (en rfl es))))))) es) (nd_of rfl) rfl ?_
                  refine x_val (r_pick_f (en rfl (en rfl (en rfl (en rfl (en rfl (en rfl (en rfl (en rfl (en rfl (en rfl (en rfl (en rfl (en rfl (en rfl (en rfl (en rfl (en rfl (en rfl (en rfl es))))))))))))))))))) es) (nd_of rfl) rfl ?_
                  refine xw_nil ?_
                  refine hK68 _ _ ?_
                  refine xc_gen (fun g hg => ?_)
                  have s0 := (hg 0).trans (en rfl (en rfl (en rfl (en rfl (en rfl (en rfl (en rfl (en rfl (en rfl (en rfl (en rfl (en rfl (en rfl (en rfl (en rfl (en rfl (en rfl (en rfl (en rfl (en rfl (en rfl (en rfl (en rfl s0)))))))))))))))))))))))
                  have s1 := (hg 1).trans (en rfl (en rfl (en rfl (en rfl (en rfl (en rfl (en rfl (en rfl (en rfl (en rfl (en rfl (en rfl (en rfl (en rfl (en rfl (en rfl (en rfl (en rfl (en rfl (en rfl (en rfl (en rfl (en rfl s1)))))))))))))))))))))))
                  have s3 := (hg 3).trans (en rfl (en rfl (en rfl (en rfl (en rfl (en rfl (en rfl (en rfl (en rfl (en rfl (en rfl (en rfl (en rfl (en rfl (en rfl (en rfl (en rfl (en rfl (en rfl (en rfl (en rfl (en rfl (en rfl s3)))))))))))))))))))))))
                  have s5 := (hg 5).trans (en rfl (en rfl (en rfl (en rfl (en rfl (en rfl (en rfl (en rfl (en rfl (en rfl (en rfl (en rfl (en rfl (en rfl (en rfl (en rfl (en rfl (en rfl (en rfl (en rfl (en rfl (en rfl (en rfl s5)))))))))))))))))))))))
                  have s8 := (hg 8).trans (en rfl (en rfl (en rfl (en rfl (en rfl (en rfl (en rfl (en rfl (en rfl (en rfl (en rfl (en rfl (en rfl (en rfl (en rfl (en rfl (en rfl (en rfl (en rfl (en rfl (en rfl (en rfl (en rfl s8)))))))))))))))))))))))
                  have s9 := (hg 9).trans (en rfl (en rfl (en rfl (en rfl (en rfl (en rfl (en rfl (en rfl (en rfl (en rfl (en rfl (en rfl (en rfl (en rfl (en rfl (en rfl (en rfl (en rfl (en rfl (en rfl (en rfl (en rfl (en rfl s9)))))))))))))))))))))))
                  have s13 := (hg 13).trans (en rfl (en rfl (en rfl (en rfl (en rfl (en rfl (en rfl (en rfl (en rfl (en rfl (en rfl (en rfl (en rfl (en rfl (en rfl (en rfl (en rfl (en rfl (en rfl (en rfl (en rfl (en rfl (en rfl s13)))))))))))))))))))))))
                  have s14 := (hg 14).trans (en rfl (en rfl (en rfl (en rfl (en rfl (en rfl (en rfl (en rfl (en rfl (en rfl (en rfl (en rfl (en rfl (en rfl (en rfl (en rfl (en rfl (en rfl (en rfl (en rfl (en rfl (en rfl (en rfl s14)))))))))))))))))))))))
                  have s15 := (hg 15).trans (en rfl (en rfl (en rfl (en rfl (en rfl (en rfl (en rfl (en rfl (en rfl (en rfl (en rfl (en rfl (en rfl (en rfl (en rfl (en rfl (en rfl (en rfl (en rfl (en rfl (en rfl (en rfl (en rfl s15)))))))))))))))))))))))
                  have s30 := (hg 30).trans (en rfl (en rfl (en rfl (en rfl (en rfl (en rfl (en rfl (en rfl (en rfl (en rfl (en rfl (en rfl (en rfl (en rfl (en rfl (en rfl (en rfl (en rfl (en rfl (en rfl (en rfl (en rfl (en rfl s30)))))))))))))))))))))))
                  have s36 := (hg 36).trans (en rfl (en rfl (en rfl (en rfl (en rfl (en rfl (en rfl (en rfl (en rfl (en rfl (en rfl (en rfl (en rfl (en rfl (en rfl (en rfl (en rfl (en rfl (en rfl (en rfl (en rfl (en rfl (en rfl s36)))))))))))))))))))))))
                  have s37 := (hg 37).trans (en rfl (en rfl (en rfl (en rfl (en rfl (en rfl (en rfl (en rfl (en rfl (en rfl (en rfl (en rfl (en rfl (en rfl (en rfl (en rfl (en rfl (en rfl (en rfl (en rfl (en rfl (en rfl (en rfl s37)))))))))))))))))))))))
                  have s38 := (hg 38).trans (en rfl (en rfl (en rfl (en rfl (en rfl (en rfl (en rfl (en rfl (en rfl (en rfl (en rfl (en rfl (en rfl (en rfl (en rfl (en rfl (en rfl (en rfl (en rfl (en rfl (en rfl (en rfl (en rfl s38)))))))))))))))))))))))
                  have s39 := (hg 39).trans (en rfl (en rfl (en rfl (en rfl (en rfl (en rfl (en rfl (en rfl (en rfl (en rfl (en rfl (en rfl (en rfl (en rfl (en rfl (en rfl (en rfl (en rfl (en rfl (en rfl (en rfl (en rfl (en rfl s39)))))))))))))))))))))))
                  have s77 := (hg 77).trans (en rfl (en rfl (en rfl (en rfl (en rfl (en rfl (en rfl (en rfl (en rfl (en rfl (en rfl (en rfl (en rfl (en rfl (en rfl (en rfl (en rfl (en rfl (en rfl (en rfl (en rfl (en rfl (en rfl s77)))))))))))))))))))))))
                  have s99 := (hg 99).trans (en rfl (en rfl (en rfl (en rfl (en rfl (en rfl (en rfl (en rfl (en rfl (en rfl (en rfl (en rfl (en rfl (en rfl (en rfl (en rfl (en rfl (en rfl (en rfl (en rfl (en rfl (en rfl (en rfl s99)))))))))))))))))))))))
                  have s100 := (hg 100).trans (en rfl (en rfl (en rfl (en rfl (en rfl (en rfl (en rfl (en rfl (en rfl (en rfl (en rfl (en rfl (en rfl (en rfl (en rfl (en rfl (en rfl (en rfl (en rfl (en rfl (en rfl (en rfl (en rfl s100)))))))))))))))))))))))
                  have s101 := (hg 101).trans (en rfl (en rfl (en rfl (en rfl (en rfl (en rfl (en rfl (en rfl (en rfl (en rfl (en rfl (en rfl (en rfl (en rfl (en rfl (en rfl (en rfl (en rfl (en rfl (en rfl (en rfl (en rfl (en rfl s101)))))))))))))))))))))))
                  have s125 := (hg 125).trans (en rfl (en rfl (en rfl (en rfl (en rfl (en rfl (en rfl (en rfl (en rfl (en rfl (en rfl (en rfl (en rfl (en rfl (en rfl (en rfl (en rfl (en rfl (en rfl (en rfl (en rfl (en rfl (en rfl s125)))))))))))))))))))))))
                  have s134 := (hg 134).trans (en rfl (en rfl (en rfl (en rfl (en rfl (en rfl (en rfl (en rfl (en rfl (en rfl (en rfl (en rfl (en rfl (en rfl (en rfl (en rfl (en rfl (en rfl (en rfl (en rfl (en rfl (en rfl (en rfl s134)))))))))))))))))))))))
                  have s137 := (hg 137).trans (en rfl (en rfl (en rfl (en rfl (en rfl (en rfl (en rfl (en rfl (en rfl (en rfl (en rfl (en rfl (en rfl (en rfl (en rfl (en rfl (en rfl (en rfl (en rfl (en rfl (en rfl (en rfl (en rfl s137)))))))))))))))))))))))
                  have s138 := (hg 138).trans (en rfl (en rfl (en rfl (en rfl (en rfl (en rfl (en rfl (en rfl (en rfl (en rfl (en rfl (en rfl (en rfl (en rfl (en rfl (en rfl (en rfl (en rfl (en rfl (en rfl (en rfl (en rfl (en rfl s138)))))))))))))))))))))))
                  have s139 := (hg 139).trans (en rfl (en rfl (en rfl (en rfl (en rfl (en rfl (en rfl (en rfl (en rfl (en rfl (en rfl (en rfl (en rfl (en rfl (en rfl (en rfl (en rfl (en rfl (en rfl (en rfl (en rfl (en rfl (en rfl s139)))))))))))))))))))))))
                  have s169 := (hg 169).trans es
                  clear hg
                  refine xc_cond s169 (fun hc => by cases hc) (fun _ => ?_)
                  refine xc_skip ?_
                  refine hK67 _ _ ?_
                  refine xc_seq (fun K hK69 => ?_)
                  refine xc_region ?_
                  refine x_val (r_fieldAddr (o' := 4) Try.underlying26 rfl Try.sizeOf24 rfl s3 rfl) (nd_of rfl) rfl ?_
                  refine x_val (r_load h 4 rfl Try.isAgg24 es gc4) (nd_of rfl) rfl ?_
                  refine x_val (r_len Try.underlying24 es) (nd_of rfl) rfl ?_
                  refine x_val (r_move ec) (nd_of rfl) rfl ?_
                  refine xw_nil ?_
                  refine hK69 _ _ ?_
                  refine xc_gen (fun g hg => ?_)
                  have s0 := (hg 0).trans (en rfl (en rfl (en rfl (en rfl s0))))
                  have s1 := (hg 1).trans (en rfl (en rfl (en rfl (en rfl s1))))
                  have s3 := (hg 3).trans (en rfl (en rfl (en rfl (en rfl s3))))
                  have s5 := (hg 5).trans (en rfl (en rfl (en rfl (en rfl s5))))
                  have s8 := (hg 8).trans (en rfl (en rfl (en rfl (en rfl s8))))
                  have s9 := (hg 9).trans (en rfl (en rfl (en rfl (en rfl s9))))
                  have s13 := (hg 13).trans (en rfl (en rfl (en rfl (en rfl s13))))
                  have s14 := (hg 14).trans (en rfl (en rfl (en rfl (en rfl s14))))
                  have s15 := (hg 15).trans (en rfl (en rfl (en rfl (en rfl s15))))
                  have s30 := (hg 30).trans (en rfl (en rfl (en rfl (en rfl s30))))
                  have s36 := (hg 36).trans (en rfl (en rfl (en rfl (en rfl s36))))
                  have s37 := (hg 37).trans (en rfl (en rfl (en rfl (en rfl s37))))
                  have s38 := (hg 38).trans (en rfl (en rfl (en rfl (en rfl s38))))
                  have s39 := (hg 39).trans (en rfl (en rfl (en rfl (en rfl s39))))
                  have s77 := (hg 77).trans (en rfl (en rfl (en rfl (en rfl s77))))
                  have s99 := (hg 99).trans (en rfl (en rfl (en rfl (en rfl s99))))
                  have s100 := (hg 100).trans (en rfl (en rfl (en rfl (en rfl s100))))
                  have s101 := (hg 101).trans (en rfl (en rfl (en rfl (en rfl s101))))
                  have s125 := (hg 125).trans (en rfl (en rfl (en rfl (en rfl s125))))
                  have s134 := (hg 134).trans (en rfl (en rfl (en rfl (en rfl s134))))
                  have s137 := (hg 137).trans (en rfl (en rfl (en rfl (en rfl s137))))
                  have s138 := (hg 138).trans (en rfl (en rfl (en rfl (en rfl s138))))
                  have s139 := (hg 139).trans (en rfl (en rfl (en rfl (en rfl s139))))
                  have s169 := (hg 169).trans (en rfl (en rfl (en rfl (en rfl s169))))
                  have s171 := (hg 171).trans (en rfl (en rfl es))
                  have s172 := (hg 172).trans (en rfl es)
                  have s173 := (hg 173).trans es
                  clear hg
                  refine xc_block ?_
                  obtain ⟨G70, hG70⟩ : ∃ g0 : Nat → Value, g0 = g := ⟨_, rfl⟩
                  have zG70_0 : G70 0 = _ := (congrFun hG70 0).trans s0
                  have zG70_1 : G70 1 = _ := (congrFun hG70 1).trans s1
                  have zG70_3 : G70 3 = _ := (congrFun hG70 3).trans s3
                  have zG70_5 : G70 5 = _ := (congrFun hG70 5).trans s5
                  have zG70_8 : G70 8 = _ := (congrFun hG70 8).trans s8
                  have zG70_9 : G70 9 = _ := (congrFun hG70 9).trans s9
                  have zG70_13 : G70 13 = _ := (congrFun hG70 13).trans s13
                  have zG70_14 : G70 14 = _ := (congrFun hG70 14).trans s14
                  have zG70_15 : G70 15 = _ := (congrFun hG70 15).trans s15
                  have zG70_30 : G70 30 = _ := (congrFun hG70 30).trans s30
                  have zG70_36 : G70 36 = _ := (congrFun hG70 36).trans s36
                  have zG70_37 : G70 37 = _ := (congrFun hG70 37).trans s37
                  have zG70_38 : G70 38 = _ := (congrFun hG70 38).trans s38
                  have zG70_39 : G70 39 = _ := (congrFun hG70 39).trans s39
                  have zG70_77 : G70 77 = _ := (congrFun hG70 77).trans s77
                  have zG70_99 : G70 99 = _ := (congrFun hG70 99).trans s99
                  have zG70_100 : G70 100 = _ := (congrFun hG70 100).trans s100
                  have zG70_101 : G70 101 = _ := (congrFun hG70 101).trans s101
                  have zG70_125 : G70 125 = _ := (congrFun hG70 125).trans s125
                  have zG70_134 : G70 134 = _ := (congrFun hG70 134).trans s134
                  have zG70_137 : G70 137 = _ := (congrFun hG70 137).trans s137
                  have zG70_138 : G70 138 = _ := (congrFun hG70 138).trans s138
                  have zG70_139 : G70 139 = _ := (congrFun hG70 139).trans s139
                  have zG70_169 : G70 169 = _ := (congrFun hG70 169).trans s169
                  have zG70_171 : G70 171 = _ := (congrFun hG70 171).trans s171
                  have zG70_172 : G70 172 = _ := (congrFun hG70 172).trans s172
                  refine xc_loop (fun m f w => (∃ (q : Nat), m = oa.cs.length - q ∧ q ≤ oa.cs.length ∧ f 173 = .int .i64 (q : Int) ∧ SatL E w (ARow (.slice a5 (l).length c5) (l) :: Pa b LL B2 :: XRow (.slice (some adu) ys.length cu) ys :: RowsL ys L :: Cells b3 #[.int .i64 oa.kind, .int .i64 oa.k, .int .i64 oa.m, .slice al oa.ls.length cl, .slice ax oa.cs.length cx] 26 :: Old W :: R)) ∧ (f 0 = G70 0 ∧ f 1 = G70 1 ∧ f 3 = G70 3 ∧ f 5 = G70 5 ∧ f 8 = G70 8 ∧ f 9 = G70 9 ∧ f 13 = G70 13 ∧ f 14 = G70 14 ∧ f 15 = G70 15 ∧ f 30 = G70 30 ∧ f 36 = G70 36 ∧ f 37 = G70 37 ∧ f 38 = G70 38 ∧ f 39 = G70 39 ∧ f 77 = G70 77 ∧ f 99 = G70 99 ∧ f 100 = G70 100 ∧ f 101 = G70 101 ∧ f 125 = G70 125 ∧ f 134 = G70 134 ∧ f 137 = G70 137 ∧ f 138 = G70 138 ∧ f 139 = G70 139 ∧ f 169 = G70 169 ∧ f 171 = G70 171 ∧ f 172 = G70 172)) (oa.cs.length) ⟨⟨0, by omega, by omega, s173, h⟩, ⟨congrFun hG70.symm 0, congrFun hG70.symm 1, congrFun hG70.symm 3, congrFun hG70.symm 5, congrFun hG70.symm 8, congrFun hG70.symm 9, congrFun hG70.symm 13, congrFun hG70.symm 14, congrFun hG70.symm 15, congrFun hG70.symm 30, congrFun hG70.symm 36, congrFun hG70.symm 37, congrFun hG70.symm 38, congrFun hG70.symm 39, congrFun hG70.symm 77, congrFun hG70.symm 99, congrFun hG70.symm 100, congrFun hG70.symm 101, congrFun hG70.symm 125, congrFun hG70.symm 134, congrFun hG70.symm 137, congrFun hG70.symm 138, congrFun hG70.symm 139, congrFun hG70.symm 169, congrFun hG70.symm 171, congrFun hG70.symm 172⟩⟩ ?_
                  rintro m g w ⟨⟨q, hm3, hq, s173, h⟩, ⟨y0, y1, y3, y5, y8, y9, y13, y14, y15, y30, y36, y37, y38, y39, y77, y99, y100, y101, y125, y134, y137, y138, y139, y169, y171, y172⟩⟩
                  have s0 := y0.trans zG70_0
                  have s1 := y1.trans zG70_1
                  have s3 := y3.trans zG70_3
                  have s5 := y5.trans zG70_5
                  have s8 := y8.trans zG70_8
                  have s9 := y9.trans zG70_9
                  have s13 := y13.trans zG70_13
                  have s14 := y14.trans zG70_14
                  have s15 := y15.trans zG70_15
                  have s30 := y30.trans zG70_30
                  have s36 := y36.trans zG70_36
                  have s37 := y37.trans zG70_37
                  have s38 := y38.trans zG70_38
                  have s39 := y39.trans zG70_39
                  have s77 := y77.trans zG70_77
                  have s99 := y99.trans zG70_99
                  have s100 := y100.trans zG70_100
                  have s101 := y101.trans zG70_101
                  have s125 := y125.trans zG70_125
                  have s134 := y134.trans zG70_134
                  have s137 := y137.trans zG70_137
                  have s138 := y138.trans zG70_138
                  have s139 := y139.trans zG70_139
                  have s169 := y169.trans zG70_169
                  have s171 := y171.trans zG70_171
                  have s172 := y172.trans zG70_172
                  refine xc_seq (fun K hK71 => ?_)
                  refine xc_region ?_
                  refine x_val (r_lss s173 s172 rfl) (nd_of rfl) rfl ?_
                  refine xw_nil ?_
                  refine hK71 _ _ ?_
                  refine xc_gen (fun g hg => ?_)
                  have s0 := (hg 0).trans (en rfl s0)
                  have s1 := (hg 1).trans (en rfl s1)
                  have s3 := (hg 3).trans (en rfl s3)
                  have s5 := (hg 5).trans (en rfl s5)
                  have s8 := (hg 8).trans (en rfl s8)
                  have s9 := (hg 9).trans (en rfl s9)
                  have s13 := (hg 13).trans (en rfl s13)
                  have s14 := (hg 14).trans (en rfl s14)
                  have s15 := (hg 15).trans (en rfl s15)
                  have s30 := (hg 30).trans (en rfl s30)
                  have s36 := (hg 36).trans (en rfl s36)
                  have s37 := (hg 37).trans (en rfl s37)
                  have s38 := (hg 38).trans (en rfl s38)
                  have s39 := (hg 39).trans (en rfl s39)
                  have s77 := (hg 77).trans (en rfl s77)
                  have s99 := (hg 99).trans (en rfl s99)
                  have s100 := (hg 100).trans (en rfl s100)
                  have s101 := (hg 101).trans (en rfl s101)
                  have s125 := (hg 125).trans (en rfl s125)
                  have s134 := (hg 134).trans (en rfl s134)
                  have s137 := (hg 137).trans (en rfl s137)
                  have s138 := (hg 138).trans (en rfl s138)
                  have s139 := (hg 139).trans (en rfl s139)
                  have s169 := (hg 169).trans (en rfl s169)
                  have s171 := (hg 171).trans (en rfl s171)
                  have s172 := (hg 172).trans (en rfl s172)
                  have s173 := (hg 173).trans (en rfl s173)
                  have s174 := (hg 174).trans es
                  clear hg
                  refine xc_seq (fun K hK72 => ?_)
                  refine xc_cond s174 (fun hc => ?_) (fun hc => ?_)
                  ·
                    refine xc_skip ?_
                    refine hK72 _ _ ?_
                    refine xc_seq (fun K hK73 => ?_)
                    refine xc_block ?_
                    refine xc_seq (fun K hK74 => ?_)
                    have hql : q < oa.cs.length := by have := of_decide_eq_true hc; omega
                    obtain ⟨c, hcx⟩ : ∃ c, oa.cs[q]? = some c := ⟨_, List.getElem?_eq_getElem hql⟩
                    have hcm := List.mem_of_getElem? hcx
                    obtain ⟨ad3, rfl, hcell3⟩ := hrdx q c hcx
                    have hokc := ok_cg c
                    refine xc_region ?_
                    refine x_val (r_indexAny Try.underlying24 Try.sizeOf46 s171 s173 (by omega) (by omega)) (nd_of rfl) rfl ?_
                    refine x_val (r_loadAggAt (cs := cgC c) Try.isAgg46 Try.sizeOf46 es rfl (fun j u hj => h.oldCell 5 rfl (hcell3 j u hj))) (nd_of rfl) rfl ?_
                    refine x_declA h Try.zeroValue46 Try.sizeOf46 rfl (en rfl es) (by first | assumption | exact Ok.node (by assumption) | exact xOk.cells (by assumption) | exact ChOk.ok (by assumption)) rfl ?_
                    intro b17 w h
                    refine xw_nil ?_
                    refine hK74 _ _ ?_
                    refine xc_gen (fun g hg => ?_)
                    have s0 := (hg 0).trans (en rfl (en rfl (en rfl s0)))
                    have s1 := (hg 1).trans (en rfl (en rfl (en rfl s1)))
                    have s3 := (hg 3).trans (en rfl (en rfl (en rfl s3)))
                    have s5 := (hg 5).trans (en rfl (en rfl (en rfl s5)))
                    have s8 := (hg 8).trans (en rfl (en rfl (en rfl s8)))
                    have s9 := (hg 9).trans (en rfl (en rfl (en rfl s9)))
                    have s13 := (hg 13).trans (en rfl (en rfl (en rfl s13)))
                    have s14 := (hg 14).trans (en rfl (en rfl (en rfl s14)))
                    have s15 := (hg 15).trans (en rfl (en rfl (en rfl s15)))
                    have s17 := (hg 17).trans es
                    have s30 := (hg 30).trans (en rfl (en rfl (en rfl s30)))
                    have s36 := (hg 36).trans (en rfl (en rfl (en rfl s36)))
                    have s37 := (hg 37).trans (en rfl (en rfl (en rfl s37)))
                    have s38 := (hg 38).trans (en rfl (en rfl (en rfl s38)))
                    have s39 := (hg 39).trans (en rfl (en rfl (en rfl s39)))
                    have s77 := (hg 77).trans (en rfl (en rfl (en rfl s77)))
                    have s99 := (hg 99).trans (en rfl (en rfl (en rfl s99)))
                    have s100 := (hg 100).trans (en rfl (en rfl (en rfl s100)))
                    have s101 := (hg 101).trans (en rfl (en rfl (en rfl s101)))
                    have s125 := (hg 125).trans (en rfl (en rfl (en rfl s125)))
                    have s134 := (hg 134).trans (en rfl (en rfl (en rfl s134)))
                    have s137 := (hg 137).trans (en rfl (en rfl (en rfl s137)))
                    have s138 := (hg 138).trans (en rfl (en rfl (en rfl s138)))
                    have s139 := (hg 139).trans (en rfl (en rfl (en rfl s139)))
                    have s169 := (hg 169).trans (en rfl (en rfl (en rfl s169)))
                    have s171 := (hg 171).trans (en rfl (en rfl (en rfl s171)))
                    have s172 := (hg 172).trans (en rfl (en rfl (en rfl s172)))
                    have s173 := (hg 173).trans (en rfl (en rfl (en rfl s173)))
                    have s174 := (hg 174).trans (en rfl (en rfl (en rfl s174)))
                    clear hg
                    refine xc_seq (fun K hK75 => ?_)
                    have h : SatL E w (Cells b17 #[.int .i64 c.1, .bool c.2.1, .int .u8 c.2.2.1, .int .i64 c.2.2.2.1, .int .u64 c.2.2.2.2.1, .string c.2.2.2.2.2] 46 :: _) := h
                    refine xc_region ?_
                    refine x_val (r_move s14) (nd_of rfl) rfl ?_
                    refine x_val (r_fieldAddr (o' := 0) Try.underlying46 rfl Try.sizeOf3 rfl (en rfl s17) rfl) (nd_of rfl) rfl ?_
                    refine x_val (r_load h 0 rfl Try.isAgg3 es gc0) (nd_of rfl) rfl ?_
                    refine x_enter (r_call Try.call17 (.cons (en rfl (en rfl es)) (.cons es .nil))) (nd_of rfl) rfl (get_any hrl2 ((a_row h.f1).weak (fun _ h => h.f1)) (by omega) h) ?_
                    rintro _ w ⟨z, bz, rfl, hz, h⟩
                    refine x_val (r_move es) (nd_of rfl) rfl ?_
                    refine x_val (r_extract es gc0) (nd_of rfl) rfl ?_
                    refine x_val (r_extract (en rfl es) gc1) (nd_of rfl) rfl ?_
                    refine x_declA h Try.zeroValue44 Try.sizeOf44 rfl (en rfl (en rfl es)) (by first | assumption | exact Ok.node (by assumption) | exact xOk.cells (by assumption) | exact ChOk.ok (by assumption)) rfl ?_
                    intro b18 w h
                    refine x_val (r_assign (en rfl es)) (nd_of rfl) rfl ?_
                    refine xw_nil ?_
                    refine hK75 _ _ ?_
                    refine xc_gen (fun g hg => ?_)
                    have s0 := (hg 0).trans (en rfl (en rfl (en rfl (en rfl (en rfl (en rfl (en rfl (en rfl (en rfl s0)))))))))
                    have s1 := (hg 1).trans (en rfl (en rfl (en rfl (en rfl (en rfl (en rfl (en rfl (en rfl (en rfl s1)))))))))
                    have s3 := (hg 3).trans (en rfl (en rfl (en rfl (en rfl (en rfl (en rfl (en rfl (en rfl (en rfl s3)))))))))
                    have s5 := (hg 5).trans (en rfl (en rfl (en rfl (en rfl (en rfl (en rfl (en rfl (en rfl (en rfl s5)))))))))
                    have s8 := (hg 8).trans (en rfl (en rfl (en rfl (en rfl (en rfl (en rfl (en rfl (en rfl (en rfl s8)))))))))
                    have s9 := (hg 9).trans (en rfl (en rfl (en rfl (en rfl (en rfl (en rfl (en rfl (en rfl (en rfl s9)))))))))
                    have s13 := (hg 13).trans (en rfl (en rfl (en rfl (en rfl (en rfl (en rfl (en rfl (en rfl (en rfl s13)))))))))
                    have s14 := (hg 14).trans (en rfl (en rfl (en rfl (en rfl (en rfl (en rfl (en rfl (en rfl (en rfl s14)))))))))
                    have s15 := (hg 15).trans (en rfl (en rfl (en rfl (en rfl (en rfl (en rfl (en rfl (en rfl (en rfl s15)))))))))
                    have s17 := (hg 17).trans (en rfl (en rfl (en rfl (en rfl (en rfl (en rfl (en rfl (en rfl (en rfl s17)))))))))
                    have s18 := (hg 18).trans (en rfl es)
                    have s19 := (hg 19).trans es
                    have s30 := (hg 30).trans (en rfl (en rfl (en rfl (en rfl (en rfl (en rfl (en rfl (en rfl (en rfl s30)))))))))
                    have s36 := (hg 36).trans (en rfl (en rfl (en rfl (en rfl (en rfl (en rfl (en rfl (en rfl (en rfl s36)))))))))
                    have s37 := (hg 37).trans (en rfl (en rfl (en rfl (en rfl (en rfl (en rfl (en rfl (en rfl (en rfl s37)))))))))
                    have s38 := (hg 38).trans (en rfl (en rfl (en rfl (en rfl (en rfl (en rfl (en rfl (en rfl (en rfl s38)))))))))
                    have s39 := (hg 39).trans (en rfl (en rfl (en rfl (en rfl (en rfl (en rfl (en rfl (en rfl (en rfl s39)))))))))
                    have s77 := (hg 77).trans (en rfl (en rfl (en rfl (en rfl (en rfl (en rfl (en rfl (en rfl (en rfl s77)))))))))
                    have s99 := (hg 99).trans (en rfl (en rfl (en rfl (en rfl (en rfl (en rfl (en rfl (en rfl (en rfl s99)))))))))
                    have s100 := (hg 100).trans (en rfl (en rfl (en rfl (en rfl (en rfl (en rfl (en rfl (en rfl (en rfl s100)))))))))
                    have s101 := (hg 101).trans (en rfl (en rfl (en rfl (en rfl (en rfl (en rfl (en rfl (en rfl (en rfl s101)))))))))
                    have s125 := (hg 125).trans (en rfl (en rfl (en rfl (en rfl (en rfl (en rfl (en rfl (en rfl (en rfl s125)))))))))
                    have s134 := (hg 134).trans (en rfl (en rfl (en rfl (en rfl (en rfl (en rfl (en rfl (en rfl (en rfl s134)))))))))
                    have s137 := (hg 137).trans (en rfl (en rfl (en rfl (en rfl (en rfl (en rfl (en rfl (en rfl (en rfl s137)))))))))
                    have s138 := (hg 138).trans (en rfl (en rfl (en rfl (en rfl (en rfl (en rfl (en rfl (en rfl (en rfl s138)))))))))
                    have s139 := (hg 139).trans (en rfl (en rfl (en rfl (en rfl (en rfl (en rfl (en rfl (en rfl (en rfl s139)))))))))
                    have s169 := (hg 169).trans (en rfl (en rfl (en rfl (en rfl (en rfl (en rfl (en rfl (en rfl (en rfl s169)))))))))
                    have s171 := (hg 171).trans (en rfl (en rfl (en rfl (en rfl (en rfl (en rfl (en rfl (en rfl (en rfl s171)))))))))
                    have s172 := (hg 172).trans (en rfl (en rfl (en rfl (en rfl (en rfl (en rfl (en rfl (en rfl (en rfl s172)))))))))
                    have s173 := (hg 173).trans (en rfl (en rfl (en rfl (en rfl (en rfl (en rfl (en rfl (en rfl (en rfl s173)))))))))
                    have s174 := (hg 174).trans (en rfl (en rfl (en rfl (en rfl (en rfl (en rfl (en rfl (en rfl (en rfl s174)))))))))
                    clear hg
                    refine xc_seq (fun K hK76 => ?_)
                    refine xc_region ?_
                    refine x_val (r_move s13) (nd_of rfl) rfl ?_
                    refine x_val (r_fieldAddr (o' := 1) Try.underlying26 rfl Try.sizeOf3 rfl (en rfl s3) rfl) (nd_of rfl) rfl ?_
                    refine x_val (r_load h 6 rfl Try.isAgg3 es gc1) (nd_of rfl) rfl ?_
                    refine x_val (r_geq (en rfl (en rfl es)) es (decide_eq_true (by omega))) (nd_of rfl) rfl ?_
                    refine x_val (r_move es) (nd_of rfl) rfl ?_
                    refine x_take (d := 188) rfl rfl es ?_
                    refine x_val (r_move (en rfl (en rfl (en rfl (en rfl (en rfl s13)))))) (nd_of rfl) rfl ?_
                    refine x_take (d := 188) rfl rfl (en rfl es) ?_
                    refine x_val (r_fieldAddr (o' := 2) Try.underlying26 rfl Try.sizeOf3 rfl (en rfl (en rfl (en rfl (en rfl (en rfl (en rfl s3)))))) rfl) (nd_of rfl) rfl ?_
                    refine x_take (d := 188) rfl rfl (en rfl (en rfl es)) ?_
                    refine x_val (r_load h 6 rfl Try.isAgg3 es gc2) (nd_of rfl) rfl ?_
                    refine x_take (d := 188) rfl rfl (en rfl (en rfl (en rfl es))) ?_
                    refine x_val (r_lss (en rfl (en rfl es)) es (decide_eq_false (by omega))) (nd_of rfl) rfl ?_
                    refine x_val (r_pick_t (en rfl (en rfl (en rfl (en rfl es)))) es) (nd_of rfl) rfl ?_
                    refine x_val (r_move es) (nd_of rfl) rfl ?_
                    refine x_pass (d := 194) rfl rfl es rfl ?_
                    refine x_pass (d := 194) rfl rfl (en rfl es) rfl ?_
                    refine x_pass (d := 194) rfl rfl (en rfl (en rfl es)) rfl ?_
                    refine x_pass (d := 194) rfl rfl (en rfl (en rfl (en rfl es))) rfl ?_
                    refine x_pass (d := 194) rfl rfl (en rfl (en rfl (en rfl (en rfl es)))) rfl ?_
                    refine x_pass0 (d := 199) rfl rfl es rfl ?_
                    refine x_pass0 (d := 199) rfl rfl (en rfl es) rfl ?_
                    refine x_pass0 (d := 201) rfl rfl es rfl ?_
                    refine x_pass0 (d := 201) rfl rfl (en rfl es) rfl ?_
                    refine x_pass0 (d := 201) rfl rfl (en rfl (en rfl es)) rfl ?_
                    refine x_pass0 (d := 201) rfl rfl (en rfl (en rfl (en rfl es))) rfl ?_
                    refine x_pass0 (d := 199) rfl rfl (en rfl (en rfl (en rfl (en rfl (en rfl (en rfl es)))))) rfl ?_
                    refine x_pass (d := 194) rfl rfl (en rfl (en rfl (en rfl (en rfl (en rfl (en rfl (en rfl (en rfl (en rfl (en rfl (en rfl (en rfl es)))))))))))) rfl ?_
                    refine x_val (r_pick_f (en rfl (en rfl (en rfl (en rfl (en rfl (en rfl (en rfl (en rfl (en rfl (en rfl (en rfl (en rfl (en rfl es))))))))))))) ec) (nd_of rfl) rfl ?_
                    refine xw_nil ?_
                    refine hK76 _ _ ?_
                    refine xc_gen (fun g hg => ?_)
                    have s0 := (hg 0).trans (en rfl (en rfl (en rfl (en rfl (en rfl (en rfl (en rfl (en rfl (en rfl (en rfl (en rfl (en rfl (en rfl (en rfl (en rfl (en rfl (en rfl (en rfl (en rfl (en rfl (en rfl (en rfl (en rfl (en rfl (en rfl s0)))))))))))))))))))))))))
                    have s1 := (hg 1).trans (en rfl (en rfl (en rfl (en rfl (en rfl (en rfl (en rfl (en rfl (en rfl (en rfl (en rfl (en rfl (en rfl (en rfl (en rfl (en rfl (en rfl (en rfl (en rfl (en rfl (en rfl (en rfl (en rfl (en rfl (en rfl s1)))))))))))))))))))))))))
                    have s3 := (hg 3).trans (en rfl (en rfl (en rfl (en rfl (en rfl (en rfl (en rfl (en rfl (en rfl (en rfl (en rfl (en rfl (en rfl (en rfl (en rfl (en rfl (en rfl (en rfl (en rfl (en rfl (en rfl (en rfl (en rfl (en rfl (en rfl s3)))))))))))))))))))))))))
                    have s5 := (hg 5).trans (en rfl (en rfl (en rfl (en rfl (en rfl (en rfl (en rfl (en rfl (en rfl (en rfl (en rfl (en rfl (en rfl (en rfl (en rfl (en rfl (en rfl (en rfl (en rfl (en rfl (en rfl (en rfl (en rfl (en rfl (en rfl s5)))))))))))))))))))))))))
                    have s8 := (hg 8).trans (en rfl (en rfl (en rfl (en rfl (en rfl (en rfl (en rfl (en rfl (en rfl (en rfl (en rfl (en rfl (en rfl (en rfl (en rfl (en rfl (en rfl (en rfl (en rfl (en rfl (en rfl (en rfl (en rfl (en rfl (en rfl s8)))))))))))))))))))))))))
                    have s9 := (hg 9).trans (en rfl (en rfl (en rfl (en rfl (en rfl (en rfl (en rfl (en rfl (en rfl (en rfl (en rfl (en rfl (en rfl (en rfl (en rfl (en rfl (en rfl (en rfl (en rfl (en rfl (en rfl (en rfl (en rfl (en rfl (en rfl s9)))))))))))))))))))))))))
                    have s13 := (hg 13).trans (en rfl (en rfl (en rfl (en rfl (en rfl (en rfl (en rfl (en rfl (en rfl (en rfl (en rfl (en rfl (en rfl (en rfl (en rfl (en rfl (en rfl (en rfl (en rfl (en rfl (en rfl (en rfl (en rfl (en rfl (en rfl s13)))))))))))))))))))))))))
                    have s14 := (hg 14).trans (en rfl (en rfl (en rfl (en rfl (en rfl (en rfl (en rfl (en rfl (en rfl (en rfl (en rfl (en rfl (en rfl (en rfl (en rfl (en rfl (en rfl (en rfl (en rfl (en rfl (en rfl (en rfl (en rfl (en rfl (en rfl s14)))))))))))))))))))))))))
                    have s15 := (hg 15).trans (en rfl (en rfl (en rfl (en rfl (en rfl (en rfl (en rfl (en rfl (en rfl (en rfl (en rfl (en rfl (en rfl (en rfl (en rfl (en rfl (en rfl (en rfl (en rfl (en rfl (en rfl (en rfl (en rfl (en rfl (en rfl s15)))))))))))))))))))))))))
                    have s17 := (hg 17).trans (en rfl (en rfl (en rfl (en rfl (en rfl (en rfl (en rfl (en rfl (en rfl (en rfl (en rfl (en rfl (en rfl (en rfl (en rfl (en rfl (en rfl (en rfl (en rfl (en rfl (en rfl (en rfl (en rfl (en rfl (en rfl s17)))))))))))))))))))))))))
                    have s18 := (hg 18).trans (en rfl (en rfl (en rfl (en rfl (en rfl (en rfl (en rfl (en rfl (en rfl (en rfl (en rfl (en rfl (en rfl (en rfl (en rfl (en rfl (en rfl (en rfl (en rfl (en rfl (en rfl (en rfl (en rfl (en rfl (en rfl s18)))))))))))))))))))))))))
                    have s19 := (hg 19).trans (en rfl (en rfl (en rfl (en rfl (en rfl (en rfl (en rfl (en rfl (en rfl (en rfl (en rfl (en rfl (en rfl (en rfl (en rfl (en rfl (en rfl (en rfl (en rfl (en rfl (en rfl (en rfl (en rfl (en rfl (en rfl s19)))))))))))))))))))))))))
                    have s30 := (hg 30).trans (en rfl (en rfl (en rfl (en rfl (en rfl (en rfl (en rfl (en rfl (en rfl (en rfl (en rfl (en rfl (en rfl (en rfl (en rfl (en rfl (en rfl (en rfl (en rfl (en rfl (en rfl (en rfl (en rfl (en rfl (en rfl s30)))))))))))))))))))))))))
                    have s36 := (hg 36).trans (en rfl (en rfl (en rfl (en rfl (en rfl (en rfl (en rfl (en rfl (en rfl (en rfl (en rfl (en rfl (en rfl (en rfl (en rfl (en rfl (en rfl (en rfl (en rfl (en rfl (en rfl (en rfl (en rfl (en rfl (en rfl s36)))))))))))))))))))))))))
                    have s37 := (hg 37).trans (en rfl (en rfl (en rfl (en rfl (en rfl (en rfl (en rfl (en rfl (en rfl (en rfl (en rfl (en rfl (en rfl (en rfl (en rfl (en rfl (en rfl (en rfl (en rfl (en rfl (en rfl (en rfl (en rfl (en rfl (en rfl s37)))))))))))))))))))))))))
                    have s38 := (hg 38).trans (en rfl (en rfl (en rfl (en rfl (en rfl (en rfl (en rfl (en rfl (en rfl (en rfl (en rfl (en rfl (en rfl (en rfl (en rfl (en rfl (en rfl (en rfl (en rfl (en rfl (en rfl (en rfl (en rfl (en rfl (en rfl s38)))))))))))))))))))))))))
                    have s39 := (hg 39).trans (en rfl (en rfl (en rfl (en rfl (en rfl (en rfl (en rfl (en rfl (en rfl (en rfl (en rfl (en rfl (en rfl (en rfl (en rfl (en rfl (en rfl (en rfl (en rfl (en rfl (en rfl (en rfl (en rfl (en rfl (en rfl s39)))))))))))))))))))))))))
                    have s77 := (hg 77).trans (en rfl (en rfl (en rfl (en rfl (en rfl (en rfl (en rfl (en rfl (en rfl (en rfl (en rfl (en rfl (en rfl (en rfl (en rfl (en rfl (en rfl (en rfl (en rfl (en rfl (en rfl (en rfl (en rfl (en rfl (en rfl s77)))))))))))))))))))))))))
                    have s99 := (hg 99).trans (en rfl (en rfl (en rfl (en rfl (en rfl (en rfl (en rfl (en rfl (en rfl (en rfl (en rfl (en rfl (en rfl (en rfl (en rfl (en rfl (en rfl (en rfl (en rfl (en rfl (en rfl (en rfl (en rfl (en rfl (en rfl s99)))))))))))))))))))))))))
                    have s100 := (hg 100).trans (en rfl (en rfl (en rfl (en rfl (en rfl (en rfl (en rfl (en rfl (en rfl (en rfl (en rfl (en rfl (en rfl (en rfl (en rfl (en rfl (en rfl (en rfl (en rfl (en rfl (en rfl (en rfl (en rfl (en rfl (en rfl s100)))))))))))))))))))))))))
                    have s101 := (hg 101).trans (en rfl (en rfl (en rfl (en rfl (en rfl (en rfl (en rfl (en rfl (en rfl (en rfl (en rfl (en rfl (en rfl (en rfl (en rfl (en rfl (en rfl (en rfl (en rfl (en rfl (en rfl (en rfl (en rfl (en rfl (en rfl s101)))))))))))))))))))))))))
                    have s125 := (hg 125).trans (en rfl (en rfl (en rfl (en rfl (en rfl (en rfl (en rfl (en rfl (en rfl (en rfl (en rfl (en rfl (en rfl (en rfl (en rfl (en rfl (en rfl (en rfl (en rfl (en rfl (en rfl (en rfl (en rfl (en rfl (en rfl s125)))))))))))))))))))))))))
                    have s134 := (hg 134).trans (en rfl (en rfl (en rfl (en rfl (en rfl (en rfl (en rfl (en rfl (en rfl (en rfl (en rfl (en rfl (en rfl (en rfl (en rfl (en rfl (en rfl (en rfl (en rfl (en rfl (en rfl (en rfl (en rfl (en rfl (en rfl s134)))))))))))))))))))))))))
                    have s137 := (hg 137).trans (en rfl (en rfl (en rfl (en rfl (en rfl (en rfl (en rfl (en rfl (en rfl (en rfl (en rfl (en rfl (en rfl (en rfl (en rfl (en rfl (en rfl (en rfl (en rfl (en rfl (en rfl (en rfl (en rfl (en rfl (en rfl s137)))))))))))))))))))))))))
                    have s138 := (hg 138).trans (en rfl (en rfl (en rfl (en rfl (en rfl (en rfl (en rfl (en rfl (en rfl (en rfl (en rfl (en rfl (en rfl (en rfl (en rfl (en rfl (en rfl (en rfl (en rfl (en rfl (en rfl (en rfl (en rfl (en rfl (en rfl s138)))))))))))))))))))))))))
                    have s139 := (hg 139).trans (en rfl (en rfl (en rfl (en rfl (en rfl (en rfl (en rfl (en rfl (en rfl (en rfl (en rfl (en rfl (en rfl (en rfl (en rfl (en rfl (en rfl (en rfl (en rfl (en rfl (en rfl (en rfl (en rfl (en rfl (en rfl s139)))))))))))))))))))))))))
                    have s169 := (hg 169).trans (en rfl (en rfl (en rfl (en rfl (en rfl (en rfl (en rfl (en rfl (en rfl (en rfl (en rfl (en rfl (en rfl (en rfl (en rfl (en rfl (en rfl (en rfl (en rfl (en rfl (en rfl (en rfl (en rfl (en rfl (en rfl s169)))))))))))))))))))))))))
                    have s171 := (hg 171).trans (en rfl (en rfl (en rfl (en rfl (en rfl (en rfl (en rfl (en rfl (en rfl (en rfl (en rfl (en rfl (en rfl (en rfl (en rfl (en rfl (en rfl (en rfl (en rfl (en rfl (en rfl (en rfl (en rfl (en rfl (en rfl s171)))))))))))))))))))))))))
                    have s172 := (hg 172).trans (en rfl (en rfl (en rfl (en rfl (en rfl (en rfl (en rfl (en rfl (en rfl (en rfl (en rfl (en rfl (en rfl (en rfl (en rfl (en rfl (en rfl (en rfl (en rfl (en rfl (en rfl (en rfl (en rfl (en rfl (en rfl s172)))))))))))))))))))))))))
                    have s173 := (hg 173).trans (en rfl (en rfl (en rfl (en rfl (en rfl (en rfl (en rfl (en rfl (en rfl (en rfl (en rfl (en rfl (en rfl (en rfl (en rfl (en rfl (en rfl (en rfl (en rfl (en rfl (en rfl (en rfl (en rfl (en rfl (en rfl s173)))))))))))))))))))))))))
                    have s174 := (hg 174).trans (en rfl (en rfl (en rfl (en rfl (en rfl (en rfl (en rfl (en rfl (en rfl (en rfl (en rfl (en rfl (en rfl (en rfl (en rfl (en rfl (en rfl (en rfl (en rfl (en rfl (en rfl (en rfl (en rfl (en rfl (en rfl s174)))))))))))))))))))))))))
                    have s208 := (hg 208).trans es
                    clear hg
                    refine xc_cond s208 (fun hc => by cases hc) (fun _ => ?_)
                    refine xc_skip ?_
                    refine hK73 _ _ ?_
                    refine xc_region ?_
                    refine x_val (r_add s173 ec (show _ = (((q + 1 : Nat) : Int) : Int) from by omega) (by unfold I64; omega)) (nd_of rfl) rfl ?_
                    refine x_val (r_move es) (nd_of rfl) rfl ?_
                    refine xw_nil ?_
                    have h := h.f1
                    have h := h.f6
                    have h := h.f6
                    have h := h.f6
                    have h := h.f6
                    have h := h.f6
                    exact ⟨oa.cs.length - (q + 1), by omega, ⟨q + 1, rfl, by omega, es, h.f5.drop.f5.drop⟩, ⟨((en rfl (en rfl s0))).trans zG70_0.symm, ((en rfl (en rfl s1))).trans zG70_1.symm, ((en rfl (en rfl s3))).trans zG70_3.symm, ((en rfl (en rfl s5))).trans zG70_5.symm, ((en rfl (en rfl s8))).trans zG70_8.symm, ((en rfl (en rfl s9))).trans zG70_9.symm, ((en rfl (en rfl s13))).trans zG70_13.symm, ((en rfl (en rfl s14))).trans zG70_14.symm, ((en rfl (en rfl s15))).trans zG70_15.symm, ((en rfl (en rfl s30))).trans zG70_30.symm, ((en rfl (en rfl s36))).trans zG70_36.symm, ((en rfl (en rfl s37))).trans zG70_37.symm, ((en rfl (en rfl s38))).trans zG70_38.symm, ((en rfl (en rfl s39))).trans zG70_39.symm, ((en rfl (en rfl s77))).trans zG70_77.symm, ((en rfl (en rfl s99))).trans zG70_99.symm, ((en rfl (en rfl s100))).trans zG70_100.symm, ((en rfl (en rfl s101))).trans zG70_101.symm, ((en rfl (en rfl s125))).trans zG70_125.symm, ((en rfl (en rfl s134))).trans zG70_134.symm, ((en rfl (en rfl s137))).trans zG70_137.symm, ((en rfl (en rfl s138))).trans zG70_138.symm, ((en rfl (en rfl s139))).trans zG70_139.symm, ((en rfl (en rfl s169))).trans zG70_169.symm, ((en rfl (en rfl s171))).trans zG70_171.symm, ((en rfl (en rfl s172))).trans zG70_172.symm⟩⟩
                  ·
                    refine xc_exit ?_
                    refine hK40 _ _ ?_
                    refine xc_region ?_
                    refine x_val (r_add s138 ec (show _ = (((k + 1 : Nat) : Int) : Int) from by omega) (by unfold I64; omega)) (nd_of rfl) rfl ?_
                    refine x_val (r_move es) (nd_of rfl) rfl ?_
                    refine xw_nil ?_
                    have h := h.f4
                    have h := h.f4
                    have h := h.f4
                    have h := h.f4
                    exact ⟨ys.length - (k + 1), by omega, ⟨k + 1, rfl, by omega, es, h.f4.drop⟩, ⟨((en rfl (en rfl s0))).trans zG37_0.symm, ((en rfl (en rfl s1))).trans zG37_1.symm, ((en rfl (en rfl s3))).trans zG37_3.symm, ((en rfl (en rfl s5))).trans zG37_5.symm, ((en rfl (en rfl s8))).trans zG37_8.symm, ((en rfl (en rfl s9))).trans zG37_9.symm, ((en rfl (en rfl s30))).trans zG37_30.symm, ((en rfl (en rfl s36))).trans zG37_36.symm, ((en rfl (en rfl s37))).trans zG37_37.symm, ((en rfl (en rfl s38))).trans zG37_38.symm, ((en rfl (en rfl s39))).trans zG37_39.symm, ((en rfl (en rfl s77))).trans zG37_77.symm, ((en rfl (en rfl s99))).trans zG37_99.symm, ((en rfl (en rfl s100))).trans zG37_100.symm, ((en rfl (en rfl s101))).trans zG37_101.symm, ((en rfl (en rfl s125))).trans zG37_125.symm, ((en rfl (en rfl s134))).trans zG37_134.symm, ((en rfl (en rfl s137))).trans zG37_137.symm⟩⟩
            ·
              refine xc_exit ?_
              refine hK35 _ _ ?_
              refine xc_seq (fun K hK77 => ?_)
              refine xc_region ?_
              refine x_enter (r_call Try.call9 .nil) (nd_of rfl) rfl (known_ok h) ?_
              rintro _ w ⟨rfl, h⟩
              refine x_val (r_assign es) (nd_of rfl) rfl ?_
              refine xw_nil ?_
              refine hK77 _ _ ?_
              refine xc_gen (fun g hg => ?_)
              have s0 := (hg 0).trans (en rfl (en rfl s0))
              have s1 := (hg 1).trans (en rfl (en rfl s1))
              have s3 := (hg 3).trans (en rfl (en rfl s3))
              have s4 := (hg 4).trans es
              have s5 := (hg 5).trans (en rfl (en rfl s5))
              have s8 := (hg 8).trans (en rfl (en rfl s8))
              have s9 := (hg 9).trans (en rfl (en rfl s9))
              have s30 := (hg 30).trans (en rfl (en rfl s30))
              have s36 := (hg 36).trans (en rfl (en rfl s36))
              have s37 := (hg 37).trans (en rfl (en rfl s37))
              have s38 := (hg 38).trans (en rfl (en rfl s38))
              have s39 := (hg 39).trans (en rfl (en rfl s39))
              have s77 := (hg 77).trans (en rfl (en rfl s77))
              have s99 := (hg 99).trans (en rfl (en rfl s99))
              have s100 := (hg 100).trans (en rfl (en rfl s100))
              have s101 := (hg 101).trans (en rfl (en rfl s101))
              have s125 := (hg 125).trans (en rfl (en rfl s125))
              have s134 := (hg 134).trans (en rfl (en rfl s134))
              have s137 := (hg 137).trans (en rfl (en rfl s137))
              have s138 := (hg 138).trans (en rfl (en rfl s138))
              have s139 := (hg 139).trans (en rfl (en rfl s139))
              clear hg
              refine xc_ret ?_
              refine bodyR_1 rfl s4 ?_
              exact ⟨rfl, h.drop.drop.drop.drop⟩
          ·
            skip
            refine xc_seq (fun K hK78 => ?_)
            refine xc_seq (fun K hK79 => ?_)
            refine xc_region ?_
            refine x_val (r_move s5) (nd_of rfl) rfl ?_
            refine x_val (r_fieldAddr (o' := 1) Try.underlying26 rfl Try.sizeOf3 rfl (en rfl s3) rfl) (nd_of rfl) rfl ?_
            refine x_val (r_load h 3 rfl Try.isAgg3 es gc1) (nd_of rfl) rfl ?_
            refine x_val (r_fieldAddr (o' := 2) Try.underlying26 rfl Try.sizeOf3 rfl (en rfl (en rfl (en rfl s3))) rfl) (nd_of rfl) rfl ?_
            refine x_val (r_load h 3 rfl Try.isAgg3 es gc2) (nd_of rfl) rfl ?_
            refine x_val (r_fieldAddr (o' := 4) Try.underlying26 rfl Try.sizeOf24 rfl (en rfl (en rfl (en rfl (en rfl (en rfl s3))))) rfl) (nd_of rfl) rfl ?_
            refine x_val (r_load h 3 rfl Try.isAgg24 es gc4) (nd_of rfl) rfl ?_
            refine x_enter (r_call Try.call12 (.cons (en rfl (en rfl (en rfl (en rfl (en rfl (en rfl es)))))) (.cons (en rfl (en rfl (en rfl (en rfl es)))) (.cons (en rfl (en rfl es)) (.cons es .nil))))) (nd_of rfl) rfl (patP hI2 (hso.patch ho) (by omega) (hxv ▸ ho.cp.creads 3 rfl) h) ?_
            rintro _ w ⟨rfl, h⟩
            refine x_val (r_neq es ec (decide_eq_true (by rw [err_five hp2]; decide))) (nd_of rfl) rfl ?_
            refine xw_nil ?_
            refine hK79 _ _ ?_
            refine xc_gen (fun g hg => ?_)
            have s0 := (hg 0).trans (en rfl (en rfl (en rfl (en rfl (en rfl (en rfl (en rfl (en rfl (en rfl s0)))))))))
            have s1 := (hg 1).trans (en rfl (en rfl (en rfl (en rfl (en rfl (en rfl (en rfl (en rfl (en rfl s1)))))))))
            have s3 := (hg 3).trans (en rfl (en rfl (en rfl (en rfl (en rfl (en rfl (en rfl (en rfl (en rfl s3)))))))))
            have s5 := (hg 5).trans (en rfl (en rfl (en rfl (en rfl (en rfl (en rfl (en rfl (en rfl (en rfl s5)))))))))
            have s8 := (hg 8).trans (en rfl (en rfl (en rfl (en rfl (en rfl (en rfl (en rfl (en rfl (en rfl s8)))))))))
            have s9 := (hg 9).trans (en rfl (en rfl (en rfl (en rfl (en rfl (en rfl (en rfl (en rfl (en rfl s9)))))))))
            have s30 := (hg 30).trans (en rfl (en rfl (en rfl (en rfl (en rfl (en rfl (en rfl (en rfl (en rfl s30)))))))))
            have s36 := (hg 36).trans (en rfl (en rfl (en rfl (en rfl (en rfl (en rfl (en rfl (en rfl (en rfl s36)))))))))
            have s37 := (hg 37).trans (en rfl (en rfl (en rfl (en rfl (en rfl (en rfl (en rfl (en rfl (en rfl s37)))))))))
            have s38 := (hg 38).trans (en rfl (en rfl (en rfl (en rfl (en rfl (en rfl (en rfl (en rfl (en rfl s38)))))))))
            have s39 := (hg 39).trans (en rfl (en rfl (en rfl (en rfl (en rfl (en rfl (en rfl (en rfl (en rfl s39)))))))))
            have s77 := (hg 77).trans (en rfl (en rfl (en rfl (en rfl (en rfl (en rfl (en rfl (en rfl (en rfl s77)))))))))
            have s99 := (hg 99).trans (en rfl (en rfl (en rfl (en rfl (en rfl (en rfl (en rfl (en rfl (en rfl s99)))))))))
            have s100 := (hg 100).trans (en rfl (en rfl (en rfl (en rfl (en rfl (en rfl (en rfl (en rfl (en rfl s100)))))))))
            have s101 := (hg 101).trans (en rfl (en rfl (en rfl (en rfl (en rfl (en rfl (en rfl (en rfl (en rfl s101)))))))))
            have s125 := (hg 125).trans (en rfl (en rfl (en rfl (en rfl (en rfl (en rfl (en rfl (en rfl (en rfl s125)))))))))
            have s134 := (hg 134).trans es
            clear hg
            refine xc_cond s134 (fun _ => ?_) (fun hc => by cases hc)
            refine xc_seq (fun K hK80 => ?_)
            refine xc_region ?_
            refine x_enter (r_call Try.call9 .nil) (nd_of rfl) rfl (known_ok h) ?_
            rintro _ w ⟨rfl, h⟩
            refine x_val (r_assign es) (nd_of rfl) rfl ?_
            refine xw_nil ?_
            refine hK80 _ _ ?_
            refine xc_gen (fun g hg => ?_)
            have s0 := (hg 0).trans (en rfl (en rfl s0))
            have s1 := (hg 1).trans (en rfl (en rfl s1))
            have s3 := (hg 3).trans (en rfl (en rfl s3))
            have s4 := (hg 4).trans es
            have s5 := (hg 5).trans (en rfl (en rfl s5))
            have s8 := (hg 8).trans (en rfl (en rfl s8))
            have s9 := (hg 9).trans (en rfl (en rfl s9))
            have s30 := (hg 30).trans (en rfl (en rfl s30))
            have s36 := (hg 36).trans (en rfl (en rfl s36))
            have s37 := (hg 37).trans (en rfl (en rfl s37))
            have s38 := (hg 38).trans (en rfl (en rfl s38))
            have s39 := (hg 39).trans (en rfl (en rfl s39))
            have s77 := (hg 77).trans (en rfl (en rfl s77))
            have s99 := (hg 99).trans (en rfl (en rfl s99))
            have s100 := (hg 100).trans (en rfl (en rfl s100))
            have s101 := (hg 101).trans (en rfl (en rfl s101))
            have s125 := (hg 125).trans (en rfl (en rfl s125))
            have s134 := (hg 134).trans (en rfl (en rfl s134))
            clear hg
            refine xc_ret ?_
            refine bodyR_1 rfl s4 ?_
            exact ⟨rfl, h.drop.drop.drop.drop⟩
end
end Go.Proofs.Ytonnijghdlakfaa
