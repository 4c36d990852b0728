/-
ArenaPlays: the walk.
-/
import Derived.Test.YtfmhcefjbghhlaaE1
namespace Go.Proofs.Ytfmhcefjbghhlaa
open Go Go.RowKit
section
variable {E : Env} {R : List SProp} {w : World} {b ba : Nat} {pl : List (Option Int)} {fr : List Nat} {i x : Int} {v : Value} {os : List OpT}
theorem ar_free (h : SatL E w (I.Ar ba (plA pl) fr :: R)) : ∀ j ∈ fr, pl[j]? = some none := by
  obtain ⟨ps, fs, hp, _⟩ := h.openArena
  intro j hj
  have h1 := hp.free j hj
  have hl := (List.getElem?_eq_some_iff.1 h1).1
  rw [plA_len] at hl
  have ho : pl[j]? = some pl[j] := List.getElem?_eq_getElem hl
  rw [plA_get ho] at h1
  cases hp : pl[j] with
  | none => rw [hp] at ho; exact ho
  | some v => rw [hp] at h1; cases h1
theorem plays_ok {W : World} (hv : OpsAt W v os) (hlen : os.length ≤ 200) (h : SatL E w (Old W :: R)) : Calls Try.prog 5 #[v] w (Ret fun u w' => u = .bool true ∧ SatL E w' (Old W :: R)) := by
  obtain ⟨a, cap, rfl, _, _, hread⟩ := hv
  have zA : ∀ w, (zeroValue 51).run Try.prog w = .ok (.agg #[.slice none 0 0, .slice none 0 0, .slice none 0 0]) w := fun _ => by kernel_rfl
  refine calls_y Try.func5 rfl Try.ntmps5 rfl ?_
  refine yc_gen (fun g hg => ?_)
  have s0 := (hg 0).trans arg0
  clear hg
  refine yc_seq (fun K hK1 => ?_)
  refine yc_region ?_
  refine x_alloc1 h Try.zeroValue4 rfl rfl ?_
  intro b2 w h
  refine xw_nil ?_
  refine hK1 _ _ _ ?_
  refine yc_gen (fun g hg => ?_)
  have s0 := (hg 0).trans (en rfl s0)
  have s2 := (hg 2).trans es
  clear hg
  refine yc_seq (fun K hK2 => ?_)
  refine yc_region ?_
  refine x_enter (r_call Try.call8 .nil) (nd_of rfl) rfl (I.new_ok h) ?_
  rintro _ w ⟨ba, rfl, h⟩
  refine x_val (r_build03 Try.underlying51 zA Try.sizeOf48 Try.sizeOf49 Try.sizeOf22) (nd_of rfl) rfl ?_
  refine x_boxA h es rfl ?_
  intro b15 w h
  refine x_alloc1 h Try.zeroValue47 rfl rfl ?_
  intro b4 w h
  refine x_val (r_assign (en rfl (en rfl (en rfl es)))) (nd_of rfl) rfl ?_
  refine x_st (r_store h 0 rfl Try.sizeOf47 (en rfl es) (en rfl (en rfl es)) rfl gc0) rfl (h.u0 sc0) ?_
  intro w h
  refine xw_nil ?_
  refine hK2 _ _ _ ?_
  refine yc_gen (fun g hg => ?_)
  have s0 := (hg 0).trans (en rfl (en rfl (en rfl (en rfl (en rfl s0)))))
  have s2 := (hg 2).trans (en rfl (en rfl (en rfl (en rfl (en rfl s2)))))
  have s3 := (hg 3).trans es
  have s4 := (hg 4).trans (en rfl es)
  clear hg
  refine yc_seq (fun K hK3 => ?_)
  refine yc_seq (fun K hK4 => ?_)
  refine yc_region ?_
  refine x_val (r_move s3) (nd_of rfl) rfl ?_
  refine x_val (r_eqnil Try.underlying24 es ec (r := false) rfl) (nd_of rfl) rfl ?_
  refine x_val (r_move es) (nd_of rfl) rfl ?_
  refine x_take (d := 18) rfl rfl es ?_
  refine x_val (r_move (en rfl (en rfl (en rfl s0)))) (nd_of rfl) rfl ?_
  refine x_take (d := 18) rfl rfl (en rfl es) ?_
  refine x_val (r_len Try.underlying32 es) (nd_of rfl) rfl ?_
  refine x_take (d := 18) rfl rfl (en rfl (en rfl es)) ?_
  refine x_val (r_gtr es ec (decide_eq_false (by omega))) (nd_of rfl) rfl ?_
  refine x_val (r_pick_f (en rfl (en rfl (en rfl es))) es) (nd_of rfl) rfl ?_
  refine xw_nil ?_
  refine hK4 _ _ _ ?_
  refine yc_gen (fun g hg => ?_)
  have s0 := (hg 0).trans (en rfl (en rfl (en rfl (en rfl (en rfl (en rfl (en rfl s0)))))))
  have s2 := (hg 2).trans (en rfl (en rfl (en rfl (en rfl (en rfl (en rfl (en rfl s2)))))))
  have s3 := (hg 3).trans (en rfl (en rfl (en rfl (en rfl (en rfl (en rfl (en rfl s3)))))))
  have s4 := (hg 4).trans (en rfl (en rfl (en rfl (en rfl (en rfl (en rfl (en rfl s4)))))))
  have s22 := (hg 22).trans es
  clear hg
  refine yc_cond s22 (fun hc => by cases hc) (fun _ => ?_)
  refine yc_skip ?_
  refine hK3 _ _ _ ?_
  refine yc_seq (fun K hK5 => ?_)
  refine yc_seq (fun K hK6 => ?_)
  refine yc_region ?_
  refine x_val (r_move s0) (nd_of rfl) rfl ?_
  refine x_val (r_len Try.underlying32 es) (nd_of rfl) rfl ?_
  refine x_val (r_move ec) (nd_of rfl) rfl ?_
  refine xw_nil ?_
  refine hK6 _ _ _ ?_
  refine yc_gen (fun g hg => ?_)
  have s0 := (hg 0).trans (en rfl (en rfl (en rfl s0)))
  have s2 := (hg 2).trans (en rfl (en rfl (en rfl s2)))
  have s3 := (hg 3).trans (en rfl (en rfl (en rfl s3)))
  have s4 := (hg 4).trans (en rfl (en rfl (en rfl s4)))
  have s22 := (hg 22).trans (en rfl (en rfl (en rfl s22)))
  have s28 := (hg 28).trans (en rfl (en rfl es))
  have s29 := (hg 29).trans (en rfl es)
  have s30 := (hg 30).trans es
  clear hg
  refine yc_block ?_
  obtain ⟨G7, hG7⟩ : ∃ g0 : Nat → Value, g0 = g := ⟨_, rfl⟩
  have zG7_0 : G7 0 = _ := (congrFun hG7 0).trans s0
  have zG7_2 : G7 2 = _ := (congrFun hG7 2).trans s2
  have zG7_3 : G7 3 = _ := (congrFun hG7 3).trans s3
  have zG7_4 : G7 4 = _ := (congrFun hG7 4).trans s4
  have zG7_22 : G7 22 = _ := (congrFun hG7 22).trans s22
  have zG7_28 : G7 28 = _ := (congrFun hG7 28).trans s28
  have zG7_29 : G7 29 = _ := (congrFun hG7 29).trans s29
  refine yc_loop (fun m ds f w => (∃ (k : Nat) (pl : List (Option Int)) (fr Ds : List Nat), m = os.length - k ∧ k ≤ os.length ∧ pl.length ≤ k ∧ cnt pl + fr.length = pl.length ∧ f 30 = .int .i64 (k : Int) ∧ ds = Ds.map mark ∧ SatL E w (Marks Ds :: I.Ar ba (plA pl) fr :: RefA b15 pl fr :: Cells b4 #[.pointer (some ⟨b15, 0, none⟩)] 47 :: Cells b2 #[.bool false] 4 :: Old W :: R)) ∧ (f 0 = G7 0 ∧ f 2 = G7 2 ∧ f 3 = G7 3 ∧ f 4 = G7 4 ∧ f 22 = G7 22 ∧ f 28 = G7 28 ∧ f 29 = G7 29)) (os.length) ⟨⟨0, [], [], [], by omega, by omega, by simp, by simp [cnt], s30, rfl, ((newref h.f1).f2.addPure trivial)⟩, ⟨congrFun hG7.symm 0, congrFun hG7.symm 2, congrFun hG7.symm 3, congrFun hG7.symm 4, congrFun hG7.symm 22, congrFun hG7.symm 28, congrFun hG7.symm 29⟩⟩ ?_
  rintro m ds g w ⟨⟨k, pl, fr, Ds, hm, hk, hpk, hcnt, s30, rfl, h⟩, ⟨y0, y2, y3, y4, y22, y28, y29⟩⟩
  have s0 := y0.trans zG7_0
  have s2 := y2.trans zG7_2
  have s3 := y3.trans zG7_3
  have s4 := y4.trans zG7_4
  have s22 := y22.trans zG7_22
  have s28 := y28.trans zG7_28
  have s29 := y29.trans zG7_29
  refine yc_seq (fun K hK8 => ?_)
  refine yc_region ?_
  refine x_val (r_lss s30 s29 rfl) (nd_of rfl) rfl ?_
  refine xw_nil ?_
  refine hK8 _ _ _ ?_
  refine yc_gen (fun g hg => ?_)
  have s0 := (hg 0).trans (en rfl s0)
  have s2 := (hg 2).trans (en rfl s2)
  have s3 := (hg 3).trans (en rfl s3)
  have s4 := (hg 4).trans (en rfl s4)
  have s22 := (hg 22).trans (en rfl s22)
  have s28 := (hg 28).trans (en rfl s28)
  have s29 := (hg 29).trans (en rfl s29)
  have s30 := (hg 30).trans (en rfl s30)
  have s31 := (hg 31).trans es
  clear hg
  refine yc_seq (fun K hK9 => ?_)
  refine yc_cond s31 (fun hc => ?_) (fun hc => ?_)
  ·
    refine yc_skip ?_
    refine hK9 _ _ _ ?_
    refine yc_seq (fun K hK10 => ?_)
    refine yc_block ?_
    refine yc_seq (fun K hK11 => ?_)
    have hi : k < os.length := by have := of_decide_eq_true hc; omega
    obtain ⟨o, ho⟩ : ∃ o, os[k]? = some o := ⟨_, List.getElem?_eq_getElem hi⟩
    obtain ⟨hwf, a', rfl, hrd⟩ := hread k o ho
    have hok : Ok 3 (opC o).toArray := ⟨rfl, by simp [opC, Value.oneCell']⟩
    refine yc_region ?_
    refine x_val (r_indexAny Try.underlying32 Try.sizeOf40 s28 s30 (by omega) (by omega)) (nd_of rfl) rfl ?_
    refine x_val (r_loadAggOld h 5 rfl Try.isAgg40 Try.sizeOf40 es rfl hrd) (nd_of rfl) rfl ?_
    refine x_declA h Try.zeroValue40 Try.sizeOf40 rfl (en rfl es) (by first | assumption | exact Ok.node (by assumption) | exact ChOk.ok (by assumption)) rfl ?_
    intro b6 w h
    refine xw_nil ?_
    refine hK11 _ _ _ ?_
    refine yc_gen (fun g hg => ?_)
    have s0 := (hg 0).trans (en rfl (en rfl (en rfl s0)))
    have s2 := (hg 2).trans (en rfl (en rfl (en rfl s2)))
    have s3 := (hg 3).trans (en rfl (en rfl (en rfl s3)))
    have s4 := (hg 4).trans (en rfl (en rfl (en rfl s4)))
    have s6 := (hg 6).trans es
    have s22 := (hg 22).trans (en rfl (en rfl (en rfl s22)))
    have s28 := (hg 28).trans (en rfl (en rfl (en rfl s28)))
    have s29 := (hg 29).trans (en rfl (en rfl (en rfl s29)))
    have s30 := (hg 30).trans (en rfl (en rfl (en rfl s30)))
    have s31 := (hg 31).trans (en rfl (en rfl (en rfl s31)))
    clear hg
    refine yc_seq (fun K hK12 => ?_)
    refine yc_region ?_
    refine x_val (r_assign ec) (nd_of rfl) rfl ?_
    refine xw_nil ?_
    refine hK12 _ _ _ ?_
    refine yc_gen (fun g hg => ?_)
    have s0 := (hg 0).trans (en rfl s0)
    have s2 := (hg 2).trans (en rfl s2)
    have s3 := (hg 3).trans (en rfl s3)
    have s4 := (hg 4).trans (en rfl s4)
    have s6 := (hg 6).trans (en rfl s6)
    have s7 := (hg 7).trans es
    have s22 := (hg 22).trans (en rfl s22)
    have s28 := (hg 28).trans (en rfl s28)
    have s29 := (hg 29).trans (en rfl s29)
    have s30 := (hg 30).trans (en rfl s30)
    have s31 := (hg 31).trans (en rfl s31)
    clear hg
    have h : SatL E w (Cells b6 #[.int .i64 o.1, .int .i64 o.2.1, .int .i64 o.2.2] 40 :: Marks Ds :: I.Ar ba (plA pl) fr :: RefA b15 pl fr :: Cells b4 #[.pointer (some ⟨b15, 0, none⟩)] 47 :: Cells b2 #[.bool false] 4 :: Old W :: R) := h
    obtain ⟨G13, hG13⟩ : ∃ g0 : Nat → Value, g0 = g := ⟨_, rfl⟩
    have zG13_0 : G13 0 = _ := (congrFun hG13 0).trans s0
    have zG13_2 : G13 2 = _ := (congrFun hG13 2).trans s2
    have zG13_3 : G13 3 = _ := (congrFun hG13 3).trans s3
    have zG13_4 : G13 4 = _ := (congrFun hG13 4).trans s4
    have zG13_6 : G13 6 = _ := (congrFun hG13 6).trans s6
    have zG13_22 : G13 22 = _ := (congrFun hG13 22).trans s22
    have zG13_28 : G13 28 = _ := (congrFun hG13 28).trans s28
    have zG13_29 : G13 29 = _ := (congrFun hG13 29).trans s29
    have zG13_30 : G13 30 = _ := (congrFun hG13 30).trans s30
    have zG13_31 : G13 31 = _ := (congrFun hG13 31).trans s31
    refine yc_cut (fun ds f w => (f 7 = .int .i64 (if isT pl o.2.1 = true then 0 else 5) ∧ ds = Ds.map mark ∧ SatL E w (Cells b6 #[.int .i64 o.1, .int .i64 o.2.1, .int .i64 o.2.2] 40 :: Marks Ds :: I.Ar ba (plA pl) fr :: RefA b15 pl fr :: Cells b4 #[.pointer (some ⟨b15, 0, none⟩)] 47 :: Cells b2 #[.bool false] 4 :: Old W :: R)) ∧ (f 0 = G13 0 ∧ f 2 = G13 2 ∧ f 3 = G13 3 ∧ f 4 = G13 4 ∧ f 6 = G13 6 ∧ f 22 = G13 22 ∧ f 28 = G13 28 ∧ f 29 = G13 29 ∧ f 30 = G13 30 ∧ f 31 = G13 31)) ?_ ?_
    ·
      skip
      refine yc_seq (fun K hK14 => ?_)
      refine yc_region ?_
      refine x_val (r_load h 4 rfl Try.isAgg47 s4 gc0) (nd_of rfl) rfl ?_
      refine x_val (r_fieldAddr (o' := 1) Try.underlying40 rfl Try.sizeOf3 rfl (en rfl s6) rfl) (nd_of rfl) rfl ?_
      refine x_val (r_load h 0 rfl Try.isAgg3 es gc1) (nd_of rfl) rfl ?_
      have h := h.f3
      refine x_enter (r_call Try.call21 (.cons (en rfl (en rfl es)) (.cons es .nil))) (nd_of rfl) rfl (refhas_b (bb := isT pl o.2.1) rfl h) ?_
      rintro _ w ⟨rfl, h⟩
      refine x_val (r_not es rfl) (nd_of rfl) rfl ?_
      refine xw_nil ?_
      refine hK14 _ _ _ ?_
      refine yc_gen (fun g hg => ?_)
      have s0 := (hg 0).trans (en rfl (en rfl (en rfl (en rfl (en rfl s0)))))
      have s2 := (hg 2).trans (en rfl (en rfl (en rfl (en rfl (en rfl s2)))))
      have s3 := (hg 3).trans (en rfl (en rfl (en rfl (en rfl (en rfl s3)))))
      have s4 := (hg 4).trans (en rfl (en rfl (en rfl (en rfl (en rfl s4)))))
      have s6 := (hg 6).trans (en rfl (en rfl (en rfl (en rfl (en rfl s6)))))
      have s7 := (hg 7).trans (en rfl (en rfl (en rfl (en rfl (en rfl s7)))))
      have s22 := (hg 22).trans (en rfl (en rfl (en rfl (en rfl (en rfl s22)))))
      have s28 := (hg 28).trans (en rfl (en rfl (en rfl (en rfl (en rfl s28)))))
      have s29 := (hg 29).trans (en rfl (en rfl (en rfl (en rfl (en rfl s29)))))
      have s30 := (hg 30).trans (en rfl (en rfl (en rfl (en rfl (en rfl s30)))))
      have s31 := (hg 31).trans (en rfl (en rfl (en rfl (en rfl (en rfl s31)))))
      have s38 := (hg 38).trans es
      clear hg
      refine yc_cond s38 (fun hc => ?_) (fun hc => ?_)
      ·
        have hT : isT pl o.2.1 = false := by simpa using hc
        refine yc_region ?_
        refine x_val (r_assign ec) (nd_of rfl) rfl ?_
        refine xw_nil ?_
        exact ⟨⟨by rw [hT]; exact es, rfl, (h.f3.f3.f3)⟩, ⟨((en rfl s0)).trans zG13_0.symm, ((en rfl s2)).trans zG13_2.symm, ((en rfl s3)).trans zG13_3.symm, ((en rfl s4)).trans zG13_4.symm, ((en rfl s6)).trans zG13_6.symm, ((en rfl s22)).trans zG13_22.symm, ((en rfl s28)).trans zG13_28.symm, ((en rfl s29)).trans zG13_29.symm, ((en rfl s30)).trans zG13_30.symm, ((en rfl s31)).trans zG13_31.symm⟩⟩
      ·
        refine yc_skip ?_
        have hT : isT pl o.2.1 = true := by simpa using hc
        exact ⟨⟨by rw [hT]; exact s7, rfl, (h.f3.f3.f3)⟩, ⟨(s0).trans zG13_0.symm, (s2).trans zG13_2.symm, (s3).trans zG13_3.symm, (s4).trans zG13_4.symm, (s6).trans zG13_6.symm, (s22).trans zG13_22.symm, (s28).trans zG13_28.symm, (s29).trans zG13_29.symm, (s30).trans zG13_30.symm, (s31).trans zG13_31.symm⟩⟩
    ·
      rintro ds g w ⟨⟨s7, rfl, h⟩, ⟨y0, y2, y3, y4, y6, y22, y28, y29, y30, y31⟩⟩
      have s0 := y0.trans zG13_0
      have s2 := y2.trans zG13_2
      have s3 := y3.trans zG13_3
      have s4 := y4.trans zG13_4
      have s6 := y6.trans zG13_6
      have s22 := y22.trans zG13_22
      have s28 := y28.trans zG13_28
      have s29 := y29.trans zG13_29
      have s30 := y30.trans zG13_30
      have s31 := y31.trans zG13_31
      obtain ⟨G15, hG15⟩ : ∃ g0 : Nat → Value, g0 = g := ⟨_, rfl⟩
      have zG15_0 : G15 0 = _ := (congrFun hG15 0).trans s0
      have zG15_2 : G15 2 = _ := (congrFun hG15 2).trans s2
      have zG15_3 : G15 3 = _ := (congrFun hG15 3).trans s3
      have zG15_4 : G15 4 = _ := (congrFun hG15 4).trans s4
      have zG15_6 : G15 6 = _ := (congrFun hG15 6).trans s6
      have zG15_7 : G15 7 = _ := (congrFun hG15 7).trans s7
      have zG15_22 : G15 22 = _ := (congrFun hG15 22).trans s22
      have zG15_28 : G15 28 = _ := (congrFun hG15 28).trans s28
      have zG15_29 : G15 29 = _ := (congrFun hG15 29).trans s29
      have zG15_30 : G15 30 = _ := (congrFun hG15 30).trans s30
      have zG15_31 : G15 31 = _ := (congrFun hG15 31).trans s31
      refine yc_cut (fun ds f w => (∃ (pl2 : List (Option Int)) (fr2 : List Nat), pl2.length ≤ k + 1 ∧ cnt pl2 + fr2.length = pl2.length ∧ ds = Ds.map mark ∧ SatL E w (Marks Ds :: I.Ar ba (plA pl2) fr2 :: RefA b15 pl2 fr2 :: Cells b4 #[.pointer (some ⟨b15, 0, none⟩)] 47 :: Cells b2 #[.bool false] 4 :: Old W :: R)) ∧ (f 0 = G15 0 ∧ f 2 = G15 2 ∧ f 3 = G15 3 ∧ f 4 = G15 4 ∧ f 6 = G15 6 ∧ f 7 = G15 7 ∧ f 22 = G15 22 ∧ f 28 = G15 28 ∧ f 29 = G15 29 ∧ f 30 = G15 30 ∧ f 31 = G15 31)) ?_ ?_
      ·
        skip
        refine yc_seq (fun K hK16 => ?_)
        refine yc_region ?_
        refine x_val (r_fieldAddr (o' := 0) Try.underlying40 rfl Try.sizeOf3 rfl s6 rfl) (nd_of rfl) rfl ?_
        refine x_val (r_load h 0 rfl Try.isAgg3 es gc0) (nd_of rfl) rfl ?_
        refine xw_nil ?_
        refine hK16 _ _ _ ?_
        refine yc_gen (fun g hg => ?_)
        have s0 := (hg 0).trans (en rfl (en rfl s0))
        have s2 := (hg 2).trans (en rfl (en rfl s2))
        have s3 := (hg 3).trans (en rfl (en rfl s3))
        have s4 := (hg 4).trans (en rfl (en rfl s4))
        have s6 := (hg 6).trans (en rfl (en rfl s6))
        have s7 := (hg 7).trans (en rfl (en rfl s7))
        have s22 := (hg 22).trans (en rfl (en rfl s22))
        have s28 := (hg 28).trans (en rfl (en rfl s28))
        have s29 := (hg 29).trans (en rfl (en rfl s29))
        have s30 := (hg 30).trans (en rfl (en rfl s30))
        have s31 := (hg 31).trans (en rfl (en rfl s31))
        have s40 := (hg 40).trans es
        clear hg
        refine yc_block ?_
        refine yc_seq (fun K hK17 => ?_)
        refine yc_region ?_
        refine x_val (r_eql s40 ec rfl) (nd_of rfl) rfl ?_
        refine x_val (r_assign es) (nd_of rfl) rfl ?_
        refine xw_nil ?_
        refine hK17 _ _ _ ?_
        refine yc_gen (fun g hg => ?_)
        have s0 := (hg 0).trans (en rfl (en rfl s0))
        have s2 := (hg 2).trans (en rfl (en rfl s2))
        have s3 := (hg 3).trans (en rfl (en rfl s3))
        have s4 := (hg 4).trans (en rfl (en rfl s4))
        have s6 := (hg 6).trans (en rfl (en rfl s6))
        have s7 := (hg 7).trans (en rfl (en rfl s7))
        have s22 := (hg 22).trans (en rfl (en rfl s22))
        have s28 := (hg 28).trans (en rfl (en rfl s28))
        have s29 := (hg 29).trans (en rfl (en rfl s29))
        have s30 := (hg 30).trans (en rfl (en rfl s30))
        have s31 := (hg 31).trans (en rfl (en rfl s31))
        have s40 := (hg 40).trans (en rfl (en rfl s40))
        have s75 := (hg 75).trans es
        clear hg
        refine yc_cond s75 (fun hc => ?_) (fun hc => ?_)
        ·
          rcases List.eq_nil_or_concat fr with rfl | ⟨fr1, j, rfl⟩
          ·
            skip
            refine yc_seq (fun K hK18 => ?_)
            have hS := h
            have hS := (hS.f1).drop
            have hS := (hS.f1).drop
            have hS := (hS.f1).drop
            have hS := (hS.f2).drop
            refine yc_of_xc (xc_plan 9 [(0, 2), (1, 2), (2, 1), (4, 1), (5, 2), (6, 1), (3, 0), (7, 0), (8, 2)] (by kernel_rfl) rfl (by kernel_rfl) hS ?_)
            have h := h.drew
            refine xp_read (i := 0) rfl (fun W => r_move s3) rfl (fun _ _ _ hh => by first | exact bodyR_np hh | exact bodyY_np hh | exact hh) ?_
            refine xp_read (i := 1) rfl (fun W => r_fieldAddr (o' := 2) Try.underlying40 rfl Try.sizeOf2 rfl (en rfl s6) rfl) rfl (fun _ _ _ hh => by first | exact bodyR_np hh | exact bodyY_np hh | exact hh) ?_
            refine xp_load (i := 2) rfl (fun W hW => r_load hW 0 rfl Try.isAgg2 es gc2) rfl (fun _ _ _ hh => by first | exact bodyR_np hh | exact bodyY_np hh | exact hh) ?_
            refine xp_load (i := 4) rfl (fun W hW => r_load hW 1 rfl Try.isAgg47 (en rfl (en rfl (en rfl s4))) gc0) rfl (fun _ _ _ hh => by first | exact bodyR_np hh | exact bodyY_np hh | exact hh) ?_
            refine xp_read (i := 5) rfl (fun W => r_fieldAddr (o' := 2) Try.underlying40 rfl Try.sizeOf2 rfl (en rfl (en rfl (en rfl (en rfl s6)))) rfl) rfl (fun _ _ _ hh => by first | exact bodyR_np hh | exact bodyY_np hh | exact hh) ?_
            refine xp_load (i := 6) rfl (fun W hW => r_load hW 0 rfl Try.isAgg2 es gc2) rfl (fun _ _ _ hh => by first | exact bodyR_np hh | exact bodyY_np hh | exact hh) ?_
            have h := h.f2
            refine xp_enter (i := 3) rfl (r_call Try.call9 (.cons (en rfl (en rfl (en rfl (en rfl (en rfl es))))) (.cons (en rfl (en rfl (en rfl es))) .nil))) rfl (I.take_new (x := o.2.2) (by rw [plA_len]; omega) h) ?_
            rintro _ w ⟨rfl, h⟩
            refine ⟨(fun _ => ((((h.f0).drop.f1).drop.f1).drop.f2).drop), ?_⟩
            have h := h.f3
            refine xp_enter (i := 7) rfl (r_call Try.call22 (.cons (en rfl (en rfl (en rfl es))) (.cons (en rfl es) .nil))) rfl (reftake_new (by omega) h) ?_
            rintro _ w ⟨rfl, h⟩
            refine ⟨(fun _ => ((((h.f0).drop.f0).drop.f1).drop.f2).drop), ?_⟩
            refine xp_read (i := 8) rfl (fun W => r_neq (en rfl es) es (decide_eq_false (by simp [plA_len]))) rfl (fun _ _ _ hh => by first | exact bodyR_np hh | exact bodyY_np hh | exact hh) ?_
            refine xp_nil ?_
            refine hK18 _ _ _ ?_
            refine yc_gen (fun g hg => ?_)
            have s0 := (hg 0).trans (en rfl (en rfl (en rfl (en rfl (en rfl (en rfl (en rfl (en rfl (en rfl s0)))))))))
            have s2 := (hg 2).trans (en rfl (en rfl (en rfl (en rfl (en rfl (en rfl (en rfl (en rfl (en rfl s2)))))))))
            have s3 := (hg 3).trans (en rfl (en rfl (en rfl (en rfl (en rfl (en rfl (en rfl (en rfl (en rfl s3)))))))))
            have s4 := (hg 4).trans (en rfl (en rfl (en rfl (en rfl (en rfl (en rfl (en rfl (en rfl (en rfl s4)))))))))
            have s6 := (hg 6).trans (en rfl (en rfl (en rfl (en rfl (en rfl (en rfl (en rfl (en rfl (en rfl s6)))))))))
            have s7 := (hg 7).trans (en rfl (en rfl (en rfl (en rfl (en rfl (en rfl (en rfl (en rfl (en rfl s7)))))))))
            have s22 := (hg 22).trans (en rfl (en rfl (en rfl (en rfl (en rfl (en rfl (en rfl (en rfl (en rfl s22)))))))))
            have s28 := (hg 28).trans (en rfl (en rfl (en rfl (en rfl (en rfl (en rfl (en rfl (en rfl (en rfl s28)))))))))
            have s29 := (hg 29).trans (en rfl (en rfl (en rfl (en rfl (en rfl (en rfl (en rfl (en rfl (en rfl s29)))))))))
            have s30 := (hg 30).trans (en rfl (en rfl (en rfl (en rfl (en rfl (en rfl (en rfl (en rfl (en rfl s30)))))))))
            have s31 := (hg 31).trans (en rfl (en rfl (en rfl (en rfl (en rfl (en rfl (en rfl (en rfl (en rfl s31)))))))))
            have s40 := (hg 40).trans (en rfl (en rfl (en rfl (en rfl (en rfl (en rfl (en rfl (en rfl (en rfl s40)))))))))
            have s75 := (hg 75).trans (en rfl (en rfl (en rfl (en rfl (en rfl (en rfl (en rfl (en rfl (en rfl s75)))))))))
            have s85 := (hg 85).trans es
            clear hg
            refine yc_cond s85 (fun hc => by cases hc) (fun _ => ?_)
            refine yc_skip ?_
            have h := (h.f2).drop
            have h := h.f4
            have h := h.f4
            have h := h.f2
            have h := h.f3
            have h := h.f4
            exact ⟨⟨pl ++ [some o.2.2], [], by simp; omega, by rw [cnt_snoc]; simp at hcnt ⊢; omega, rfl, by rw [← plA_snoc]; exact h⟩, ⟨(s0).trans zG15_0.symm, (s2).trans zG15_2.symm, (s3).trans zG15_3.symm, (s4).trans zG15_4.symm, (s6).trans zG15_6.symm, (s7).trans zG15_7.symm, (s22).trans zG15_22.symm, (s28).trans zG15_28.symm, (s29).trans zG15_29.symm, (s30).trans zG15_30.symm, (s31).trans zG15_31.symm⟩⟩
          ·
            skip
            refine yc_seq (fun K hK19 => ?_)
            simp only [List.concat_eq_append] at h hcnt
            have hfj := ar_free (h.f2) j (by simp)
            have hjl := (List.getElem?_eq_some_iff.1 hfj).1
            have hS := h
            have hS := (hS.f1).drop
            have hS := (hS.f1).drop
            have hS := (hS.f1).drop
            have hS := (hS.f2).drop
            refine yc_of_xc (xc_plan 9 [(0, 2), (1, 2), (2, 1), (4, 1), (5, 2), (6, 1), (3, 0), (7, 0), (8, 2)] (by kernel_rfl) rfl (by kernel_rfl) hS ?_)
            have h := h.drew
            refine xp_read (i := 0) rfl (fun W => r_move s3) rfl (fun _ _ _ hh => by first | exact bodyR_np hh | exact bodyY_np hh | exact hh) ?_
            refine xp_read (i := 1) rfl (fun W => r_fieldAddr (o' := 2) Try.underlying40 rfl Try.sizeOf2 rfl (en rfl s6) rfl) rfl (fun _ _ _ hh => by first | exact bodyR_np hh | exact bodyY_np hh | exact hh) ?_
            refine xp_load (i := 2) rfl (fun W hW => r_load hW 0 rfl Try.isAgg2 es gc2) rfl (fun _ _ _ hh => by first | exact bodyR_np hh | exact bodyY_np hh | exact hh) ?_
            refine xp_load (i := 4) rfl (fun W hW => r_load hW 1 rfl Try.isAgg47 (en rfl (en rfl (en rfl s4))) gc0) rfl (fun _ _ _ hh => by first | exact bodyR_np hh | exact bodyY_np hh | exact hh) ?_
            refine xp_read (i := 5) rfl (fun W => r_fieldAddr (o' := 2) Try.underlying40 rfl Try.sizeOf2 rfl (en rfl (en rfl (en rfl (en rfl s6)))) rfl) rfl (fun _ _ _ hh => by first | exact bodyR_np hh | exact bodyY_np hh | exact hh) ?_
            refine xp_load (i := 6) rfl (fun W hW => r_load hW 0 rfl Try.isAgg2 es gc2) rfl (fun _ _ _ hh => by first | exact bodyR_np hh | exact bodyY_np hh | exact hh) ?_
            have h := h.f2
            refine xp_enter (i := 3) rfl (r_call Try.call9 (.cons (en rfl (en rfl (en rfl (en rfl (en rfl es))))) (.cons (en rfl (en rfl (en rfl es))) .nil))) rfl (I.take_free (pl := plA pl) (x := o.2.2) (by rw [plA_len]; omega) h) ?_
            rintro _ w ⟨rfl, h⟩
            refine ⟨(fun _ => ((((h.f0).drop.f1).drop.f1).drop.f2).drop), ?_⟩
            have h := h.f3
            refine xp_enter (i := 7) rfl (r_call Try.call22 (.cons (en rfl (en rfl (en rfl es))) (.cons (en rfl es) .nil))) rfl (reftake_free hjl (by simp at hcnt; omega) h) ?_
            rintro _ w ⟨rfl, h⟩
            refine ⟨(fun _ => ((((h.f0).drop.f0).drop.f1).drop.f2).drop), ?_⟩
            refine xp_read (i := 8) rfl (fun W => r_neq (en rfl es) es (decide_eq_false (by omega))) rfl (fun _ _ _ hh => by first | exact bodyR_np hh | exact bodyY_np hh | exact hh) ?_
            refine xp_nil ?_
            refine hK19 _ _ _ ?_
            refine yc_gen (fun g hg => ?_)
            have s0 := (hg 0).trans (en rfl (en rfl (en rfl (en rfl (en rfl (en rfl (en rfl (en rfl (en rfl s0)))))))))
            have s2 := (hg 2).trans (en rfl (en rfl (en rfl (en rfl (en rfl (en rfl (en rfl (en rfl (en rfl s2)))))))))
            have s3 := (hg 3).trans (en rfl (en rfl (en rfl (en rfl (en rfl (en rfl (en rfl (en rfl (en rfl s3)))))))))
            have s4 := (hg 4).trans (en rfl (en rfl (en rfl (en rfl (en rfl (en rfl (en rfl (en rfl (en rfl s4)))))))))
            have s6 := (hg 6).trans (en rfl (en rfl (en rfl (en rfl (en rfl (en rfl (en rfl (en rfl (en rfl s6)))))))))
            have s7 := (hg 7).trans (en rfl (en rfl (en rfl (en rfl (en rfl (en rfl (en rfl (en rfl (en rfl s7)))))))))
            have s22 := (hg 22).trans (en rfl (en rfl (en rfl (en rfl (en rfl (en rfl (en rfl (en rfl (en rfl s22)))))))))
            have s28 := (hg 28).trans (en rfl (en rfl (en rfl (en rfl (en rfl (en rfl (en rfl (en rfl (en rfl s28)))))))))
            have s29 := (hg 29).trans (en rfl (en rfl (en rfl (en rfl (en rfl (en rfl (en rfl (en rfl (en rfl s29)))))))))
            have s30 := (hg 30).trans (en rfl (en rfl (en rfl (en rfl (en rfl (en rfl (en rfl (en rfl (en rfl s30)))))))))
            have s31 := (hg 31).trans (en rfl (en rfl (en rfl (en rfl (en rfl (en rfl (en rfl (en rfl (en rfl s31)))))))))
            have s40 := (hg 40).trans (en rfl (en rfl (en rfl (en rfl (en rfl (en rfl (en rfl (en rfl (en rfl s40)))))))))
            have s75 := (hg 75).trans (en rfl (en rfl (en rfl (en rfl (en rfl (en rfl (en rfl (en rfl (en rfl s75)))))))))
            have s85 := (hg 85).trans es
            clear hg
            refine yc_cond s85 (fun hc => by cases hc) (fun _ => ?_)
            refine yc_skip ?_
            have h := (h.f2).drop
            have h := h.f4
            have h := h.f4
            have h := h.f2
            have h := h.f3
            have h := h.f4
            exact ⟨⟨pl.set j (some o.2.2), fr1, by rw [List.length_set]; omega, by rw [cnt_set_some hfj, List.length_set]; simp at hcnt ⊢; omega, rfl, by rw [← plA_set]; exact h⟩, ⟨(s0).trans zG15_0.symm, (s2).trans zG15_2.symm, (s3).trans zG15_3.symm, (s4).trans zG15_4.symm, (s6).trans zG15_6.symm, (s7).trans zG15_7.symm, (s22).trans zG15_22.symm, (s28).trans zG15_28.symm, (s29).trans zG15_29.symm, (s30).trans zG15_30.symm, (s31).trans zG15_31.symm⟩⟩
        ·
          refine yc_seq (fun K hK20 => ?_)
          refine yc_region ?_
          refine x_val (r_eql s40 ec rfl) (nd_of rfl) rfl ?_
          refine x_val (r_assign es) (nd_of rfl) rfl ?_
          refine xw_nil ?_
          refine hK20 _ _ _ ?_
          refine yc_gen (fun g hg => ?_)
          have s0 := (hg 0).trans (en rfl (en rfl s0))
          have s2 := (hg 2).trans (en rfl (en rfl s2))
          have s3 := (hg 3).trans (en rfl (en rfl s3))
          have s4 := (hg 4).trans (en rfl (en rfl s4))
          have s6 := (hg 6).trans (en rfl (en rfl s6))
          have s7 := (hg 7).trans (en rfl (en rfl s7))
          have s22 := (hg 22).trans (en rfl (en rfl s22))
          have s28 := (hg 28).trans (en rfl (en rfl s28))
          have s29 := (hg 29).trans (en rfl (en rfl s29))
          have s30 := (hg 30).trans (en rfl (en rfl s30))
          have s31 := (hg 31).trans (en rfl (en rfl s31))
          have s40 := (hg 40).trans (en rfl (en rfl s40))
          have s75 := (hg 75).trans (en rfl (en rfl s75))
          have s86 := (hg 86).trans es
          clear hg
          refine yc_cond s86 (fun hc => ?_) (fun hc => ?_)
          ·
            rcases hT : isT pl o.2.1 with _ | _
            ·
              skip
              refine yc_seq (fun K hK21 => ?_)
              refine yc_seq (fun K hK22 => ?_)
              refine yc_region ?_
              refine x_val (r_move s3) (nd_of rfl) rfl ?_
              refine x_val (r_fieldAddr (o' := 1) Try.underlying40 rfl Try.sizeOf3 rfl (en rfl s6) rfl) (nd_of rfl) rfl ?_
              refine x_val (r_load h 0 rfl Try.isAgg3 es gc1) (nd_of rfl) rfl ?_
              have h := h.f2
              refine x_enter (r_call Try.call10 (.cons (en rfl (en rfl es)) (.cons es .nil))) (nd_of rfl) rfl (I.free_no (isT_none hT) h) ?_
              rintro _ w ⟨rfl, h⟩
              refine x_val (r_move (en rfl (en rfl (en rfl (en rfl s7))))) (nd_of rfl) rfl ?_
              refine x_val (r_neq (en rfl es) es (decide_eq_false (by simp [hT]))) (nd_of rfl) rfl ?_
              refine xw_nil ?_
              refine hK22 _ _ _ ?_
              refine yc_gen (fun g hg => ?_)
              have s0 := (hg 0).trans (en rfl (en rfl (en rfl (en rfl (en rfl (en rfl s0))))))
              have s2 := (hg 2).trans (en rfl (en rfl (en rfl (en rfl (en rfl (en rfl s2))))))
              have s3 := (hg 3).trans (en rfl (en rfl (en rfl (en rfl (en rfl (en rfl s3))))))
              have s4 := (hg 4).trans (en rfl (en rfl (en rfl (en rfl (en rfl (en rfl s4))))))
              have s6 := (hg 6).trans (en rfl (en rfl (en rfl (en rfl (en rfl (en rfl s6))))))
              have s7 := (hg 7).trans (en rfl (en rfl (en rfl (en rfl (en rfl (en rfl s7))))))
              have s22 := (hg 22).trans (en rfl (en rfl (en rfl (en rfl (en rfl (en rfl s22))))))
              have s28 := (hg 28).trans (en rfl (en rfl (en rfl (en rfl (en rfl (en rfl s28))))))
              have s29 := (hg 29).trans (en rfl (en rfl (en rfl (en rfl (en rfl (en rfl s29))))))
              have s30 := (hg 30).trans (en rfl (en rfl (en rfl (en rfl (en rfl (en rfl s30))))))
              have s31 := (hg 31).trans (en rfl (en rfl (en rfl (en rfl (en rfl (en rfl s31))))))
              have s40 := (hg 40).trans (en rfl (en rfl (en rfl (en rfl (en rfl (en rfl s40))))))
              have s75 := (hg 75).trans (en rfl (en rfl (en rfl (en rfl (en rfl (en rfl s75))))))
              have s86 := (hg 86).trans (en rfl (en rfl (en rfl (en rfl (en rfl (en rfl s86))))))
              have s93 := (hg 93).trans es
              clear hg
              refine yc_cond s93 (fun hc => by cases hc) (fun _ => ?_)
              refine yc_skip ?_
              refine hK21 _ _ _ ?_
              refine yc_seq (fun K hK23 => ?_)
              refine yc_region ?_
              refine x_val (r_move s7) (nd_of rfl) rfl ?_
              refine x_val (r_eql es ec (decide_eq_false (by simp [hT]))) (nd_of rfl) rfl ?_
              refine xw_nil ?_
              refine hK23 _ _ _ ?_
              refine yc_gen (fun g hg => ?_)
              have s0 := (hg 0).trans (en rfl (en rfl s0))
              have s2 := (hg 2).trans (en rfl (en rfl s2))
              have s3 := (hg 3).trans (en rfl (en rfl s3))
              have s4 := (hg 4).trans (en rfl (en rfl s4))
              have s6 := (hg 6).trans (en rfl (en rfl s6))
              have s7 := (hg 7).trans (en rfl (en rfl s7))
              have s22 := (hg 22).trans (en rfl (en rfl s22))
              have s28 := (hg 28).trans (en rfl (en rfl s28))
              have s29 := (hg 29).trans (en rfl (en rfl s29))
              have s30 := (hg 30).trans (en rfl (en rfl s30))
              have s31 := (hg 31).trans (en rfl (en rfl s31))
              have s40 := (hg 40).trans (en rfl (en rfl s40))
              have s75 := (hg 75).trans (en rfl (en rfl s75))
              have s86 := (hg 86).trans (en rfl (en rfl s86))
              have s93 := (hg 93).trans (en rfl (en rfl s93))
              have s95 := (hg 95).trans es
              clear hg
              refine yc_cond s95 (fun hc => by cases hc) (fun _ => ?_)
              refine yc_skip ?_
              have h := (h.f1).drop
              have h := h.f4
              have h := h.f4
              have h := h.f4
              have h := h.f3
              have h := h.f4
              exact ⟨⟨pl, fr, by omega, hcnt, rfl, h⟩, ⟨(s0).trans zG15_0.symm, (s2).trans zG15_2.symm, (s3).trans zG15_3.symm, (s4).trans zG15_4.symm, (s6).trans zG15_6.symm, (s7).trans zG15_7.symm, (s22).trans zG15_22.symm, (s28).trans zG15_28.symm, (s29).trans zG15_29.symm, (s30).trans zG15_30.symm, (s31).trans zG15_31.symm⟩⟩
            ·
              skip
              refine yc_seq (fun K hK24 => ?_)
              refine yc_seq (fun K hK25 => ?_)
              obtain ⟨n, v, hn, hpv⟩ := isT_some hT
              have hnl := (List.getElem?_eq_some_iff.1 hpv).1
              have hcn := cnt_set_none hpv
              refine yc_region ?_
              refine x_val (r_move s3) (nd_of rfl) rfl ?_
              refine x_val (r_fieldAddr (o' := 1) Try.underlying40 rfl Try.sizeOf3 rfl (en rfl s6) rfl) (nd_of rfl) rfl ?_
              refine x_val (r_load h 0 rfl Try.isAgg3 es gc1) (nd_of rfl) rfl ?_
              have h := h.f2
              refine x_enter (r_call Try.call10 (.cons (en rfl (en rfl es)) (.cons es .nil))) (nd_of rfl) rfl (free_i hn hpv (by omega) h) ?_
              rintro _ w ⟨rfl, h⟩
              refine x_val (r_move (en rfl (en rfl (en rfl (en rfl s7))))) (nd_of rfl) rfl ?_
              refine x_val (r_neq (en rfl es) es (decide_eq_false (by simp [hT]))) (nd_of rfl) rfl ?_
              refine xw_nil ?_
              refine hK25 _ _ _ ?_
              refine yc_gen (fun g hg => ?_)
              have s0 := (hg 0).trans (en rfl (en rfl (en rfl (en rfl (en rfl (en rfl s0))))))
              have s2 := (hg 2).trans (en rfl (en rfl (en rfl (en rfl (en rfl (en rfl s2))))))
              have s3 := (hg 3).trans (en rfl (en rfl (en rfl (en rfl (en rfl (en rfl s3))))))
              have s4 := (hg 4).trans (en rfl (en rfl (en rfl (en rfl (en rfl (en rfl s4))))))
              have s6 := (hg 6).trans (en rfl (en rfl (en rfl (en rfl (en rfl (en rfl s6))))))
              have s7 := (hg 7).trans (en rfl (en rfl (en rfl (en rfl (en rfl (en rfl s7))))))
              have s22 := (hg 22).trans (en rfl (en rfl (en rfl (en rfl (en rfl (en rfl s22))))))
              have s28 := (hg 28).trans (en rfl (en rfl (en rfl (en rfl (en rfl (en rfl s28))))))
              have s29 := (hg 29).trans (en rfl (en rfl (en rfl (en rfl (en rfl (en rfl s29))))))
              have s30 := (hg 30).trans (en rfl (en rfl (en rfl (en rfl (en rfl (en rfl s30))))))
              have s31 := (hg 31).trans (en rfl (en rfl (en rfl (en rfl (en rfl (en rfl s31))))))
              have s40 := (hg 40).trans (en rfl (en rfl (en rfl (en rfl (en rfl (en rfl s40))))))
              have s75 := (hg 75).trans (en rfl (en rfl (en rfl (en rfl (en rfl (en rfl s75))))))
              have s86 := (hg 86).trans (en rfl (en rfl (en rfl (en rfl (en rfl (en rfl s86))))))
              have s93 := (hg 93).trans es
              clear hg
              refine yc_cond s93 (fun hc => by cases hc) (fun _ => ?_)
              refine yc_skip ?_
              refine hK24 _ _ _ ?_
              refine yc_seq (fun K hK26 => ?_)
              refine yc_region ?_
              refine x_val (r_move s7) (nd_of rfl) rfl ?_
              refine x_val (r_eql es ec (decide_eq_true (by simp [hT]))) (nd_of rfl) rfl ?_
              refine xw_nil ?_
              refine hK26 _ _ _ ?_
              refine yc_gen (fun g hg => ?_)
              have s0 := (hg 0).trans (en rfl (en rfl s0))
              have s2 := (hg 2).trans (en rfl (en rfl s2))
              have s3 := (hg 3).trans (en rfl (en rfl s3))
              have s4 := (hg 4).trans (en rfl (en rfl s4))
              have s6 := (hg 6).trans (en rfl (en rfl s6))
              have s7 := (hg 7).trans (en rfl (en rfl s7))
              have s22 := (hg 22).trans (en rfl (en rfl s22))
              have s28 := (hg 28).trans (en rfl (en rfl s28))
              have s29 := (hg 29).trans (en rfl (en rfl s29))
              have s30 := (hg 30).trans (en rfl (en rfl s30))
              have s31 := (hg 31).trans (en rfl (en rfl s31))
              have s40 := (hg 40).trans (en rfl (en rfl s40))
              have s75 := (hg 75).trans (en rfl (en rfl s75))
              have s86 := (hg 86).trans (en rfl (en rfl s86))
              have s93 := (hg 93).trans (en rfl (en rfl s93))
              have s95 := (hg 95).trans es
              clear hg
              refine yc_cond s95 (fun _ => ?_) (fun hc => by cases hc)
              refine yc_region ?_
              refine x_val (r_load h 4 rfl Try.isAgg47 s4 gc0) (nd_of rfl) rfl ?_
              refine x_val (r_fieldAddr (o' := 1) Try.underlying40 rfl Try.sizeOf3 rfl (en rfl s6) rfl) (nd_of rfl) rfl ?_
              refine x_val (r_load h 1 rfl Try.isAgg3 es gc1) (nd_of rfl) rfl ?_
              have h := h.f3
              refine x_enter (r_call Try.call23 (.cons (en rfl (en rfl es)) (.cons es .nil))) (nd_of rfl) rfl (drop_i hn hnl (by omega) h) ?_
              rintro _ w h
              refine xw_nil ?_
              have h := (h.f2).drop
              have h := h.f4
              have h := h.f4
              have h := h.f2
              have h := h.f3
              have h := h.f4
              exact ⟨⟨pl.set n none, fr ++ [n], by rw [List.length_set]; omega, by rw [List.length_set, List.length_append, List.length_singleton]; omega, rfl, h⟩, ⟨((en rfl (en rfl (en rfl (en rfl s0))))).trans zG15_0.symm, ((en rfl (en rfl (en rfl (en rfl s2))))).trans zG15_2.symm, ((en rfl (en rfl (en rfl (en rfl s3))))).trans zG15_3.symm, ((en rfl (en rfl (en rfl (en rfl s4))))).trans zG15_4.symm, ((en rfl (en rfl (en rfl (en rfl s6))))).trans zG15_6.symm, ((en rfl (en rfl (en rfl (en rfl s7))))).trans zG15_7.symm, ((en rfl (en rfl (en rfl (en rfl s22))))).trans zG15_22.symm, ((en rfl (en rfl (en rfl (en rfl s28))))).trans zG15_28.symm, ((en rfl (en rfl (en rfl (en rfl s29))))).trans zG15_29.symm, ((en rfl (en rfl (en rfl (en rfl s30))))).trans zG15_30.symm, ((en rfl (en rfl (en rfl (en rfl s31))))).trans zG15_31.symm⟩⟩
          ·
            refine yc_seq (fun K hK27 => ?_)
            refine yc_region ?_
            refine x_val (r_eql s40 ec rfl) (nd_of rfl) rfl ?_
            refine x_val (r_assign es) (nd_of rfl) rfl ?_
            refine xw_nil ?_
            refine hK27 _ _ _ ?_
            refine yc_gen (fun g hg => ?_)
            have s0 := (hg 0).trans (en rfl (en rfl s0))
            have s2 := (hg 2).trans (en rfl (en rfl s2))
            have s3 := (hg 3).trans (en rfl (en rfl s3))
            have s4 := (hg 4).trans (en rfl (en rfl s4))
            have s6 := (hg 6).trans (en rfl (en rfl s6))
            have s7 := (hg 7).trans (en rfl (en rfl s7))
            have s22 := (hg 22).trans (en rfl (en rfl s22))
            have s28 := (hg 28).trans (en rfl (en rfl s28))
            have s29 := (hg 29).trans (en rfl (en rfl s29))
            have s30 := (hg 30).trans (en rfl (en rfl s30))
            have s31 := (hg 31).trans (en rfl (en rfl s31))
            have s40 := (hg 40).trans (en rfl (en rfl s40))
            have s75 := (hg 75).trans (en rfl (en rfl s75))
            have s86 := (hg 86).trans (en rfl (en rfl s86))
            have s100 := (hg 100).trans es
            clear hg
            refine yc_cond s100 (fun hc => ?_) (fun hc => ?_)
            ·
              rcases hT : isT pl o.2.1 with _ | _
              ·
                skip
                refine yc_seq (fun K hK28 => ?_)
                refine yc_seq (fun K hK29 => ?_)
                refine yc_region ?_
                refine x_val (r_move s3) (nd_of rfl) rfl ?_
                refine x_val (r_fieldAddr (o' := 1) Try.underlying40 rfl Try.sizeOf3 rfl (en rfl s6) rfl) (nd_of rfl) rfl ?_
                refine x_val (r_load h 0 rfl Try.isAgg3 es gc1) (nd_of rfl) rfl ?_
                refine x_val (r_fieldAddr (o' := 2) Try.underlying40 rfl Try.sizeOf2 rfl (en rfl (en rfl (en rfl s6))) rfl) (nd_of rfl) rfl ?_
                refine x_val (r_load h 0 rfl Try.isAgg2 es gc2) (nd_of rfl) rfl ?_
                have h := h.f2
                refine x_enter (r_call Try.call24 (.cons (en rfl (en rfl (en rfl (en rfl es)))) (.cons (en rfl (en rfl es)) (.cons es .nil)))) (nd_of rfl) rfl (I.put_no (isT_none hT) h) ?_
                rintro _ w ⟨rfl, h⟩
                refine x_val (r_move (en rfl (en rfl (en rfl (en rfl (en rfl (en rfl s7))))))) (nd_of rfl) rfl ?_
                refine x_val (r_neq (en rfl es) es (decide_eq_false (by simp [hT]))) (nd_of rfl) rfl ?_
                refine xw_nil ?_
                refine hK29 _ _ _ ?_
                refine yc_gen (fun g hg => ?_)
                have s0 := (hg 0).trans (en rfl (en rfl (en rfl (en rfl (en rfl (en rfl (en rfl (en rfl s0))))))))
                have s2 := (hg 2).trans (en rfl (en rfl (en rfl (en rfl (en rfl (en rfl (en rfl (en rfl s2))))))))
                have s3 := (hg 3).trans (en rfl (en rfl (en rfl (en rfl (en rfl (en rfl (en rfl (en rfl s3))))))))
                have s4 := (hg 4).trans (en rfl (en rfl (en rfl (en rfl (en rfl (en rfl (en rfl (en rfl s4))))))))
                have s6 := (hg 6).trans (en rfl (en rfl (en rfl (en rfl (en rfl (en rfl (en rfl (en rfl s6))))))))
                have s7 := (hg 7).trans (en rfl (en rfl (en rfl (en rfl (en rfl (en rfl (en rfl (en rfl s7))))))))
                have s22 := (hg 22).trans (en rfl (en rfl (en rfl (en rfl (en rfl (en rfl (en rfl (en rfl s22))))))))
                have s28 := (hg 28).trans (en rfl (en rfl (en rfl (en rfl (en rfl (en rfl (en rfl (en rfl s28))))))))
                have s29 := (hg 29).trans (en rfl (en rfl (en rfl (en rfl (en rfl (en rfl (en rfl (en rfl s29))))))))
                have s30 := (hg 30).trans (en rfl (en rfl (en rfl (en rfl (en rfl (en rfl (en rfl (en rfl s30))))))))
                have s31 := (hg 31).trans (en rfl (en rfl (en rfl (en rfl (en rfl (en rfl (en rfl (en rfl s31))))))))
                have s40 := (hg 40).trans (en rfl (en rfl (en rfl (en rfl (en rfl (en rfl (en rfl (en rfl s40))))))))
                have s75 := (hg 75).trans (en rfl (en rfl (en rfl (en rfl (en rfl (en rfl (en rfl (en rfl s75))))))))
                have s86 := (hg 86).trans (en rfl (en rfl (en rfl (en rfl (en rfl (en rfl (en rfl (en rfl s86))))))))
                have s100 := (hg 100).trans (en rfl (en rfl (en rfl (en rfl (en rfl (en rfl (en rfl (en rfl s100))))))))
                have s109 := (hg 109).trans es
                clear hg
                refine yc_cond s109 (fun hc => by cases hc) (fun _ => ?_)
                refine yc_skip ?_
                refine hK28 _ _ _ ?_
                refine yc_seq (fun K hK30 => ?_)
                refine yc_region ?_
                refine x_val (r_move s7) (nd_of rfl) rfl ?_
                refine x_val (r_eql es ec (decide_eq_false (by simp [hT]))) (nd_of rfl) rfl ?_
                refine xw_nil ?_
                refine hK30 _ _ _ ?_
                refine yc_gen (fun g hg => ?_)
                have s0 := (hg 0).trans (en rfl (en rfl s0))
                have s2 := (hg 2).trans (en rfl (en rfl s2))
                have s3 := (hg 3).trans (en rfl (en rfl s3))
                have s4 := (hg 4).trans (en rfl (en rfl s4))
                have s6 := (hg 6).trans (en rfl (en rfl s6))
                have s7 := (hg 7).trans (en rfl (en rfl s7))
                have s22 := (hg 22).trans (en rfl (en rfl s22))
                have s28 := (hg 28).trans (en rfl (en rfl s28))
                have s29 := (hg 29).trans (en rfl (en rfl s29))
                have s30 := (hg 30).trans (en rfl (en rfl s30))
                have s31 := (hg 31).trans (en rfl (en rfl s31))
                have s40 := (hg 40).trans (en rfl (en rfl s40))
                have s75 := (hg 75).trans (en rfl (en rfl s75))
                have s86 := (hg 86).trans (en rfl (en rfl s86))
                have s100 := (hg 100).trans (en rfl (en rfl s100))
                have s109 := (hg 109).trans (en rfl (en rfl s109))
                have s111 := (hg 111).trans es
                clear hg
                refine yc_cond s111 (fun hc => by cases hc) (fun _ => ?_)
                refine yc_skip ?_
                have h := (h.f1).drop
                have h := h.f4
                have h := h.f4
                have h := h.f4
                have h := h.f3
                have h := h.f4
                exact ⟨⟨pl, fr, by omega, hcnt, rfl, h⟩, ⟨(s0).trans zG15_0.symm, (s2).trans zG15_2.symm, (s3).trans zG15_3.symm, (s4).trans zG15_4.symm, (s6).trans zG15_6.symm, (s7).trans zG15_7.symm, (s22).trans zG15_22.symm, (s28).trans zG15_28.symm, (s29).trans zG15_29.symm, (s30).trans zG15_30.symm, (s31).trans zG15_31.symm⟩⟩
              ·
                skip
                refine yc_seq (fun K hK31 => ?_)
                refine yc_seq (fun K hK32 => ?_)
                obtain ⟨n, v, hn, hpv⟩ := isT_some hT
                have hnl := (List.getElem?_eq_some_iff.1 hpv).1
                have hcn := cnt_set_some (v := o.2.2) hpv
                refine yc_region ?_
                refine x_val (r_move s3) (nd_of rfl) rfl ?_
                refine x_val (r_fieldAddr (o' := 1) Try.underlying40 rfl Try.sizeOf3 rfl (en rfl s6) rfl) (nd_of rfl) rfl ?_
                refine x_val (r_load h 0 rfl Try.isAgg3 es gc1) (nd_of rfl) rfl ?_
                refine x_val (r_fieldAddr (o' := 2) Try.underlying40 rfl Try.sizeOf2 rfl (en rfl (en rfl (en rfl s6))) rfl) (nd_of rfl) rfl ?_
                refine x_val (r_load h 0 rfl Try.isAgg2 es gc2) (nd_of rfl) rfl ?_
                have h := h.f2
                refine x_enter (r_call Try.call24 (.cons (en rfl (en rfl (en rfl (en rfl es)))) (.cons (en rfl (en rfl es)) (.cons es .nil)))) (nd_of rfl) rfl (put_i hn hpv h) ?_
                rintro _ w ⟨rfl, h⟩
                refine x_val (r_move (en rfl (en rfl (en rfl (en rfl (en rfl (en rfl s7))))))) (nd_of rfl) rfl ?_
                refine x_val (r_neq (en rfl es) es (decide_eq_false (by simp [hT]))) (nd_of rfl) rfl ?_
                refine xw_nil ?_
                refine hK32 _ _ _ ?_
                refine yc_gen (fun g hg => ?_)
                have s0 := (hg 0).trans (en rfl (en rfl (en rfl (en rfl (en rfl (en rfl (en rfl (en rfl s0))))))))
                have s2 := (hg 2).trans (en rfl (en rfl (en rfl (en rfl (en rfl (en rfl (en rfl (en rfl s2))))))))
                have s3 := (hg 3).trans (en rfl (en rfl (en rfl (en rfl (en rfl (en rfl (en rfl (en rfl s3))))))))
                have s4 := (hg 4).trans (en rfl (en rfl (en rfl (en rfl (en rfl (en rfl (en rfl (en rfl s4))))))))
                have s6 := (hg 6).trans (en rfl (en rfl (en rfl (en rfl (en rfl (en rfl (en rfl (en rfl s6))))))))
                have s7 := (hg 7).trans (en rfl (en rfl (en rfl (en rfl (en rfl (en rfl (en rfl (en rfl s7))))))))
                have s22 := (hg 22).trans (en rfl (en rfl (en rfl (en rfl (en rfl (en rfl (en rfl (en rfl s22))))))))
                have s28 := (hg 28).trans (en rfl (en rfl (en rfl (en rfl (en rfl (en rfl (en rfl (en rfl s28))))))))
                have s29 := (hg 29).trans (en rfl (en rfl (en rfl (en rfl (en rfl (en rfl (en rfl (en rfl s29))))))))
                have s30 := (hg 30).trans (en rfl (en rfl (en rfl (en rfl (en rfl (en rfl (en rfl (en rfl s30))))))))
                have s31 := (hg 31).trans (en rfl (en rfl (en rfl (en rfl (en rfl (en rfl (en rfl (en rfl s31))))))))
                have s40 := (hg 40).trans (en rfl (en rfl (en rfl (en rfl (en rfl (en rfl (en rfl (en rfl s40))))))))
                have s75 := (hg 75).trans (en rfl (en rfl (en rfl (en rfl (en rfl (en rfl (en rfl (en rfl s75))))))))
                have s86 := (hg 86).trans (en rfl (en rfl (en rfl (en rfl (en rfl (en rfl (en rfl (en rfl s86))))))))
                have s100 := (hg 100).trans (en rfl (en rfl (en rfl (en rfl (en rfl (en rfl (en rfl (en rfl s100))))))))
                have s109 := (hg 109).trans es
                clear hg
                refine yc_cond s109 (fun hc => by cases hc) (fun _ => ?_)
                refine yc_skip ?_
                refine hK31 _ _ _ ?_
                refine yc_seq (fun K hK33 => ?_)
                refine yc_region ?_
                refine x_val (r_move s7) (nd_of rfl) rfl ?_
                refine x_val (r_eql es ec (decide_eq_true (by simp [hT]))) (nd_of rfl) rfl ?_
                refine xw_nil ?_
                refine hK33 _ _ _ ?_
                refine yc_gen (fun g hg => ?_)
                have s0 := (hg 0).trans (en rfl (en rfl s0))
                have s2 := (hg 2).trans (en rfl (en rfl s2))
                have s3 := (hg 3).trans (en rfl (en rfl s3))
                have s4 := (hg 4).trans (en rfl (en rfl s4))
                have s6 := (hg 6).trans (en rfl (en rfl s6))
                have s7 := (hg 7).trans (en rfl (en rfl s7))
                have s22 := (hg 22).trans (en rfl (en rfl s22))
                have s28 := (hg 28).trans (en rfl (en rfl s28))
                have s29 := (hg 29).trans (en rfl (en rfl s29))
                have s30 := (hg 30).trans (en rfl (en rfl s30))
                have s31 := (hg 31).trans (en rfl (en rfl s31))
                have s40 := (hg 40).trans (en rfl (en rfl s40))
                have s75 := (hg 75).trans (en rfl (en rfl s75))
                have s86 := (hg 86).trans (en rfl (en rfl s86))
                have s100 := (hg 100).trans (en rfl (en rfl s100))
                have s109 := (hg 109).trans (en rfl (en rfl s109))
                have s111 := (hg 111).trans es
                clear hg
                refine yc_cond s111 (fun _ => ?_) (fun hc => by cases hc)
                obtain ⟨xs, ts, fs, h⟩ := (h.f3).openRef
                obtain ⟨gx, cx, curx, hrx, h'⟩ := (h.f1).openRow (by omega)
                clear h
                obtain rfl := hrx.val
                have h := h'
                have hx1 := hrx.size
                have hx2 := hrx.le
                have hS := h
                have hS := (hS.f0).drop
                have hS := (hS.f1).drop
                have hS := (hS.f1).drop
                have hS := (hS.f1).drop
                have hS := (hS.f2).drop
                have hS := (hS.f3).drop
                refine yc_of_xc (xc_plan 9 [(0, 1), (1, 2), (2, 2), (3, 1), (4, 2), (5, 1), (6, 2), (7, 1), (8, 2), (9, 0)] (by kernel_rfl) rfl (by kernel_rfl) hS ?_)
                have h := h.drew
                refine xp_load (i := 0) rfl (fun W hW => r_load hW 2 rfl Try.isAgg47 s4 gc0) rfl (fun _ _ _ hh => by first | exact bodyR_np hh | exact bodyY_np hh | exact hh) ?_
                refine xp_read (i := 1) rfl (fun W => r_nilCheck es) rfl (fun _ _ _ hh => by first | exact bodyR_np hh | exact bodyY_np hh | exact hh) ?_
                refine xp_read (i := 2) rfl (fun W => r_fieldAddr (o' := 0) Try.underlying51 rfl Try.sizeOf48 rfl es rfl) rfl (fun _ _ _ hh => by first | exact bodyR_np hh | exact bodyY_np hh | exact hh) ?_
                refine xp_load (i := 3) rfl (fun W hW => r_load hW 0 rfl Try.isAgg48 es gc0) rfl (fun _ _ _ hh => by first | exact bodyR_np hh | exact bodyY_np hh | exact hh) ?_
                refine xp_read (i := 4) rfl (fun W => r_fieldAddr (o' := 1) Try.underlying40 rfl Try.sizeOf3 rfl (en rfl (en rfl (en rfl (en rfl s6)))) rfl) rfl (fun _ _ _ hh => by first | exact bodyR_np hh | exact bodyY_np hh | exact hh) ?_
                refine xp_load (i := 5) rfl (fun W hW => r_load hW 1 rfl Try.isAgg3 es gc1) rfl (fun _ _ _ hh => by first | exact bodyR_np hh | exact bodyY_np hh | exact hh) ?_
                refine xp_read (i := 6) rfl (fun W => r_fieldAddr (o' := 2) Try.underlying40 rfl Try.sizeOf2 rfl (en rfl (en rfl (en rfl (en rfl (en rfl (en rfl s6)))))) rfl) rfl (fun _ _ _ hh => by first | exact bodyR_np hh | exact bodyY_np hh | exact hh) ?_
                refine xp_load (i := 7) rfl (fun W hW => r_load hW 1 rfl Try.isAgg2 es gc2) rfl (fun _ _ _ hh => by first | exact bodyR_np hh | exact bodyY_np hh | exact hh) ?_
                refine xp_read (i := 8) rfl (fun W => r_indexAddr0 Try.underlying48 Try.sizeOf2 (en rfl (en rfl (en rfl (en rfl es)))) (en rfl (en rfl es)) (by omega) (by omega)) rfl (fun _ _ _ hh => by first | exact bodyR_np hh | exact bodyY_np hh | exact hh) ?_
                refine xp_st (i := 9) rfl (r_store h 0 rfl Try.sizeOf2 es (en rfl es) rfl (Array.getElem?_eq_getElem (by rw [hn]; simp; omega))) (h.u0 rfl) (fun hh => absurd rfl hh) ?_
                intro w h
                refine xp_nil ?_
                simp only [hn, Int.toNat_natCast, Nat.mul_one] at h
                have h := (h.closeRow (hrx.set n (.int .i64 o.2.2)))
                exact ⟨⟨pl.set n (some o.2.2), fr, by rw [List.length_set]; omega, by rw [List.length_set, hcn]; simp; omega, rfl, (((SatL.closeRef (pl := pl.set n (some o.2.2)) (by rw [List.length_set, ← xsC_set, tkC_put hpv]; exact h.f1)).f2.drop).f1).f2⟩, ⟨((en rfl (en rfl (en rfl (en rfl (en rfl (en rfl (en rfl (en rfl (en rfl s0)))))))))).trans zG15_0.symm, ((en rfl (en rfl (en rfl (en rfl (en rfl (en rfl (en rfl (en rfl (en rfl s2)))))))))).trans zG15_2.symm, ((en rfl (en rfl (en rfl (en rfl (en rfl (en rfl (en rfl (en rfl (en rfl s3)))))))))).trans zG15_3.symm, ((en rfl (en rfl (en rfl (en rfl (en rfl (en rfl (en rfl (en rfl (en rfl s4)))))))))).trans zG15_4.symm, ((en rfl (en rfl (en rfl (en rfl (en rfl (en rfl (en rfl (en rfl (en rfl s6)))))))))).trans zG15_6.symm, ((en rfl (en rfl (en rfl (en rfl (en rfl (en rfl (en rfl (en rfl (en rfl s7)))))))))).trans zG15_7.symm, ((en rfl (en rfl (en rfl (en rfl (en rfl (en rfl (en rfl (en rfl (en rfl s22)))))))))).trans zG15_22.symm, ((en rfl (en rfl (en rfl (en rfl (en rfl (en rfl (en rfl (en rfl (en rfl s28)))))))))).trans zG15_28.symm, ((en rfl (en rfl (en rfl (en rfl (en rfl (en rfl (en rfl (en rfl (en rfl s29)))))))))).trans zG15_29.symm, ((en rfl (en rfl (en rfl (en rfl (en rfl (en rfl (en rfl (en rfl (en rfl s30)))))))))).trans zG15_30.symm, ((en rfl (en rfl (en rfl (en rfl (en rfl (en rfl (en rfl (en rfl (en rfl s31)))))))))).trans zG15_31.symm⟩⟩
            ·
              rcases hT : isT pl o.2.1 with _ | _
              ·
                skip
                refine yc_seq (fun K hK34 => ?_)
                refine yc_region ?_
                refine x_val (r_move s3) (nd_of rfl) rfl ?_
                refine x_val (r_fieldAddr (o' := 1) Try.underlying40 rfl Try.sizeOf3 rfl (en rfl s6) rfl) (nd_of rfl) rfl ?_
                refine x_val (r_load h 0 rfl Try.isAgg3 es gc1) (nd_of rfl) rfl ?_
                have h := h.f2
                refine x_enter (r_call Try.call25 (.cons (en rfl (en rfl es)) (.cons es .nil))) (nd_of rfl) rfl (at_none hT h) ?_
                rintro _ w ⟨rfl, h⟩
                refine x_val (r_move es) (nd_of rfl) rfl ?_
                refine x_val (r_extract es gc0) (nd_of rfl) rfl ?_
                refine x_val (r_extract (en rfl es) gc1) (nd_of rfl) rfl ?_
                refine x_val (r_assign (en rfl es)) (nd_of rfl) rfl ?_
                refine x_val (r_assign (en rfl es)) (nd_of rfl) rfl ?_
                refine xw_nil ?_
                refine hK34 _ _ _ ?_
                refine yc_gen (fun g hg => ?_)
                have s0 := (hg 0).trans (en rfl (en rfl (en rfl (en rfl (en rfl (en rfl (en rfl (en rfl (en rfl s0)))))))))
                have s2 := (hg 2).trans (en rfl (en rfl (en rfl (en rfl (en rfl (en rfl (en rfl (en rfl (en rfl s2)))))))))
                have s3 := (hg 3).trans (en rfl (en rfl (en rfl (en rfl (en rfl (en rfl (en rfl (en rfl (en rfl s3)))))))))
                have s4 := (hg 4).trans (en rfl (en rfl (en rfl (en rfl (en rfl (en rfl (en rfl (en rfl (en rfl s4)))))))))
                have s6 := (hg 6).trans (en rfl (en rfl (en rfl (en rfl (en rfl (en rfl (en rfl (en rfl (en rfl s6)))))))))
                have s7 := (hg 7).trans (en rfl (en rfl (en rfl (en rfl (en rfl (en rfl (en rfl (en rfl (en rfl s7)))))))))
                have s8 := (hg 8).trans (en rfl es)
                have s9 := (hg 9).trans es
                have s22 := (hg 22).trans (en rfl (en rfl (en rfl (en rfl (en rfl (en rfl (en rfl (en rfl (en rfl s22)))))))))
                have s28 := (hg 28).trans (en rfl (en rfl (en rfl (en rfl (en rfl (en rfl (en rfl (en rfl (en rfl s28)))))))))
                have s29 := (hg 29).trans (en rfl (en rfl (en rfl (en rfl (en rfl (en rfl (en rfl (en rfl (en rfl s29)))))))))
                have s30 := (hg 30).trans (en rfl (en rfl (en rfl (en rfl (en rfl (en rfl (en rfl (en rfl (en rfl s30)))))))))
                have s31 := (hg 31).trans (en rfl (en rfl (en rfl (en rfl (en rfl (en rfl (en rfl (en rfl (en rfl s31)))))))))
                have s40 := (hg 40).trans (en rfl (en rfl (en rfl (en rfl (en rfl (en rfl (en rfl (en rfl (en rfl s40)))))))))
                have s75 := (hg 75).trans (en rfl (en rfl (en rfl (en rfl (en rfl (en rfl (en rfl (en rfl (en rfl s75)))))))))
                have s86 := (hg 86).trans (en rfl (en rfl (en rfl (en rfl (en rfl (en rfl (en rfl (en rfl (en rfl s86)))))))))
                have s100 := (hg 100).trans (en rfl (en rfl (en rfl (en rfl (en rfl (en rfl (en rfl (en rfl (en rfl s100)))))))))
                clear hg
                refine yc_seq (fun K hK35 => ?_)
                refine yc_of_xc (xc_plan 27 [(0, 2), (1, 2), (2, 2), (3, 2), (4, 2), (5, 2), (6, 2), (7, 2), (8, 2), (9, 2), (10, 2), (11, 2), (12, 2), (13, 2), (14, 2), (15, 2), (16, 2), (17, 2), (18, 2), (19, 2), (20, 2), (21, 2), (22, 2), (23, 2), (24, 2), (25, 2), (26, 2)] (by kernel_rfl) rfl (by kernel_rfl) h ?_)
                have h := h.drew
                refine xp_read (i := 0) rfl (fun W => r_move s9) rfl (fun _ _ _ hh => by first | exact bodyR_np hh | exact bodyY_np hh | exact hh) ?_
                refine xp_read (i := 1) rfl (fun W => r_move (en rfl s7)) rfl (fun _ _ _ hh => by first | exact bodyR_np hh | exact bodyY_np hh | exact hh) ?_
                refine xp_read (i := 2) rfl (fun W => r_neq (en rfl es) es (decide_eq_false (by simp [hT]))) rfl (fun _ _ _ hh => by first | exact bodyR_np hh | exact bodyY_np hh | exact hh) ?_
                refine xp_read (i := 3) rfl (fun W => r_move es) rfl (fun _ _ _ hh => by first | exact bodyR_np hh | exact bodyY_np hh | exact hh) ?_
                refine xp_readG (i := 4) (d := 51) rfl rfl rfl es (fun W => r_move (en rfl (en rfl (en rfl (en rfl s7))))) rfl (fun _ _ _ hh => by first | exact bodyR_np hh | exact bodyY_np hh | exact hh) ?_
                refine xp_readG (i := 5) (d := 51) rfl rfl rfl (en rfl es) (fun W => r_eql es ec (decide_eq_false (by simp [hT]))) rfl (fun _ _ _ hh => by first | exact bodyR_np hh | exact bodyY_np hh | exact hh) ?_
                refine xp_readG (i := 6) (d := 51) rfl rfl rfl (en rfl (en rfl es)) (fun W => r_move es) rfl (fun _ _ _ hh => by first | exact bodyR_np hh | exact bodyY_np hh | exact hh) ?_
                refine xp_passG (i := 7) (d := 54) rfl rfl rfl (.inl es) rfl (fun _ _ _ hh => by first | exact bodyR_np hh | exact bodyY_np hh | exact hh) ?_
                refine xp_passG (i := 8) (d := 54) rfl rfl rfl (.inl (en rfl es)) rfl (fun _ _ _ hh => by first | exact bodyR_np hh | exact bodyY_np hh | exact hh) ?_
                refine xp_passG (i := 9) (d := 54) rfl rfl rfl (.inl (en rfl (en rfl es))) rfl (fun _ _ _ hh => by first | exact bodyR_np hh | exact bodyY_np hh | exact hh) ?_
                refine xp_passG (i := 10) (d := 54) rfl rfl rfl (.inl (en rfl (en rfl (en rfl es)))) rfl (fun _ _ _ hh => by first | exact bodyR_np hh | exact bodyY_np hh | exact hh) ?_
                refine xp_passG (i := 11) (d := 54) rfl rfl rfl (.inl (en rfl (en rfl (en rfl (en rfl es))))) rfl (fun _ _ _ hh => by first | exact bodyR_np hh | exact bodyY_np hh | exact hh) ?_
                refine xp_passG (i := 12) (d := 54) rfl rfl rfl (.inl (en rfl (en rfl (en rfl (en rfl (en rfl es)))))) rfl (fun _ _ _ hh => by first | exact bodyR_np hh | exact bodyY_np hh | exact hh) ?_
                refine xp_passG (i := 13) (d := 54) rfl rfl rfl (.inl (en rfl (en rfl (en rfl (en rfl (en rfl (en rfl es))))))) rfl (fun _ _ _ hh => by first | exact bodyR_np hh | exact bodyY_np hh | exact hh) ?_
                refine xp_passG (i := 14) (d := 54) rfl rfl rfl (.inl (en rfl (en rfl (en rfl (en rfl (en rfl (en rfl (en rfl es)))))))) rfl (fun _ _ _ hh => by first | exact bodyR_np hh | exact bodyY_np hh | exact hh) ?_
                refine xp_passG (i := 15) (d := 54) rfl rfl rfl (.inl (en rfl (en rfl (en rfl (en rfl (en rfl (en rfl (en rfl (en rfl es))))))))) rfl (fun _ _ _ hh => by first | exact bodyR_np hh | exact bodyY_np hh | exact hh) ?_
                refine xp_passG (i := 16) (d := 54) rfl rfl rfl (.inl (en rfl (en rfl (en rfl (en rfl (en rfl (en rfl (en rfl (en rfl (en rfl es)))))))))) rfl (fun _ _ _ hh => by first | exact bodyR_np hh | exact bodyY_np hh | exact hh) ?_
                refine xp_readG (i := 17) (d := 51) rfl rfl rfl (en rfl (en rfl (en rfl (en rfl (en rfl (en rfl (en rfl (en rfl (en rfl (en rfl (en rfl (en rfl (en rfl es))))))))))))) (fun W => r_pick_f (en rfl (en rfl (en rfl (en rfl (en rfl (en rfl (en rfl (en rfl (en rfl (en rfl es)))))))))) ec) rfl (fun _ _ _ hh => by first | exact bodyR_np hh | exact bodyY_np hh | exact hh) ?_
                refine xp_read (i := 18) rfl (fun W => r_pick_f (en rfl (en rfl (en rfl (en rfl (en rfl (en rfl (en rfl (en rfl (en rfl (en rfl (en rfl (en rfl (en rfl (en rfl es)))))))))))))) es) rfl (fun _ _ _ hh => by first | exact bodyR_np hh | exact bodyY_np hh | exact hh) ?_
                refine xp_read (i := 19) rfl (fun W => r_move es) rfl (fun _ _ _ hh => by first | exact bodyR_np hh | exact bodyY_np hh | exact hh) ?_
                refine xp_readG (i := 20) (d := 67) rfl rfl rfl es (fun W => r_move (en rfl (en rfl (en rfl (en rfl (en rfl (en rfl (en rfl (en rfl (en rfl (en rfl (en rfl (en rfl (en rfl (en rfl (en rfl (en rfl (en rfl (en rfl (en rfl (en rfl s7))))))))))))))))))))) rfl (fun _ _ _ hh => by first | exact bodyR_np hh | exact bodyY_np hh | exact hh) ?_
                refine xp_readG (i := 21) (d := 67) rfl rfl rfl (en rfl es) (fun W => r_neq es ec (decide_eq_true (by simp [hT]))) rfl (fun _ _ _ hh => by first | exact bodyR_np hh | exact bodyY_np hh | exact hh) ?_
                have h := (h.f1).drop
                have h := h.f4
                have h := h.f4
                have h := h.f4
                have h := h.f3
                have h := h.f4
                refine xp_readG (i := 22) (d := 67) rfl rfl rfl (en rfl (en rfl es)) (fun W => r_move es) rfl (fun _ _ _ hh => by first | exact bodyR_np hh | exact bodyY_np hh | exact hh) ?_
                refine xp_readG (i := 23) (d := 70) rfl rfl rfl es (fun W => r_move (en rfl (en rfl (en rfl (en rfl (en rfl (en rfl (en rfl (en rfl (en rfl (en rfl (en rfl (en rfl (en rfl (en rfl (en rfl (en rfl (en rfl (en rfl (en rfl (en rfl (en rfl (en rfl (en rfl s8)))))))))))))))))))))))) rfl (fun _ _ _ hh => by first | exact bodyR_np hh | exact bodyY_np hh | exact hh) ?_
                refine xp_readG (i := 24) (d := 70) rfl rfl rfl (en rfl es) (fun W => r_neq es ec (r := false) rfl) rfl (fun _ _ _ hh => by first | exact bodyR_np hh | exact bodyY_np hh | exact hh) ?_
                refine xp_readG (i := 25) (d := 67) rfl rfl rfl (en rfl (en rfl (en rfl (en rfl (en rfl es))))) (fun W => r_pick_t (en rfl (en rfl es)) es) rfl (fun _ _ _ hh => by first | exact bodyR_np hh | exact bodyY_np hh | exact hh) ?_
                refine xp_read (i := 26) rfl (fun W => r_pick_f (en rfl (en rfl (en rfl (en rfl (en rfl (en rfl es)))))) es) rfl (fun _ _ _ hh => by first | exact bodyR_np hh | exact bodyY_np hh | exact hh) ?_
                refine xp_nil ?_
                refine hK35 _ _ _ ?_
                refine yc_gen (fun g hg => ?_)
                have s0 := (hg 0).trans (en rfl (en rfl (en rfl (en rfl (en rfl (en rfl (en rfl (en rfl (en rfl (en rfl (en rfl (en rfl (en rfl (en rfl (en rfl (en rfl (en rfl (en rfl (en rfl (en rfl (en rfl (en rfl (en rfl (en rfl (en rfl (en rfl (en rfl s0)))))))))))))))))))))))))))
                have s2 := (hg 2).trans (en rfl (en rfl (en rfl (en rfl (en rfl (en rfl (en rfl (en rfl (en rfl (en rfl (en rfl (en rfl (en rfl (en rfl (en rfl (en rfl (en rfl (en rfl (en rfl (en rfl (en rfl (en rfl (en rfl (en rfl (en rfl (en rfl (en rfl s2)))))))))))))))))))))))))))
                have s3 := (hg 3).trans (en rfl (en rfl (en rfl (en rfl (en rfl (en rfl (en rfl (en rfl (en rfl (en rfl (en rfl (en rfl (en rfl (en rfl (en rfl (en rfl (en rfl (en rfl (en rfl (en rfl (en rfl (en rfl (en rfl (en rfl (en rfl (en rfl (en rfl s3)))))))))))))))))))))))))))
                have s4 := (hg 4).trans (en rfl (en rfl (en rfl (en rfl (en rfl (en rfl (en rfl (en rfl (en rfl (en rfl (en rfl (en rfl (en rfl (en rfl (en rfl (en rfl (en rfl (en rfl (en rfl (en rfl (en rfl (en rfl (en rfl (en rfl (en rfl (en rfl (en rfl s4)))))))))))))))))))))))))))
                have s6 := (hg 6).trans (en rfl (en rfl (en rfl (en rfl (en rfl (en rfl (en rfl (en rfl (en rfl (en rfl (en rfl (en rfl (en rfl (en rfl (en rfl (en rfl (en rfl (en rfl (en rfl (en rfl (en rfl (en rfl (en rfl (en rfl (en rfl (en rfl (en rfl s6)))))))))))))))))))))))))))
                have s7 := (hg 7).trans (en rfl (en rfl (en rfl (en rfl (en rfl (en rfl (en rfl (en rfl (en rfl (en rfl (en rfl (en rfl (en rfl (en rfl (en rfl (en rfl (en rfl (en rfl (en rfl (en rfl (en rfl (en rfl (en rfl (en rfl (en rfl (en rfl (en rfl s7)))))))))))))))))))))))))))
                have s8 := (hg 8).trans (en rfl (en rfl (en rfl (en rfl (en rfl (en rfl (en rfl (en rfl (en rfl (en rfl (en rfl (en rfl (en rfl (en rfl (en rfl (en rfl (en rfl (en rfl (en rfl (en rfl (en rfl (en rfl (en rfl (en rfl (en rfl (en rfl (en rfl s8)))))))))))))))))))))))))))
                have s9 := (hg 9).trans (en rfl (en rfl (en rfl (en rfl (en rfl (en rfl (en rfl (en rfl (en rfl (en rfl (en rfl (en rfl (en rfl (en rfl (en rfl (en rfl (en rfl (en rfl (en rfl (en rfl (en rfl (en rfl (en rfl (en rfl (en rfl (en rfl (en rfl s9)))))))))))))))))))))))))))
                have s22 := (hg 22).trans (en rfl (en rfl (en rfl (en rfl (en rfl (en rfl (en rfl (en rfl (en rfl (en rfl (en rfl (en rfl (en rfl (en rfl (en rfl (en rfl (en rfl (en rfl (en rfl (en rfl (en rfl (en rfl (en rfl (en rfl (en rfl (en rfl (en rfl s22)))))))))))))))))))))))))))
                have s28 := (hg 28).trans (en rfl (en rfl (en rfl (en rfl (en rfl (en rfl (en rfl (en rfl (en rfl (en rfl (en rfl (en rfl (en rfl (en rfl (en rfl (en rfl (en rfl (en rfl (en rfl (en rfl (en rfl (en rfl (en rfl (en rfl (en rfl (en rfl (en rfl s28)))))))))))))))))))))))))))
                have s29 := (hg 29).trans (en rfl (en rfl (en rfl (en rfl (en rfl (en rfl (en rfl (en rfl (en rfl (en rfl (en rfl (en rfl (en rfl (en rfl (en rfl (en rfl (en rfl (en rfl (en rfl (en rfl (en rfl (en rfl (en rfl (en rfl (en rfl (en rfl (en rfl s29)))))))))))))))))))))))))))
                have s30 := (hg 30).trans (en rfl (en rfl (en rfl (en rfl (en rfl (en rfl (en rfl (en rfl (en rfl (en rfl (en rfl (en rfl (en rfl (en rfl (en rfl (en rfl (en rfl (en rfl (en rfl (en rfl (en rfl (en rfl (en rfl (en rfl (en rfl (en rfl (en rfl s30)))))))))))))))))))))))))))
                have s31 := (hg 31).trans (en rfl (en rfl (en rfl (en rfl (en rfl (en rfl (en rfl (en rfl (en rfl (en rfl (en rfl (en rfl (en rfl (en rfl (en rfl (en rfl (en rfl (en rfl (en rfl (en rfl (en rfl (en rfl (en rfl (en rfl (en rfl (en rfl (en rfl s31)))))))))))))))))))))))))))
                have s40 := (hg 40).trans (en rfl (en rfl (en rfl (en rfl (en rfl (en rfl (en rfl (en rfl (en rfl (en rfl (en rfl (en rfl (en rfl (en rfl (en rfl (en rfl (en rfl (en rfl (en rfl (en rfl (en rfl (en rfl (en rfl (en rfl (en rfl (en rfl (en rfl s40)))))))))))))))))))))))))))
                have s74 := (hg 74).trans es
                have s75 := (hg 75).trans (en rfl (en rfl (en rfl (en rfl (en rfl (en rfl (en rfl (en rfl (en rfl (en rfl (en rfl (en rfl (en rfl (en rfl (en rfl (en rfl (en rfl (en rfl (en rfl (en rfl (en rfl (en rfl (en rfl (en rfl (en rfl (en rfl (en rfl s75)))))))))))))))))))))))))))
                have s86 := (hg 86).trans (en rfl (en rfl (en rfl (en rfl (en rfl (en rfl (en rfl (en rfl (en rfl (en rfl (en rfl (en rfl (en rfl (en rfl (en rfl (en rfl (en rfl (en rfl (en rfl (en rfl (en rfl (en rfl (en rfl (en rfl (en rfl (en rfl (en rfl s86)))))))))))))))))))))))))))
                have s100 := (hg 100).trans (en rfl (en rfl (en rfl (en rfl (en rfl (en rfl (en rfl (en rfl (en rfl (en rfl (en rfl (en rfl (en rfl (en rfl (en rfl (en rfl (en rfl (en rfl (en rfl (en rfl (en rfl (en rfl (en rfl (en rfl (en rfl (en rfl (en rfl s100)))))))))))))))))))))))))))
                clear hg
                refine yc_cond s74 (fun hc => by cases hc) (fun _ => ?_)
                refine yc_skip ?_
                exact ⟨⟨pl, fr, by omega, hcnt, rfl, h⟩, ⟨(s0).trans zG15_0.symm, (s2).trans zG15_2.symm, (s3).trans zG15_3.symm, (s4).trans zG15_4.symm, (s6).trans zG15_6.symm, (s7).trans zG15_7.symm, (s22).trans zG15_22.symm, (s28).trans zG15_28.symm, (s29).trans zG15_29.symm, (s30).trans zG15_30.symm, (s31).trans zG15_31.symm⟩⟩
              ·
                skip
                refine yc_seq (fun K hK36 => ?_)
                obtain ⟨n, v, hn, hpv⟩ := isT_some hT
                have hnl := (List.getElem?_eq_some_iff.1 hpv).1
                refine yc_region ?_
                refine x_val (r_move s3) (nd_of rfl) rfl ?_
                refine x_val (r_fieldAddr (o' := 1) Try.underlying40 rfl Try.sizeOf3 rfl (en rfl s6) rfl) (nd_of rfl) rfl ?_
                refine x_val (r_load h 0 rfl Try.isAgg3 es gc1) (nd_of rfl) rfl ?_
                have h := h.f2
                refine x_enter (r_call Try.call25 (.cons (en rfl (en rfl es)) (.cons es .nil))) (nd_of rfl) rfl (at_i hn hpv h) ?_
                rintro _ w ⟨rfl, h⟩
                refine x_val (r_move es) (nd_of rfl) rfl ?_
                refine x_val (r_extract es gc0) (nd_of rfl) rfl ?_
                refine x_val (r_extract (en rfl es) gc1) (nd_of rfl) rfl ?_
                refine x_val (r_assign (en rfl es)) (nd_of rfl) rfl ?_
                refine x_val (r_assign (en rfl es)) (nd_of rfl) rfl ?_
                refine xw_nil ?_
                refine hK36 _ _ _ ?_
                refine yc_gen (fun g hg => ?_)
                have s0 := (hg 0).trans (en rfl (en rfl (en rfl (en rfl (en rfl (en rfl (en rfl (en rfl (en rfl s0)))))))))
                have s2 := (hg 2).trans (en rfl (en rfl (en rfl (en rfl (en rfl (en rfl (en rfl (en rfl (en rfl s2)))))))))
                have s3 := (hg 3).trans (en rfl (en rfl (en rfl (en rfl (en rfl (en rfl (en rfl (en rfl (en rfl s3)))))))))
                have s4 := (hg 4).trans (en rfl (en rfl (en rfl (en rfl (en rfl (en rfl (en rfl (en rfl (en rfl s4)))))))))
                have s6 := (hg 6).trans (en rfl (en rfl (en rfl (en rfl (en rfl (en rfl (en rfl (en rfl (en rfl s6)))))))))
                have s7 := (hg 7).trans (en rfl (en rfl (en rfl (en rfl (en rfl (en rfl (en rfl (en rfl (en rfl s7)))))))))
                have s8 := (hg 8).trans (en rfl es)
                have s9 := (hg 9).trans es
                have s22 := (hg 22).trans (en rfl (en rfl (en rfl (en rfl (en rfl (en rfl (en rfl (en rfl (en rfl s22)))))))))
                have s28 := (hg 28).trans (en rfl (en rfl (en rfl (en rfl (en rfl (en rfl (en rfl (en rfl (en rfl s28)))))))))
                have s29 := (hg 29).trans (en rfl (en rfl (en rfl (en rfl (en rfl (en rfl (en rfl (en rfl (en rfl s29)))))))))
                have s30 := (hg 30).trans (en rfl (en rfl (en rfl (en rfl (en rfl (en rfl (en rfl (en rfl (en rfl s30)))))))))
                have s31 := (hg 31).trans (en rfl (en rfl (en rfl (en rfl (en rfl (en rfl (en rfl (en rfl (en rfl s31)))))))))
                have s40 := (hg 40).trans (en rfl (en rfl (en rfl (en rfl (en rfl (en rfl (en rfl (en rfl (en rfl s40)))))))))
                have s75 := (hg 75).trans (en rfl (en rfl (en rfl (en rfl (en rfl (en rfl (en rfl (en rfl (en rfl s75)))))))))
                have s86 := (hg 86).trans (en rfl (en rfl (en rfl (en rfl (en rfl (en rfl (en rfl (en rfl (en rfl s86)))))))))
                have s100 := (hg 100).trans (en rfl (en rfl (en rfl (en rfl (en rfl (en rfl (en rfl (en rfl (en rfl s100)))))))))
                clear hg
                refine yc_seq (fun K hK37 => ?_)
                obtain ⟨xs, ts, fs, h⟩ := (h.f3).openRef
                obtain ⟨gx, cx, curx, hrx, h'⟩ := (h.f1).openRow (by omega)
                clear h
                obtain rfl := hrx.val
                have h := h'
                refine yc_of_xc (xc_plan 27 [(0, 2), (1, 2), (2, 2), (3, 2), (4, 2), (5, 2), (6, 2), (7, 2), (8, 1), (9, 2), (10, 2), (11, 1), (12, 2), (13, 1), (14, 2), (15, 1), (16, 2), (17, 2), (18, 2), (19, 2), (20, 2), (21, 2), (22, 2), (23, 2), (24, 2), (25, 2), (26, 2)] (by kernel_rfl) rfl (by kernel_rfl) h ?_)
                have h := h.drew
                refine xp_read (i := 0) rfl (fun W => r_move s9) rfl (fun _ _ _ hh => by first | exact bodyR_np hh | exact bodyY_np hh | exact hh) ?_
                refine xp_read (i := 1) rfl (fun W => r_move (en rfl s7)) rfl (fun _ _ _ hh => by first | exact bodyR_np hh | exact bodyY_np hh | exact hh) ?_
                refine xp_read (i := 2) rfl (fun W => r_neq (en rfl es) es (decide_eq_false (by simp [hT]))) rfl (fun _ _ _ hh => by first | exact bodyR_np hh | exact bodyY_np hh | exact hh) ?_
                refine xp_read (i := 3) rfl (fun W => r_move es) rfl (fun _ _ _ hh => by first | exact bodyR_np hh | exact bodyY_np hh | exact hh) ?_
                refine xp_readG (i := 4) (d := 51) rfl rfl rfl es (fun W => r_move (en rfl (en rfl (en rfl (en rfl s7))))) rfl (fun _ _ _ hh => by first | exact bodyR_np hh | exact bodyY_np hh | exact hh) ?_
                refine xp_readG (i := 5) (d := 51) rfl rfl rfl (en rfl es) (fun W => r_eql es ec (decide_eq_true (by simp [hT]))) rfl (fun _ _ _ hh => by first | exact bodyR_np hh | exact bodyY_np hh | exact hh) ?_
                refine xp_readG (i := 6) (d := 51) rfl rfl rfl (en rfl (en rfl es)) (fun W => r_move es) rfl (fun _ _ _ hh => by first | exact bodyR_np hh | exact bodyY_np hh | exact hh) ?_
                refine xp_readG (i := 7) (d := 54) rfl rfl rfl es (fun W => r_move (en rfl (en rfl (en rfl (en rfl (en rfl (en rfl (en rfl s8)))))))) rfl (fun _ _ _ hh => by first | exact bodyR_np hh | exact bodyY_np hh | exact hh) ?_
                refine xp_loadG (i := 8) (d := 54) rfl rfl rfl (en rfl es) (fun W hW => r_load hW 7 rfl Try.isAgg47 (en rfl (en rfl (en rfl (en rfl (en rfl (en rfl (en rfl (en rfl s4)))))))) gc0) rfl (fun _ _ _ hh => by first | exact bodyR_np hh | exact bodyY_np hh | exact hh) ?_
                refine xp_readG (i := 9) (d := 54) rfl rfl rfl (en rfl (en rfl es)) (fun W => r_nilCheck es) rfl (fun _ _ _ hh => by first | exact bodyR_np hh | exact bodyY_np hh | exact hh) ?_
                refine xp_readG (i := 10) (d := 54) rfl rfl rfl (en rfl (en rfl (en rfl es))) (fun W => r_fieldAddr (o' := 0) Try.underlying51 rfl Try.sizeOf48 rfl es rfl) rfl (fun _ _ _ hh => by first | exact bodyR_np hh | exact bodyY_np hh | exact hh) ?_
                refine xp_loadG (i := 11) (d := 54) rfl rfl rfl (en rfl (en rfl (en rfl (en rfl es)))) (fun W hW => r_load hW 1 rfl Try.isAgg48 es gc0) rfl (fun _ _ _ hh => by first | exact bodyR_np hh | exact bodyY_np hh | exact hh) ?_
                refine xp_readG (i := 12) (d := 54) rfl rfl rfl (en rfl (en rfl (en rfl (en rfl (en rfl es))))) (fun W => r_fieldAddr (o' := 1) Try.underlying40 rfl Try.sizeOf3 rfl (en rfl (en rfl (en rfl (en rfl (en rfl (en rfl (en rfl (en rfl (en rfl (en rfl (en rfl (en rfl s6)))))))))))) rfl) rfl (fun _ _ _ hh => by first | exact bodyR_np hh | exact bodyY_np hh | exact hh) ?_
                refine xp_loadG (i := 13) (d := 54) rfl rfl rfl (en rfl (en rfl (en rfl (en rfl (en rfl (en rfl es)))))) (fun W hW => r_load hW 5 rfl Try.isAgg3 es gc1) rfl (fun _ _ _ hh => by first | exact bodyR_np hh | exact bodyY_np hh | exact hh) ?_
                refine xp_readG (i := 14) (d := 54) rfl rfl rfl (en rfl (en rfl (en rfl (en rfl (en rfl (en rfl (en rfl es))))))) (fun W => r_indexAddr0 Try.underlying48 Try.sizeOf2 (en rfl (en rfl es)) es (by omega) (by omega)) rfl (fun _ _ _ hh => by first | exact bodyR_np hh | exact bodyY_np hh | exact hh) ?_
                refine xp_loadG (i := 15) (d := 54) rfl rfl rfl (en rfl (en rfl (en rfl (en rfl (en rfl (en rfl (en rfl (en rfl es)))))))) (fun W hW => r_load hW 0 rfl Try.isAgg2 es (by rw [hn, Int.toNat_natCast, Nat.mul_one]; exact hrx.get (xsC_get hpv))) rfl (fun _ _ _ hh => by first | exact bodyR_np hh | exact bodyY_np hh | exact hh) ?_
                refine xp_readG (i := 16) (d := 54) rfl rfl rfl (en rfl (en rfl (en rfl (en rfl (en rfl (en rfl (en rfl (en rfl (en rfl es))))))))) (fun W => r_neq (en rfl (en rfl (en rfl (en rfl (en rfl (en rfl (en rfl (en rfl es)))))))) es (decide_eq_false (by simp))) rfl (fun _ _ _ hh => by first | exact bodyR_np hh | exact bodyY_np hh | exact hh) ?_
                refine xp_readG (i := 17) (d := 51) rfl rfl rfl (en rfl (en rfl (en rfl (en rfl (en rfl (en rfl (en rfl (en rfl (en rfl (en rfl (en rfl (en rfl (en rfl es))))))))))))) (fun W => r_pick_t (en rfl (en rfl (en rfl (en rfl (en rfl (en rfl (en rfl (en rfl (en rfl (en rfl es)))))))))) es) rfl (fun _ _ _ hh => by first | exact bodyR_np hh | exact bodyY_np hh | exact hh) ?_
                refine xp_read (i := 18) rfl (fun W => r_pick_f (en rfl (en rfl (en rfl (en rfl (en rfl (en rfl (en rfl (en rfl (en rfl (en rfl (en rfl (en rfl (en rfl (en rfl es)))))))))))))) es) rfl (fun _ _ _ hh => by first | exact bodyR_np hh | exact bodyY_np hh | exact hh) ?_
                refine xp_read (i := 19) rfl (fun W => r_move es) rfl (fun _ _ _ hh => by first | exact bodyR_np hh | exact bodyY_np hh | exact hh) ?_
                refine xp_readG (i := 20) (d := 67) rfl rfl rfl es (fun W => r_move (en rfl (en rfl (en rfl (en rfl (en rfl (en rfl (en rfl (en rfl (en rfl (en rfl (en rfl (en rfl (en rfl (en rfl (en rfl (en rfl (en rfl (en rfl (en rfl (en rfl s7))))))))))))))))))))) rfl (fun _ _ _ hh => by first | exact bodyR_np hh | exact bodyY_np hh | exact hh) ?_
                refine xp_readG (i := 21) (d := 67) rfl rfl rfl (en rfl es) (fun W => r_neq es ec (decide_eq_false (by simp [hT]))) rfl (fun _ _ _ hh => by first | exact bodyR_np hh | exact bodyY_np hh | exact hh) ?_
                refine xp_readG (i := 22) (d := 67) rfl rfl rfl (en rfl (en rfl es)) (fun W => r_move es) rfl (fun _ _ _ hh => by first | exact bodyR_np hh | exact bodyY_np hh | exact hh) ?_
                refine xp_passG (i := 23) (d := 70) rfl rfl rfl (.inl es) rfl (fun _ _ _ hh => by first | exact bodyR_np hh | exact bodyY_np hh | exact hh) ?_
                refine xp_passG (i := 24) (d := 70) rfl rfl rfl (.inl (en rfl es)) rfl (fun _ _ _ hh => by first | exact bodyR_np hh | exact bodyY_np hh | exact hh) ?_
                refine xp_readG (i := 25) (d := 67) rfl rfl rfl (en rfl (en rfl (en rfl (en rfl (en rfl es))))) (fun W => r_pick_f (en rfl (en rfl es)) ec) rfl (fun _ _ _ hh => by first | exact bodyR_np hh | exact bodyY_np hh | exact hh) ?_
                refine xp_read (i := 26) rfl (fun W => r_pick_f (en rfl (en rfl (en rfl (en rfl (en rfl (en rfl es)))))) es) rfl (fun _ _ _ hh => by first | exact bodyR_np hh | exact bodyY_np hh | exact hh) ?_
                refine xp_nil ?_
                refine hK37 _ _ _ ?_
                refine yc_gen (fun g hg => ?_)
                have s0 := (hg 0).trans (en rfl (en rfl (en rfl (en rfl (en rfl (en rfl (en rfl (en rfl (en rfl (en rfl (en rfl (en rfl (en rfl (en rfl (en rfl (en rfl (en rfl (en rfl (en rfl (en rfl (en rfl (en rfl (en rfl (en rfl (en rfl (en rfl (en rfl s0)))))))))))))))))))))))))))
                have s2 := (hg 2).trans (en rfl (en rfl (en rfl (en rfl (en rfl (en rfl (en rfl (en rfl (en rfl (en rfl (en rfl (en rfl (en rfl (en rfl (en rfl (en rfl (en rfl (en rfl (en rfl (en rfl (en rfl (en rfl (en rfl (en rfl (en rfl (en rfl (en rfl s2)))))))))))))))))))))))))))
                have s3 := (hg 3).trans (en rfl (en rfl (en rfl (en rfl (en rfl (en rfl (en rfl (en rfl (en rfl (en rfl (en rfl (en rfl (en rfl (en rfl (en rfl (en rfl (en rfl (en rfl (en rfl (en rfl (en rfl (en rfl (en rfl (en rfl (en rfl (en rfl (en rfl s3)))))))))))))))))))))))))))
                have s4 := (hg 4).trans (en rfl (en rfl (en rfl (en rfl (en rfl (en rfl (en rfl (en rfl (en rfl (en rfl (en rfl (en rfl (en rfl (en rfl (en rfl (en rfl (en rfl (en rfl (en rfl (en rfl (en rfl (en rfl (en rfl (en rfl (en rfl (en rfl (en rfl s4)))))))))))))))))))))))))))
                have s6 := (hg 6).trans (en rfl (en rfl (en rfl (en rfl (en rfl (en rfl (en rfl (en rfl (en rfl (en rfl (en rfl (en rfl (en rfl (en rfl (en rfl (en rfl (en rfl (en rfl (en rfl (en rfl (en rfl (en rfl (en rfl (en rfl (en rfl (en rfl (en rfl s6)))))))))))))))))))))))))))
                have s7 := (hg 7).trans (en rfl (en rfl (en rfl (en rfl (en rfl (en rfl (en rfl (en rfl (en rfl (en rfl (en rfl (en rfl (en rfl (en rfl (en rfl (en rfl (en rfl (en rfl (en rfl (en rfl (en rfl (en rfl (en rfl (en rfl (en rfl (en rfl (en rfl s7)))))))))))))))))))))))))))
                have s8 := (hg 8).trans (en rfl (en rfl (en rfl (en rfl (en rfl (en rfl (en rfl (en rfl (en rfl (en rfl (en rfl (en rfl (en rfl (en rfl (en rfl (en rfl (en rfl (en rfl (en rfl (en rfl (en rfl (en rfl (en rfl (en rfl (en rfl (en rfl (en rfl s8)))))))))))))))))))))))))))
                have s9 := (hg 9).trans (en rfl (en rfl (en rfl (en rfl (en rfl (en rfl (en rfl (en rfl (en rfl (en rfl (en rfl (en rfl (en rfl (en rfl (en rfl (en rfl (en rfl (en rfl (en rfl (en rfl (en rfl (en rfl (en rfl (en rfl (en rfl (en rfl (en rfl s9)))))))))))))))))))))))))))
                have s22 := (hg 22).trans (en rfl (en rfl (en rfl (en rfl (en rfl (en rfl (en rfl (en rfl (en rfl (en rfl (en rfl (en rfl (en rfl (en rfl (en rfl (en rfl (en rfl (en rfl (en rfl (en rfl (en rfl (en rfl (en rfl (en rfl (en rfl (en rfl (en rfl s22)))))))))))))))))))))))))))
                have s28 := (hg 28).trans (en rfl (en rfl (en rfl (en rfl (en rfl (en rfl (en rfl (en rfl (en rfl (en rfl (en rfl (en rfl (en rfl (en rfl (en rfl (en rfl (en rfl (en rfl (en rfl (en rfl (en rfl (en rfl (en rfl (en rfl (en rfl (en rfl (en rfl s28)))))))))))))))))))))))))))
                have s29 := (hg 29).trans (en rfl (en rfl (en rfl (en rfl (en rfl (en rfl (en rfl (en rfl (en rfl (en rfl (en rfl (en rfl (en rfl (en rfl (en rfl (en rfl (en rfl (en rfl (en rfl (en rfl (en rfl (en rfl (en rfl (en rfl (en rfl (en rfl (en rfl s29)))))))))))))))))))))))))))
                have s30 := (hg 30).trans (en rfl (en rfl (en rfl (en rfl (en rfl (en rfl (en rfl (en rfl (en rfl (en rfl (en rfl (en rfl (en rfl (en rfl (en rfl (en rfl (en rfl (en rfl (en rfl (en rfl (en rfl (en rfl (en rfl (en rfl (en rfl (en rfl (en rfl s30)))))))))))))))))))))))))))
                have s31 := (hg 31).trans (en rfl (en rfl (en rfl (en rfl (en rfl (en rfl (en rfl (en rfl (en rfl (en rfl (en rfl (en rfl (en rfl (en rfl (en rfl (en rfl (en rfl (en rfl (en rfl (en rfl (en rfl (en rfl (en rfl (en rfl (en rfl (en rfl (en rfl s31)))))))))))))))))))))))))))
                have s40 := (hg 40).trans (en rfl (en rfl (en rfl (en rfl (en rfl (en rfl (en rfl (en rfl (en rfl (en rfl (en rfl (en rfl (en rfl (en rfl (en rfl (en rfl (en rfl (en rfl (en rfl (en rfl (en rfl (en rfl (en rfl (en rfl (en rfl (en rfl (en rfl s40)))))))))))))))))))))))))))
                have s74 := (hg 74).trans es
                have s75 := (hg 75).trans (en rfl (en rfl (en rfl (en rfl (en rfl (en rfl (en rfl (en rfl (en rfl (en rfl (en rfl (en rfl (en rfl (en rfl (en rfl (en rfl (en rfl (en rfl (en rfl (en rfl (en rfl (en rfl (en rfl (en rfl (en rfl (en rfl (en rfl s75)))))))))))))))))))))))))))
                have s86 := (hg 86).trans (en rfl (en rfl (en rfl (en rfl (en rfl (en rfl (en rfl (en rfl (en rfl (en rfl (en rfl (en rfl (en rfl (en rfl (en rfl (en rfl (en rfl (en rfl (en rfl (en rfl (en rfl (en rfl (en rfl (en rfl (en rfl (en rfl (en rfl s86)))))))))))))))))))))))))))
                have s100 := (hg 100).trans (en rfl (en rfl (en rfl (en rfl (en rfl (en rfl (en rfl (en rfl (en rfl (en rfl (en rfl (en rfl (en rfl (en rfl (en rfl (en rfl (en rfl (en rfl (en rfl (en rfl (en rfl (en rfl (en rfl (en rfl (en rfl (en rfl (en rfl s100)))))))))))))))))))))))))))
                clear hg
                refine yc_cond s74 (fun hc => by cases hc) (fun _ => ?_)
                refine yc_skip ?_
                exact ⟨⟨pl, fr, by omega, hcnt, rfl, (((SatL.closeRef (h.closeRow hrx).f1).f2.drop).f1).f2⟩, ⟨(s0).trans zG15_0.symm, (s2).trans zG15_2.symm, (s3).trans zG15_3.symm, (s4).trans zG15_4.symm, (s6).trans zG15_6.symm, (s7).trans zG15_7.symm, (s22).trans zG15_22.symm, (s28).trans zG15_28.symm, (s29).trans zG15_29.symm, (s30).trans zG15_30.symm, (s31).trans zG15_31.symm⟩⟩
      ·
        rintro ds g w ⟨⟨pl2, fr2, hpk2, hcnt2, rfl, h⟩, ⟨y0, y2, y3, y4, y6, y7, y22, y28, y29, y30, y31⟩⟩
        have s0 := y0.trans zG15_0
        have s2 := y2.trans zG15_2
        have s3 := y3.trans zG15_3
        have s4 := y4.trans zG15_4
        have s6 := y6.trans zG15_6
        have s7 := y7.trans zG15_7
        have s22 := y22.trans zG15_22
        have s28 := y28.trans zG15_28
        have s29 := y29.trans zG15_29
        have s30 := y30.trans zG15_30
        have s31 := y31.trans zG15_31
        refine yc_seq (fun K hK38 => ?_)
        refine yc_seq (fun K hK39 => ?_)
        obtain ⟨xs, ts, fs, h⟩ := (h.f2).openRef
        obtain ⟨gx, cx, rfl, _, _⟩ := (h.f1).rowVal
        have hS := h
        have hS := (hS.f4).drop
        have hS := (hS.f4).drop
        have hS := (hS.f5).drop
        refine yc_of_xc (xc_plan 15 [(0, 2), (2, 1), (1, 0), (3, 0), (4, 2), (5, 2), (6, 2), (8, 1), (9, 2), (10, 2), (11, 1), (12, 2), (7, 0), (13, 2), (14, 2)] (by kernel_rfl) rfl (by kernel_rfl) hS ?_)
        have h := h.drew
        refine xp_read (i := 0) rfl (fun W => r_move s3) rfl (fun _ _ _ hh => by first | exact bodyR_np hh | exact bodyY_np hh | exact hh) ?_
        refine xp_load (i := 2) rfl (fun W hW => r_load hW 4 rfl Try.isAgg47 (en rfl s4) gc0) rfl (fun _ _ _ hh => by first | exact bodyR_np hh | exact bodyY_np hh | exact hh) ?_
        have h := h.f5
        refine xp_enter (i := 1) rfl (r_call Try.call11 (.cons (en rfl es) .nil)) rfl (I.len_ok h (by rw [plA_len]; omega)) ?_
        rintro _ w ⟨rfl, h⟩
        refine ⟨(fun _ => (((h.f0).drop.f4).drop.f5).drop), ?_⟩
        have h := h.f4
        have h := h.f4
        have h := h.f4
        have h := h.f4
        refine xp_enter (i := 3) rfl (r_call Try.call26 (.cons (en rfl es) .nil)) rfl (reflen_open (by omega) h) ?_
        rintro _ w ⟨rfl, h⟩
        refine ⟨(fun _ => (((h.f4).drop.f4).drop.f5).drop), ?_⟩
        refine xp_read (i := 4) rfl (fun W => r_neq (en rfl es) es (decide_eq_false (by rw [plA_len]; omega))) rfl (fun _ _ _ hh => by first | exact bodyR_np hh | exact bodyY_np hh | exact hh) ?_
        refine xp_read (i := 5) rfl (fun W => r_move es) rfl (fun _ _ _ hh => by first | exact bodyR_np hh | exact bodyY_np hh | exact hh) ?_
        refine xp_readG (i := 6) (d := 126) rfl rfl rfl es (fun W => r_move (en rfl (en rfl (en rfl (en rfl (en rfl (en rfl s3))))))) rfl (fun _ _ _ hh => by first | exact bodyR_np hh | exact bodyY_np hh | exact hh) ?_
        refine xp_loadG (i := 8) (d := 126) rfl rfl rfl (en rfl es) (fun W hW => r_load hW 4 rfl Try.isAgg47 (en rfl (en rfl (en rfl (en rfl (en rfl (en rfl (en rfl s4))))))) gc0) rfl (fun _ _ _ hh => by first | exact bodyR_np hh | exact bodyY_np hh | exact hh) ?_
        refine xp_readG (i := 9) (d := 126) rfl rfl rfl (en rfl (en rfl es)) (fun W => r_nilCheck es) rfl (fun _ _ _ hh => by first | exact bodyR_np hh | exact bodyY_np hh | exact hh) ?_
        refine xp_readG (i := 10) (d := 126) rfl rfl rfl (en rfl (en rfl (en rfl es))) (fun W => r_fieldAddr (o' := 0) Try.underlying51 rfl Try.sizeOf48 rfl es rfl) rfl (fun _ _ _ hh => by first | exact bodyR_np hh | exact bodyY_np hh | exact hh) ?_
        refine xp_loadG (i := 11) (d := 126) rfl rfl rfl (en rfl (en rfl (en rfl (en rfl es)))) (fun W hW => r_load hW 0 rfl Try.isAgg48 es gc0) rfl (fun _ _ _ hh => by first | exact bodyR_np hh | exact bodyY_np hh | exact hh) ?_
        refine xp_readG (i := 12) (d := 126) rfl rfl rfl (en rfl (en rfl (en rfl (en rfl (en rfl es))))) (fun W => r_len Try.underlying48 es) rfl (fun _ _ _ hh => by first | exact bodyR_np hh | exact bodyY_np hh | exact hh) ?_
        have h := h.f4
        refine xp_enterG (i := 7) (e := 126) rfl rfl rfl (en rfl (en rfl (en rfl (en rfl (en rfl (en rfl es)))))) (r_call Try.call12 (.cons (en rfl (en rfl (en rfl (en rfl (en rfl es))))) .nil)) rfl (I.cap_ok h) ?_
        rintro _ w ⟨rfl, h⟩
        refine ⟨(fun _ => (((h.f0).drop.f4).drop.f5).drop), ?_⟩
        refine xp_readG (i := 13) (d := 126) rfl rfl rfl (en rfl (en rfl (en rfl (en rfl (en rfl (en rfl (en rfl es))))))) (fun W => r_neq es (en rfl es) (decide_eq_false (by simp [plA_len]))) rfl (fun _ _ _ hh => by first | exact bodyR_np hh | exact bodyY_np hh | exact hh) ?_
        have h := h.f4
        have h := h.f4
        have h := h.f4
        have h := h.f4
        have h := SatL.closeRef h
        refine xp_read (i := 14) rfl (fun W => r_pick_f (en rfl (en rfl (en rfl (en rfl (en rfl (en rfl (en rfl (en rfl es)))))))) es) rfl (fun _ _ _ hh => by first | exact bodyR_np hh | exact bodyY_np hh | exact hh) ?_
        refine xp_nil ?_
        refine hK39 _ _ _ ?_
        refine yc_gen (fun g hg => ?_)
        have s0 := (hg 0).trans (en rfl (en rfl (en rfl (en rfl (en rfl (en rfl (en rfl (en rfl (en rfl (en rfl (en rfl (en rfl (en rfl (en rfl (en rfl s0)))))))))))))))
        have s2 := (hg 2).trans (en rfl (en rfl (en rfl (en rfl (en rfl (en rfl (en rfl (en rfl (en rfl (en rfl (en rfl (en rfl (en rfl (en rfl (en rfl s2)))))))))))))))
        have s3 := (hg 3).trans (en rfl (en rfl (en rfl (en rfl (en rfl (en rfl (en rfl (en rfl (en rfl (en rfl (en rfl (en rfl (en rfl (en rfl (en rfl s3)))))))))))))))
        have s4 := (hg 4).trans (en rfl (en rfl (en rfl (en rfl (en rfl (en rfl (en rfl (en rfl (en rfl (en rfl (en rfl (en rfl (en rfl (en rfl (en rfl s4)))))))))))))))
        have s6 := (hg 6).trans (en rfl (en rfl (en rfl (en rfl (en rfl (en rfl (en rfl (en rfl (en rfl (en rfl (en rfl (en rfl (en rfl (en rfl (en rfl s6)))))))))))))))
        have s7 := (hg 7).trans (en rfl (en rfl (en rfl (en rfl (en rfl (en rfl (en rfl (en rfl (en rfl (en rfl (en rfl (en rfl (en rfl (en rfl (en rfl s7)))))))))))))))
        have s22 := (hg 22).trans (en rfl (en rfl (en rfl (en rfl (en rfl (en rfl (en rfl (en rfl (en rfl (en rfl (en rfl (en rfl (en rfl (en rfl (en rfl s22)))))))))))))))
        have s28 := (hg 28).trans (en rfl (en rfl (en rfl (en rfl (en rfl (en rfl (en rfl (en rfl (en rfl (en rfl (en rfl (en rfl (en rfl (en rfl (en rfl s28)))))))))))))))
        have s29 := (hg 29).trans (en rfl (en rfl (en rfl (en rfl (en rfl (en rfl (en rfl (en rfl (en rfl (en rfl (en rfl (en rfl (en rfl (en rfl (en rfl s29)))))))))))))))
        have s30 := (hg 30).trans (en rfl (en rfl (en rfl (en rfl (en rfl (en rfl (en rfl (en rfl (en rfl (en rfl (en rfl (en rfl (en rfl (en rfl (en rfl s30)))))))))))))))
        have s31 := (hg 31).trans (en rfl (en rfl (en rfl (en rfl (en rfl (en rfl (en rfl (en rfl (en rfl (en rfl (en rfl (en rfl (en rfl (en rfl (en rfl s31)))))))))))))))
        have s135 := (hg 135).trans es
        clear hg
        refine yc_cond s135 (fun hc => by cases hc) (fun _ => ?_)
        refine yc_skip ?_
        refine hK38 _ _ _ ?_
        refine yc_seq (fun K hK40 => ?_)
        refine yc_region ?_
        refine x_alloc1 h Try.zeroValue3 rfl rfl ?_
        intro b10 w h
        refine x_st (r_store h 0 rfl Try.sizeOf3 es ec rfl gc0) rfl (h.u0 sc0) ?_
        intro w h
        refine xw_nil ?_
        refine hK40 _ _ _ ?_
        refine yc_gen (fun g hg => ?_)
        have s0 := (hg 0).trans (en rfl s0)
        have s2 := (hg 2).trans (en rfl s2)
        have s3 := (hg 3).trans (en rfl s3)
        have s4 := (hg 4).trans (en rfl s4)
        have s6 := (hg 6).trans (en rfl s6)
        have s7 := (hg 7).trans (en rfl s7)
        have s10 := (hg 10).trans es
        have s22 := (hg 22).trans (en rfl s22)
        have s28 := (hg 28).trans (en rfl s28)
        have s29 := (hg 29).trans (en rfl s29)
        have s30 := (hg 30).trans (en rfl s30)
        have s31 := (hg 31).trans (en rfl s31)
        have s135 := (hg 135).trans (en rfl s135)
        clear hg
        refine yc_seq (fun K hK41 => ?_)
        refine yc_seq (fun K hK42 => ?_)
        refine yc_region ?_
        refine x_val (r_move s3) (nd_of rfl) rfl ?_
        refine x_enter (r_call Try.call27 (.cons es .nil)) (nd_of rfl) rfl (all_mk h) ?_
        rintro _ w ⟨c1, rfl, h⟩
        refine xw_nil ?_
        refine hK42 _ _ _ ?_
        refine yc_gen (fun g hg => ?_)
        have s0 := (hg 0).trans (en rfl (en rfl s0))
        have s2 := (hg 2).trans (en rfl (en rfl s2))
        have s3 := (hg 3).trans (en rfl (en rfl s3))
        have s4 := (hg 4).trans (en rfl (en rfl s4))
        have s6 := (hg 6).trans (en rfl (en rfl s6))
        have s7 := (hg 7).trans (en rfl (en rfl s7))
        have s10 := (hg 10).trans (en rfl (en rfl s10))
        have s22 := (hg 22).trans (en rfl (en rfl s22))
        have s28 := (hg 28).trans (en rfl (en rfl s28))
        have s29 := (hg 29).trans (en rfl (en rfl s29))
        have s30 := (hg 30).trans (en rfl (en rfl s30))
        have s31 := (hg 31).trans (en rfl (en rfl s31))
        have s135 := (hg 135).trans (en rfl (en rfl s135))
        have s137 := (hg 137).trans es
        clear hg
        refine yc_block ?_
        refine yc_range s137 Try.call30 h ?_
        intro lp D fn tmps w htn htg h
        obtain ⟨lr, hlr, h⟩ := h.loopAbs
        have hR : ∀ (M : List SProp) (k2 : Nat) (v : Int) (w : World), pl2[k2]? = some (some v) → SatL E w (M ++ ILp lp lr b10 b15 b4 pl2 fr2 (pt D (.deferred (some [])) :: Marks Ds :: Cells b2 #[.bool false] 4 :: Old W :: R) k2) → FnOk Try.prog (.func (.yield lp) #[] #[]) [.int .i64 (k2 : Int), .int .i64 v] w (fun u w' => u = .bool true ∧ SatL E w' (M ++ ILp lp lr b10 b15 b4 pl2 fr2 (pt D (.deferred (some [])) :: Marks Ds :: Cells b2 #[.bool false] 4 :: Old W :: R) (k2 + 1))) := by
          intro M k2 v w hk2 h; replace h := h.app; obtain ⟨n0, hn1, hn2, h⟩ := SatL.openN h; have h := h.f1; have hk3 := (List.getElem?_eq_some_iff.1 hk2).1
          subst hlr
          refine fnOk_round h rfl htn ?_
          refine xc_gen (fun g hg => ?_)
          have s0 := (hg 0).trans ((fold_get rfl).trans ((htg 0).trans s0))
          have s2 := (hg 2).trans ((fold_get rfl).trans ((htg 2).trans s2))
          have s3 := (hg 3).trans ((fold_get rfl).trans ((htg 3).trans s3))
          have s4 := (hg 4).trans ((fold_get rfl).trans ((htg 4).trans s4))
          have s6 := (hg 6).trans ((fold_get rfl).trans ((htg 6).trans s6))
          have s7 := (hg 7).trans ((fold_get rfl).trans ((htg 7).trans s7))
          have s10 := (hg 10).trans ((fold_get rfl).trans ((htg 10).trans s10))
          have s22 := (hg 22).trans ((fold_get rfl).trans ((htg 22).trans s22))
          have s28 := (hg 28).trans ((fold_get rfl).trans ((htg 28).trans s28))
          have s29 := (hg 29).trans ((fold_get rfl).trans ((htg 29).trans s29))
          have s30 := (hg 30).trans ((fold_get rfl).trans ((htg 30).trans s30))
          have s31 := (hg 31).trans ((fold_get rfl).trans ((htg 31).trans s31))
          have s135 := (hg 135).trans ((fold_get rfl).trans ((htg 135).trans s135))
          have s137 := (hg 137).trans ((fold_get rfl).trans ((htg 137).trans s137))
          have s138 := (hg 138).trans (fold2_0 (by rw [htn]; decide) (by decide))
          have s139 := (hg 139).trans (fold2_1 (by rw [htn]; decide))
          clear hg
          refine xc_seq (fun K hK43 => ?_)
          refine xc_region ?_
          refine x_val (r_assign s138) (nd_of rfl) rfl ?_
          refine xw_nil ?_
          refine hK43 _ _ ?_
          refine xc_gen (fun g hg => ?_)
          have s0 := (hg 0).trans (en rfl s0)
          have s2 := (hg 2).trans (en rfl s2)
          have s3 := (hg 3).trans (en rfl s3)
          have s4 := (hg 4).trans (en rfl s4)
          have s6 := (hg 6).trans (en rfl s6)
          have s7 := (hg 7).trans (en rfl s7)
          have s10 := (hg 10).trans (en rfl s10)
          have s11 := (hg 11).trans es
          have s22 := (hg 22).trans (en rfl s22)
          have s28 := (hg 28).trans (en rfl s28)
          have s29 := (hg 29).trans (en rfl s29)
          have s30 := (hg 30).trans (en rfl s30)
          have s31 := (hg 31).trans (en rfl s31)
          have s135 := (hg 135).trans (en rfl s135)
          have s137 := (hg 137).trans (en rfl s137)
          have s138 := (hg 138).trans (en rfl s138)
          have s139 := (hg 139).trans (en rfl s139)
          clear hg
          refine xc_region ?_
          refine x_val (r_assign s139) (nd_of rfl) rfl ?_
          refine xw_nil ?_
          refine thenR_mk ⟨_, _, rfl, h, fun w h => ?_⟩
          obtain ⟨lr2, hlr2, h⟩ := h.loopAbs
          refine xc_gen (fun g hg => ?_)
          have s0 := (hg 0).trans (en rfl s0)
          have s2 := (hg 2).trans (en rfl s2)
          have s3 := (hg 3).trans (en rfl s3)
          have s4 := (hg 4).trans (en rfl s4)
          have s6 := (hg 6).trans (en rfl s6)
          have s7 := (hg 7).trans (en rfl s7)
          have s10 := (hg 10).trans (en rfl s10)
          have s11 := (hg 11).trans (en rfl s11)
          have s12 := (hg 12).trans es
          have s22 := (hg 22).trans (en rfl s22)
          have s28 := (hg 28).trans (en rfl s28)
          have s29 := (hg 29).trans (en rfl s29)
          have s30 := (hg 30).trans (en rfl s30)
          have s31 := (hg 31).trans (en rfl s31)
          have s135 := (hg 135).trans (en rfl s135)
          have s137 := (hg 137).trans (en rfl s137)
          have s138 := (hg 138).trans (en rfl s138)
          have s139 := (hg 139).trans (en rfl s139)
          clear hg
          refine xc_block ?_
          refine xc_seq (fun K hK44 => ?_)
          refine xc_block ?_
          obtain ⟨G45, hG45⟩ : ∃ g0 : Nat → Value, g0 = g := ⟨_, rfl⟩
          have zG45_0 : G45 0 = _ := (congrFun hG45 0).trans s0
          have zG45_2 : G45 2 = _ := (congrFun hG45 2).trans s2
          have zG45_3 : G45 3 = _ := (congrFun hG45 3).trans s3
          have zG45_4 : G45 4 = _ := (congrFun hG45 4).trans s4
          have zG45_6 : G45 6 = _ := (congrFun hG45 6).trans s6
          have zG45_7 : G45 7 = _ := (congrFun hG45 7).trans s7
          have zG45_10 : G45 10 = _ := (congrFun hG45 10).trans s10
          have zG45_11 : G45 11 = _ := (congrFun hG45 11).trans s11
          have zG45_12 : G45 12 = _ := (congrFun hG45 12).trans s12
          have zG45_22 : G45 22 = _ := (congrFun hG45 22).trans s22
          have zG45_28 : G45 28 = _ := (congrFun hG45 28).trans s28
          have zG45_29 : G45 29 = _ := (congrFun hG45 29).trans s29
          have zG45_30 : G45 30 = _ := (congrFun hG45 30).trans s30
          have zG45_31 : G45 31 = _ := (congrFun hG45 31).trans s31
          have zG45_135 : G45 135 = _ := (congrFun hG45 135).trans s135
          have zG45_137 : G45 137 = _ := (congrFun hG45 137).trans s137
          have zG45_138 : G45 138 = _ := (congrFun hG45 138).trans s138
          have zG45_139 : G45 139 = _ := (congrFun hG45 139).trans s139
          refine xc_loop (fun m f w => (∃ n : Nat, m = k2 - n ∧ n ≤ k2 ∧ (∀ j, n ≤ j → j < k2 → pl2[j]? = some none) ∧ SatL E w (pt lp (.loop lr2) :: Cells b10 #[.int .i64 (n : Int)] 3 :: RefA b15 pl2 fr2 :: Cells b4 #[.pointer (some ⟨b15, 0, none⟩)] 47 :: ((pt D (.deferred (some [])) :: Marks Ds :: Cells b2 #[.bool false] 4 :: Old W :: R) ++ M))) ∧ (f 0 = G45 0 ∧ f 2 = G45 2 ∧ f 3 = G45 3 ∧ f 4 = G45 4 ∧ f 6 = G45 6 ∧ f 7 = G45 7 ∧ f 10 = G45 10 ∧ f 11 = G45 11 ∧ f 12 = G45 12 ∧ f 22 = G45 22 ∧ f 28 = G45 28 ∧ f 29 = G45 29 ∧ f 30 = G45 30 ∧ f 31 = G45 31 ∧ f 135 = G45 135 ∧ f 137 = G45 137 ∧ f 138 = G45 138 ∧ f 139 = G45 139)) (k2 - n0) ⟨⟨n0, rfl, hn1, hn2, h⟩, ⟨congrFun hG45.symm 0, congrFun hG45.symm 2, congrFun hG45.symm 3, congrFun hG45.symm 4, congrFun hG45.symm 6, congrFun hG45.symm 7, congrFun hG45.symm 10, congrFun hG45.symm 11, congrFun hG45.symm 12, congrFun hG45.symm 22, congrFun hG45.symm 28, congrFun hG45.symm 29, congrFun hG45.symm 30, congrFun hG45.symm 31, congrFun hG45.symm 135, congrFun hG45.symm 137, congrFun hG45.symm 138, congrFun hG45.symm 139⟩⟩ ?_
          rintro m g w ⟨⟨n, hm, hn1, hn2, h⟩, ⟨y0, y2, y3, y4, y6, y7, y10, y11, y12, y22, y28, y29, y30, y31, y135, y137, y138, y139⟩⟩
          have s0 := y0.trans zG45_0
          have s2 := y2.trans zG45_2
          have s3 := y3.trans zG45_3
          have s4 := y4.trans zG45_4
          have s6 := y6.trans zG45_6
          have s7 := y7.trans zG45_7
          have s10 := y10.trans zG45_10
          have s11 := y11.trans zG45_11
          have s12 := y12.trans zG45_12
          have s22 := y22.trans zG45_22
          have s28 := y28.trans zG45_28
          have s29 := y29.trans zG45_29
          have s30 := y30.trans zG45_30
          have s31 := y31.trans zG45_31
          have s135 := y135.trans zG45_135
          have s137 := y137.trans zG45_137
          have s138 := y138.trans zG45_138
          have s139 := y139.trans zG45_139
          rcases Nat.lt_or_ge n k2 with hlt | hge
          ·
            skip
            refine xc_seq (fun K hK46 => ?_)
            refine xc_seq (fun K hK47 => ?_)
            refine xc_region ?_
            refine x_val (r_load h 1 rfl Try.isAgg3 s10 gc0) (nd_of rfl) rfl ?_
            refine x_val (r_move (en rfl s11)) (nd_of rfl) rfl ?_
            refine x_val (r_lss (en rfl es) es (decide_eq_true (by omega))) (nd_of rfl) rfl ?_
            refine x_val (r_move es) (nd_of rfl) rfl ?_
            refine x_take (d := 143) rfl rfl es ?_
            refine x_val (r_load h 3 rfl Try.isAgg47 (en rfl (en rfl (en rfl (en rfl s4)))) gc0) (nd_of rfl) rfl ?_
            refine x_take (d := 143) rfl rfl (en rfl es) ?_
            refine x_val (r_load h 1 rfl Try.isAgg3 (en rfl (en rfl (en rfl (en rfl (en rfl s10))))) gc0) (nd_of rfl) rfl ?_
            refine x_take (d := 143) rfl rfl (en rfl (en rfl es)) ?_
            have h := h.f2
            refine x_enter (r_call Try.call21 (.cons (en rfl es) (.cons es .nil))) (nd_of rfl) rfl (has_val (hn2 n (by omega) hlt) h) ?_
            rintro _ w ⟨rfl, h⟩
            refine x_take (d := 143) rfl rfl (en rfl (en rfl (en rfl es))) ?_
            refine x_val (r_not es rfl) (nd_of rfl) rfl ?_
            refine x_val (r_pick_t (en rfl (en rfl (en rfl (en rfl es)))) es) (nd_of rfl) rfl ?_
            refine xw_nil ?_
            refine hK47 _ _ ?_
            refine xc_gen (fun g hg => ?_)
            have s0 := (hg 0).trans (en rfl (en rfl (en rfl (en rfl (en rfl (en rfl (en rfl (en rfl (en rfl s0)))))))))
            have s2 := (hg 2).trans (en rfl (en rfl (en rfl (en rfl (en rfl (en rfl (en rfl (en rfl (en rfl s2)))))))))
            have s3 := (hg 3).trans (en rfl (en rfl (en rfl (en rfl (en rfl (en rfl (en rfl (en rfl (en rfl s3)))))))))
            have s4 := (hg 4).trans (en rfl (en rfl (en rfl (en rfl (en rfl (en rfl (en rfl (en rfl (en rfl s4)))))))))
            have s6 := (hg 6).trans (en rfl (en rfl (en rfl (en rfl (en rfl (en rfl (en rfl (en rfl (en rfl s6)))))))))
            have s7 := (hg 7).trans (en rfl (en rfl (en rfl (en rfl (en rfl (en rfl (en rfl (en rfl (en rfl s7)))))))))
            have s10 := (hg 10).trans (en rfl (en rfl (en rfl (en rfl (en rfl (en rfl (en rfl (en rfl (en rfl s10)))))))))
            have s11 := (hg 11).trans (en rfl (en rfl (en rfl (en rfl (en rfl (en rfl (en rfl (en rfl (en rfl s11)))))))))
            have s12 := (hg 12).trans (en rfl (en rfl (en rfl (en rfl (en rfl (en rfl (en rfl (en rfl (en rfl s12)))))))))
            have s22 := (hg 22).trans (en rfl (en rfl (en rfl (en rfl (en rfl (en rfl (en rfl (en rfl (en rfl s22)))))))))
            have s28 := (hg 28).trans (en rfl (en rfl (en rfl (en rfl (en rfl (en rfl (en rfl (en rfl (en rfl s28)))))))))
            have s29 := (hg 29).trans (en rfl (en rfl (en rfl (en rfl (en rfl (en rfl (en rfl (en rfl (en rfl s29)))))))))
            have s30 := (hg 30).trans (en rfl (en rfl (en rfl (en rfl (en rfl (en rfl (en rfl (en rfl (en rfl s30)))))))))
            have s31 := (hg 31).trans (en rfl (en rfl (en rfl (en rfl (en rfl (en rfl (en rfl (en rfl (en rfl s31)))))))))
            have s135 := (hg 135).trans (en rfl (en rfl (en rfl (en rfl (en rfl (en rfl (en rfl (en rfl (en rfl s135)))))))))
            have s137 := (hg 137).trans (en rfl (en rfl (en rfl (en rfl (en rfl (en rfl (en rfl (en rfl (en rfl s137)))))))))
            have s138 := (hg 138).trans (en rfl (en rfl (en rfl (en rfl (en rfl (en rfl (en rfl (en rfl (en rfl s138)))))))))
            have s139 := (hg 139).trans (en rfl (en rfl (en rfl (en rfl (en rfl (en rfl (en rfl (en rfl (en rfl s139)))))))))
            have s148 := (hg 148).trans es
            clear hg
            refine xc_cond s148 (fun _ => ?_) (fun hc => by cases hc)
            refine xc_skip ?_
            refine hK46 _ _ ?_
            refine xc_block ?_
            refine xc_region ?_
            refine x_val (r_load h 2 rfl Try.isAgg3 s10 gc0) (nd_of rfl) rfl ?_
            refine x_val (r_add es ec (show _ = (((n + 1 : Nat) : Int) : Int) from by omega) (by unfold I64; omega)) (nd_of rfl) rfl ?_
            refine x_st (r_store h 2 rfl Try.sizeOf3 (en rfl (en rfl s10)) es rfl gc0) rfl (h.u2 sc0) ?_
            intro w h
            refine xw_nil ?_
            exact ⟨k2 - (n + 1), by omega, ⟨n + 1, rfl, by omega, fun j h1 h2 => hn2 j (by omega) h2, h.f2.f2⟩, ⟨((en rfl (en rfl s0))).trans zG45_0.symm, ((en rfl (en rfl s2))).trans zG45_2.symm, ((en rfl (en rfl s3))).trans zG45_3.symm, ((en rfl (en rfl s4))).trans zG45_4.symm, ((en rfl (en rfl s6))).trans zG45_6.symm, ((en rfl (en rfl s7))).trans zG45_7.symm, ((en rfl (en rfl s10))).trans zG45_10.symm, ((en rfl (en rfl s11))).trans zG45_11.symm, ((en rfl (en rfl s12))).trans zG45_12.symm, ((en rfl (en rfl s22))).trans zG45_22.symm, ((en rfl (en rfl s28))).trans zG45_28.symm, ((en rfl (en rfl s29))).trans zG45_29.symm, ((en rfl (en rfl s30))).trans zG45_30.symm, ((en rfl (en rfl s31))).trans zG45_31.symm, ((en rfl (en rfl s135))).trans zG45_135.symm, ((en rfl (en rfl s137))).trans zG45_137.symm, ((en rfl (en rfl s138))).trans zG45_138.symm, ((en rfl (en rfl s139))).trans zG45_139.symm⟩⟩
          ·
            skip
            refine xc_seq (fun K hK48 => ?_)
            refine xc_seq (fun K hK49 => ?_)
            refine xc_region ?_
            refine x_val (r_load h 1 rfl Try.isAgg3 s10 gc0) (nd_of rfl) rfl ?_
            refine x_val (r_move (en rfl s11)) (nd_of rfl) rfl ?_
            refine x_val (r_lss (en rfl es) es (decide_eq_false (by omega))) (nd_of rfl) rfl ?_
            refine x_val (r_move es) (nd_of rfl) rfl ?_
            refine x_pass (d := 143) rfl rfl es rfl ?_
            refine x_pass (d := 143) rfl rfl (en rfl es) rfl ?_
            refine x_pass (d := 143) rfl rfl (en rfl (en rfl es)) rfl ?_
            refine x_pass (d := 143) rfl rfl (en rfl (en rfl (en rfl es))) rfl ?_
            refine x_val (r_pick_f (en rfl (en rfl (en rfl (en rfl es)))) ec) (nd_of rfl) rfl ?_
            refine xw_nil ?_
            refine hK49 _ _ ?_
            refine xc_gen (fun g hg => ?_)
            have s0 := (hg 0).trans (en rfl (en rfl (en rfl (en rfl (en rfl (en rfl (en rfl (en rfl (en rfl s0)))))))))
            have s2 := (hg 2).trans (en rfl (en rfl (en rfl (en rfl (en rfl (en rfl (en rfl (en rfl (en rfl s2)))))))))
            have s3 := (hg 3).trans (en rfl (en rfl (en rfl (en rfl (en rfl (en rfl (en rfl (en rfl (en rfl s3)))))))))
            have s4 := (hg 4).trans (en rfl (en rfl (en rfl (en rfl (en rfl (en rfl (en rfl (en rfl (en rfl s4)))))))))
            have s6 := (hg 6).trans (en rfl (en rfl (en rfl (en rfl (en rfl (en rfl (en rfl (en rfl (en rfl s6)))))))))
            have s7 := (hg 7).trans (en rfl (en rfl (en rfl (en rfl (en rfl (en rfl (en rfl (en rfl (en rfl s7)))))))))
            have s10 := (hg 10).trans (en rfl (en rfl (en rfl (en rfl (en rfl (en rfl (en rfl (en rfl (en rfl s10)))))))))
            have s11 := (hg 11).trans (en rfl (en rfl (en rfl (en rfl (en rfl (en rfl (en rfl (en rfl (en rfl s11)))))))))
            have s12 := (hg 12).trans (en rfl (en rfl (en rfl (en rfl (en rfl (en rfl (en rfl (en rfl (en rfl s12)))))))))
            have s22 := (hg 22).trans (en rfl (en rfl (en rfl (en rfl (en rfl (en rfl (en rfl (en rfl (en rfl s22)))))))))
            have s28 := (hg 28).trans (en rfl (en rfl (en rfl (en rfl (en rfl (en rfl (en rfl (en rfl (en rfl s28)))))))))
            have s29 := (hg 29).trans (en rfl (en rfl (en rfl (en rfl (en rfl (en rfl (en rfl (en rfl (en rfl s29)))))))))
            have s30 := (hg 30).trans (en rfl (en rfl (en rfl (en rfl (en rfl (en rfl (en rfl (en rfl (en rfl s30)))))))))
            have s31 := (hg 31).trans (en rfl (en rfl (en rfl (en rfl (en rfl (en rfl (en rfl (en rfl (en rfl s31)))))))))
            have s135 := (hg 135).trans (en rfl (en rfl (en rfl (en rfl (en rfl (en rfl (en rfl (en rfl (en rfl s135)))))))))
            have s137 := (hg 137).trans (en rfl (en rfl (en rfl (en rfl (en rfl (en rfl (en rfl (en rfl (en rfl s137)))))))))
            have s138 := (hg 138).trans (en rfl (en rfl (en rfl (en rfl (en rfl (en rfl (en rfl (en rfl (en rfl s138)))))))))
            have s139 := (hg 139).trans (en rfl (en rfl (en rfl (en rfl (en rfl (en rfl (en rfl (en rfl (en rfl s139)))))))))
            have s148 := (hg 148).trans es
            clear hg
            refine xc_cond s148 (fun hc => by cases hc) (fun _ => ?_)
            refine xc_exit ?_
            refine hK44 _ _ ?_
            refine xc_seq (fun K hK50 => ?_)
            refine xc_seq (fun K hK51 => ?_)
            refine xc_region ?_
            refine x_val (r_load h 1 rfl Try.isAgg3 s10 gc0) (nd_of rfl) rfl ?_
            refine x_val (r_move (en rfl s11)) (nd_of rfl) rfl ?_
            refine x_val (r_neq (en rfl es) es (decide_eq_false (by omega))) (nd_of rfl) rfl ?_
            refine x_val (r_move es) (nd_of rfl) rfl ?_
            refine x_take (d := 154) rfl rfl es ?_
            refine x_val (r_load h 3 rfl Try.isAgg47 (en rfl (en rfl (en rfl (en rfl s4)))) gc0) (nd_of rfl) rfl ?_
            refine x_take (d := 154) rfl rfl (en rfl es) ?_
            refine x_val (r_move (en rfl (en rfl (en rfl (en rfl (en rfl s11)))))) (nd_of rfl) rfl ?_
            refine x_take (d := 154) rfl rfl (en rfl (en rfl es)) ?_
            have h := h.f2
            refine x_enter (r_call Try.call21 (.cons (en rfl es) (.cons es .nil))) (nd_of rfl) rfl (has_val hk2 h) ?_
            rintro _ w ⟨rfl, h⟩
            obtain ⟨xs, ts, fs, h⟩ := h.openRef
            obtain ⟨gx, cx, curx, hrx, h'⟩ := (h.f1).openRow (by omega)
            clear h
            obtain rfl := hrx.val
            have h := h'
            refine x_take (d := 154) rfl rfl (en rfl (en rfl (en rfl es))) ?_
            refine x_val (r_not es rfl) (nd_of rfl) rfl ?_
            refine x_val (r_pick_f (en rfl (en rfl (en rfl (en rfl es)))) es) (nd_of rfl) rfl ?_
            refine x_val (r_move es) (nd_of rfl) rfl ?_
            refine x_take (d := 160) rfl rfl es ?_
            refine x_val (r_move (en rfl (en rfl (en rfl (en rfl (en rfl (en rfl (en rfl (en rfl (en rfl (en rfl s12))))))))))) (nd_of rfl) rfl ?_
            refine x_take (d := 160) rfl rfl (en rfl es) ?_
            refine x_val (r_load h 6 rfl Try.isAgg47 (en rfl (en rfl (en rfl (en rfl (en rfl (en rfl (en rfl (en rfl (en rfl (en rfl (en rfl s4))))))))))) gc0) (nd_of rfl) rfl ?_
            refine x_take (d := 160) rfl rfl (en rfl (en rfl es)) ?_
            refine x_val (r_nilCheck es) (nd_of rfl) rfl ?_
            refine x_take (d := 160) rfl rfl (en rfl (en rfl (en rfl es))) ?_
            refine x_val (r_fieldAddr (o' := 0) Try.underlying51 rfl Try.sizeOf48 rfl es rfl) (nd_of rfl) rfl ?_
            refine x_take (d := 160) rfl rfl (en rfl (en rfl (en rfl (en rfl es)))) ?_
            refine x_val (r_load h 1 rfl Try.isAgg48 es gc0) (nd_of rfl) rfl ?_
            refine x_take (d := 160) rfl rfl (en rfl (en rfl (en rfl (en rfl (en rfl es))))) ?_
            refine x_val (r_move (en rfl (en rfl (en rfl (en rfl (en rfl (en rfl (en rfl (en rfl (en rfl (en rfl (en rfl (en rfl (en rfl (en rfl (en rfl s11)))))))))))))))) (nd_of rfl) rfl ?_
            refine x_take (d := 160) rfl rfl (en rfl (en rfl (en rfl (en rfl (en rfl (en rfl es)))))) ?_
            refine x_val (r_indexAddrN Try.underlying48 Try.sizeOf2 (en rfl es) es (by omega)) (nd_of rfl) rfl ?_
            refine x_take (d := 160) rfl rfl (en rfl (en rfl (en rfl (en rfl (en rfl (en rfl (en rfl es))))))) ?_
            refine x_val (r_load h 0 rfl Try.isAgg2 es (by rw [Nat.mul_one]; exact hrx.get (xsC_get hk2))) (nd_of rfl) rfl ?_
            refine x_take (d := 160) rfl rfl (en rfl (en rfl (en rfl (en rfl (en rfl (en rfl (en rfl (en rfl es)))))))) ?_
            refine x_val (r_neq (en rfl (en rfl (en rfl (en rfl (en rfl (en rfl (en rfl es))))))) es (decide_eq_false (by simp))) (nd_of rfl) rfl ?_
            refine x_val (r_pick_f (en rfl (en rfl (en rfl (en rfl (en rfl (en rfl (en rfl (en rfl (en rfl es))))))))) es) (nd_of rfl) rfl ?_
            refine xw_nil ?_
            refine hK51 _ _ ?_
            refine xc_gen (fun g hg => ?_)
            have s0 := (hg 0).trans (en rfl (en rfl (en rfl (en rfl (en rfl (en rfl (en rfl (en rfl (en rfl (en rfl (en rfl (en rfl (en rfl (en rfl (en rfl (en rfl (en rfl (en rfl (en rfl (en rfl s0))))))))))))))))))))
            have s2 := (hg 2).trans (en rfl (en rfl (en rfl (en rfl (en rfl (en rfl (en rfl (en rfl (en rfl (en rfl (en rfl (en rfl (en rfl (en rfl (en rfl (en rfl (en rfl (en rfl (en rfl (en rfl s2))))))))))))))))))))
            have s3 := (hg 3).trans (en rfl (en rfl (en rfl (en rfl (en rfl (en rfl (en rfl (en rfl (en rfl (en rfl (en rfl (en rfl (en rfl (en rfl (en rfl (en rfl (en rfl (en rfl (en rfl (en rfl s3))))))))))))))))))))
            have s4 := (hg 4).trans (en rfl (en rfl (en rfl (en rfl (en rfl (en rfl (en rfl (en rfl (en rfl (en rfl (en rfl (en rfl (en rfl (en rfl (en rfl (en rfl (en rfl (en rfl (en rfl (en rfl s4))))))))))))))))))))
            have s6 := (hg 6).trans (en rfl (en rfl (en rfl (en rfl (en rfl (en rfl (en rfl (en rfl (en rfl (en rfl (en rfl (en rfl (en rfl (en rfl (en rfl (en rfl (en rfl (en rfl (en rfl (en rfl s6))))))))))))))))))))
            have s7 := (hg 7).trans (en rfl (en rfl (en rfl (en rfl (en rfl (en rfl (en rfl (en rfl (en rfl (en rfl (en rfl (en rfl (en rfl (en rfl (en rfl (en rfl (en rfl (en rfl (en rfl (en rfl s7))))))))))))))))))))
            have s10 := (hg 10).trans (en rfl (en rfl (en rfl (en rfl (en rfl (en rfl (en rfl (en rfl (en rfl (en rfl (en rfl (en rfl (en rfl (en rfl (en rfl (en rfl (en rfl (en rfl (en rfl (en rfl s10))))))))))))))))))))
            have s11 := (hg 11).trans (en rfl (en rfl (en rfl (en rfl (en rfl (en rfl (en rfl (en rfl (en rfl (en rfl (en rfl (en rfl (en rfl (en rfl (en rfl (en rfl (en rfl (en rfl (en rfl (en rfl s11))))))))))))))))))))
            have s12 := (hg 12).trans (en rfl (en rfl (en rfl (en rfl (en rfl (en rfl (en rfl (en rfl (en rfl (en rfl (en rfl (en rfl (en rfl (en rfl (en rfl (en rfl (en rfl (en rfl (en rfl (en rfl s12))))))))))))))))))))
            have s22 := (hg 22).trans (en rfl (en rfl (en rfl (en rfl (en rfl (en rfl (en rfl (en rfl (en rfl (en rfl (en rfl (en rfl (en rfl (en rfl (en rfl (en rfl (en rfl (en rfl (en rfl (en rfl s22))))))))))))))))))))
            have s28 := (hg 28).trans (en rfl (en rfl (en rfl (en rfl (en rfl (en rfl (en rfl (en rfl (en rfl (en rfl (en rfl (en rfl (en rfl (en rfl (en rfl (en rfl (en rfl (en rfl (en rfl (en rfl s28))))))))))))))))))))
            have s29 := (hg 29).trans (en rfl (en rfl (en rfl (en rfl (en rfl (en rfl (en rfl (en rfl (en rfl (en rfl (en rfl (en rfl (en rfl (en rfl (en rfl (en rfl (en rfl (en rfl (en rfl (en rfl s29))))))))))))))))))))
            have s30 := (hg 30).trans (en rfl (en rfl (en rfl (en rfl (en rfl (en rfl (en rfl (en rfl (en rfl (en rfl (en rfl (en rfl (en rfl (en rfl (en rfl (en rfl (en rfl (en rfl (en rfl (en rfl s30))))))))))))))))))))
            have s31 := (hg 31).trans (en rfl (en rfl (en rfl (en rfl (en rfl (en rfl (en rfl (en rfl (en rfl (en rfl (en rfl (en rfl (en rfl (en rfl (en rfl (en rfl (en rfl (en rfl (en rfl (en rfl s31))))))))))))))))))))
            have s135 := (hg 135).trans (en rfl (en rfl (en rfl (en rfl (en rfl (en rfl (en rfl (en rfl (en rfl (en rfl (en rfl (en rfl (en rfl (en rfl (en rfl (en rfl (en rfl (en rfl (en rfl (en rfl s135))))))))))))))))))))
            have s137 := (hg 137).trans (en rfl (en rfl (en rfl (en rfl (en rfl (en rfl (en rfl (en rfl (en rfl (en rfl (en rfl (en rfl (en rfl (en rfl (en rfl (en rfl (en rfl (en rfl (en rfl (en rfl s137))))))))))))))))))))
            have s138 := (hg 138).trans (en rfl (en rfl (en rfl (en rfl (en rfl (en rfl (en rfl (en rfl (en rfl (en rfl (en rfl (en rfl (en rfl (en rfl (en rfl (en rfl (en rfl (en rfl (en rfl (en rfl s138))))))))))))))))))))
            have s139 := (hg 139).trans (en rfl (en rfl (en rfl (en rfl (en rfl (en rfl (en rfl (en rfl (en rfl (en rfl (en rfl (en rfl (en rfl (en rfl (en rfl (en rfl (en rfl (en rfl (en rfl (en rfl s139))))))))))))))))))))
            have s148 := (hg 148).trans (en rfl (en rfl (en rfl (en rfl (en rfl (en rfl (en rfl (en rfl (en rfl (en rfl (en rfl (en rfl (en rfl (en rfl (en rfl (en rfl (en rfl (en rfl (en rfl (en rfl s148))))))))))))))))))))
            have s170 := (hg 170).trans es
            clear hg
            refine xc_cond s170 (fun hc => by cases hc) (fun _ => ?_)
            refine xc_skip ?_
            refine hK50 _ _ ?_
            refine xc_region ?_
            refine x_val (r_load h 5 rfl Try.isAgg3 s10 gc0) (nd_of rfl) rfl ?_
            refine x_val (r_add es ec (show _ = (((n + 1 : Nat) : Int) : Int) from by omega) (by unfold I64; omega)) (nd_of rfl) rfl ?_
            have h := SatL.closeRef (h.closeRow hrx).f1
            refine x_st (r_store h 2 rfl Try.sizeOf3 (en rfl (en rfl s10)) es rfl gc0) rfl (h.u2 sc0) ?_
            intro w h
            refine xw_nil ?_
            subst hlr2; exact roundR_normal h.f1 fun w h => ⟨rfl, SatL.app (SatL.closeN (k := k2 + 1) (n := n + 1) (by omega) (fun j h1 h2 => by omega) h.f2)⟩
        have h := h.f3
        have h := SatL.closeN (pl := pl2) (k := 0) (n := 0) (by omega) (fun j h1 h2 => absurd h2 (by omega)) h
        have h := h.f9
        have h := h.f9
        have h := h.f8
        have h := h.f5
        have h := h.f9
        have h := h.f8
        have h := h.f7
        have h := h.f7
        have h := h.f9
        have h := h.f9
        refine Calls.ret_mono (it_all (IL := ILp lp lr b10 b15 b4 pl2 fr2 (pt D (.deferred (some [])) :: Marks Ds :: Cells b2 #[.bool false] 4 :: Old W :: R)) (by omega) hR (fun M k w ho h => ((h.app).imp (nCell_step ho)).app) h) ?_; rintro _ w h; subst hlr; refine ⟨_, _, (fun e => by cases e), ((h.f6).f4), ?_⟩; intro w h
        refine hK41 _ _ _ ?_
        refine yc_seq (fun K hK52 => ?_)
        refine yc_block ?_
        have h := (h.f0).drop
        have h := h.f6
        have h := h.f1
        obtain ⟨n0, hn1, hn2, h⟩ := SatL.openN ((SatL.close (A := pt D _) (B := Marks Ds) h).f3)
        have h := (h.f2).drop
        obtain ⟨G53, hG53⟩ : ∃ g0 : Nat → Value, g0 = g := ⟨_, rfl⟩
        have zG53_0 : G53 0 = _ := (congrFun hG53 0).trans s0
        have zG53_2 : G53 2 = _ := (congrFun hG53 2).trans s2
        have zG53_3 : G53 3 = _ := (congrFun hG53 3).trans s3
        have zG53_4 : G53 4 = _ := (congrFun hG53 4).trans s4
        have zG53_6 : G53 6 = _ := (congrFun hG53 6).trans s6
        have zG53_7 : G53 7 = _ := (congrFun hG53 7).trans s7
        have zG53_10 : G53 10 = _ := (congrFun hG53 10).trans s10
        have zG53_22 : G53 22 = _ := (congrFun hG53 22).trans s22
        have zG53_28 : G53 28 = _ := (congrFun hG53 28).trans s28
        have zG53_29 : G53 29 = _ := (congrFun hG53 29).trans s29
        have zG53_30 : G53 30 = _ := (congrFun hG53 30).trans s30
        have zG53_31 : G53 31 = _ := (congrFun hG53 31).trans s31
        have zG53_135 : G53 135 = _ := (congrFun hG53 135).trans s135
        have zG53_137 : G53 137 = _ := (congrFun hG53 137).trans s137
        refine yc_loop (fun m ds f w => (∃ (n : Nat), m = pl2.length - n ∧ n ≤ pl2.length ∧ (∀ j, n ≤ j → j < pl2.length → pl2[j]? = some none) ∧ ds = (D :: Ds).map mark ∧ SatL E w (Cells b10 #[.int .i64 (n : Int)] 3 :: Marks (D :: Ds) :: I.Ar ba (plA pl2) fr2 :: RefA b15 pl2 fr2 :: Cells b4 #[.pointer (some ⟨b15, 0, none⟩)] 47 :: Cells b2 #[.bool false] 4 :: Old W :: R)) ∧ (f 0 = G53 0 ∧ f 2 = G53 2 ∧ f 3 = G53 3 ∧ f 4 = G53 4 ∧ f 6 = G53 6 ∧ f 7 = G53 7 ∧ f 10 = G53 10 ∧ f 22 = G53 22 ∧ f 28 = G53 28 ∧ f 29 = G53 29 ∧ f 30 = G53 30 ∧ f 31 = G53 31 ∧ f 135 = G53 135 ∧ f 137 = G53 137)) (pl2.length - n0) ⟨⟨n0, rfl, hn1, hn2, rfl, h⟩, ⟨congrFun hG53.symm 0, congrFun hG53.symm 2, congrFun hG53.symm 3, congrFun hG53.symm 4, congrFun hG53.symm 6, congrFun hG53.symm 7, congrFun hG53.symm 10, congrFun hG53.symm 22, congrFun hG53.symm 28, congrFun hG53.symm 29, congrFun hG53.symm 30, congrFun hG53.symm 31, congrFun hG53.symm 135, congrFun hG53.symm 137⟩⟩ ?_
        rintro m ds g w ⟨⟨n, hm, hn1, hn2, rfl, h⟩, ⟨y0, y2, y3, y4, y6, y7, y10, y22, y28, y29, y30, y31, y135, y137⟩⟩
        have s0 := y0.trans zG53_0
        have s2 := y2.trans zG53_2
        have s3 := y3.trans zG53_3
        have s4 := y4.trans zG53_4
        have s6 := y6.trans zG53_6
        have s7 := y7.trans zG53_7
        have s10 := y10.trans zG53_10
        have s22 := y22.trans zG53_22
        have s28 := y28.trans zG53_28
        have s29 := y29.trans zG53_29
        have s30 := y30.trans zG53_30
        have s31 := y31.trans zG53_31
        have s135 := y135.trans zG53_135
        have s137 := y137.trans zG53_137
        refine yc_seq (fun K hK54 => ?_)
        refine yc_seq (fun K hK55 => ?_)
        have h := h.f3
        obtain ⟨xs, ts, fs, h⟩ := h.openRef
        obtain ⟨gx, cx, rfl, _, _⟩ := (h.f1).rowVal
        refine yc_of_xc (xc_plan 7 [(0, 1), (1, 1), (2, 2), (3, 2), (4, 1), (5, 2), (6, 2)] (by kernel_rfl) rfl (by kernel_rfl) h ?_)
        have h := h.drew
        refine xp_load (i := 0) rfl (fun W hW => r_load hW 4 rfl Try.isAgg3 s10 gc0) rfl (fun _ _ _ hh => by first | exact bodyR_np hh | exact bodyY_np hh | exact hh) ?_
        refine xp_load (i := 1) rfl (fun W hW => r_load hW 7 rfl Try.isAgg47 (en rfl s4) gc0) rfl (fun _ _ _ hh => by first | exact bodyR_np hh | exact bodyY_np hh | exact hh) ?_
        refine xp_read (i := 2) rfl (fun W => r_nilCheck es) rfl (fun _ _ _ hh => by first | exact bodyR_np hh | exact bodyY_np hh | exact hh) ?_
        refine xp_read (i := 3) rfl (fun W => r_fieldAddr (o' := 0) Try.underlying51 rfl Try.sizeOf48 rfl es rfl) rfl (fun _ _ _ hh => by first | exact bodyR_np hh | exact bodyY_np hh | exact hh) ?_
        refine xp_load (i := 4) rfl (fun W hW => r_load hW 0 rfl Try.isAgg48 es gc0) rfl (fun _ _ _ hh => by first | exact bodyR_np hh | exact bodyY_np hh | exact hh) ?_
        refine xp_read (i := 5) rfl (fun W => r_len Try.underlying48 es) rfl (fun _ _ _ hh => by first | exact bodyR_np hh | exact bodyY_np hh | exact hh) ?_
        refine xp_read (i := 6) rfl (fun W => r_lss (en rfl (en rfl (en rfl (en rfl (en rfl es))))) es rfl) rfl (fun _ _ _ hh => by first | exact bodyR_np hh | exact bodyY_np hh | exact hh) ?_
        refine xp_nil ?_
        refine hK55 _ _ _ ?_
        refine yc_gen (fun g hg => ?_)
        have s0 := (hg 0).trans (en rfl (en rfl (en rfl (en rfl (en rfl (en rfl (en rfl s0)))))))
        have s2 := (hg 2).trans (en rfl (en rfl (en rfl (en rfl (en rfl (en rfl (en rfl s2)))))))
        have s3 := (hg 3).trans (en rfl (en rfl (en rfl (en rfl (en rfl (en rfl (en rfl s3)))))))
        have s4 := (hg 4).trans (en rfl (en rfl (en rfl (en rfl (en rfl (en rfl (en rfl s4)))))))
        have s6 := (hg 6).trans (en rfl (en rfl (en rfl (en rfl (en rfl (en rfl (en rfl s6)))))))
        have s7 := (hg 7).trans (en rfl (en rfl (en rfl (en rfl (en rfl (en rfl (en rfl s7)))))))
        have s10 := (hg 10).trans (en rfl (en rfl (en rfl (en rfl (en rfl (en rfl (en rfl s10)))))))
        have s22 := (hg 22).trans (en rfl (en rfl (en rfl (en rfl (en rfl (en rfl (en rfl s22)))))))
        have s28 := (hg 28).trans (en rfl (en rfl (en rfl (en rfl (en rfl (en rfl (en rfl s28)))))))
        have s29 := (hg 29).trans (en rfl (en rfl (en rfl (en rfl (en rfl (en rfl (en rfl s29)))))))
        have s30 := (hg 30).trans (en rfl (en rfl (en rfl (en rfl (en rfl (en rfl (en rfl s30)))))))
        have s31 := (hg 31).trans (en rfl (en rfl (en rfl (en rfl (en rfl (en rfl (en rfl s31)))))))
        have s135 := (hg 135).trans (en rfl (en rfl (en rfl (en rfl (en rfl (en rfl (en rfl s135)))))))
        have s137 := (hg 137).trans (en rfl (en rfl (en rfl (en rfl (en rfl (en rfl (en rfl s137)))))))
        have s179 := (hg 179).trans es
        clear hg
        refine yc_cond s179 (fun hc => ?_) (fun hc => ?_)
        ·
          refine yc_skip ?_
          refine hK54 _ _ _ ?_
          refine yc_seq (fun K hK56 => ?_)
          refine yc_block ?_
          refine yc_seq (fun K hK57 => ?_)
          have hlt : n < pl2.length := by have := of_decide_eq_true hc; omega
          have h := SatL.closeRef h
          refine yc_region ?_
          refine x_val (r_load h 4 rfl Try.isAgg47 s4 gc0) (nd_of rfl) rfl ?_
          refine x_val (r_load h 1 rfl Try.isAgg3 (en rfl s10) gc0) (nd_of rfl) rfl ?_
          refine x_enter (r_call Try.call21 (.cons (en rfl es) (.cons es .nil))) (nd_of rfl) rfl (has_val (hn2 n (by omega) hlt) h) ?_
          rintro _ w ⟨rfl, h⟩
          refine xw_nil ?_
          refine hK57 _ _ _ ?_
          refine yc_gen (fun g hg => ?_)
          have s0 := (hg 0).trans (en rfl (en rfl (en rfl s0)))
          have s2 := (hg 2).trans (en rfl (en rfl (en rfl s2)))
          have s3 := (hg 3).trans (en rfl (en rfl (en rfl s3)))
          have s4 := (hg 4).trans (en rfl (en rfl (en rfl s4)))
          have s6 := (hg 6).trans (en rfl (en rfl (en rfl s6)))
          have s7 := (hg 7).trans (en rfl (en rfl (en rfl s7)))
          have s10 := (hg 10).trans (en rfl (en rfl (en rfl s10)))
          have s22 := (hg 22).trans (en rfl (en rfl (en rfl s22)))
          have s28 := (hg 28).trans (en rfl (en rfl (en rfl s28)))
          have s29 := (hg 29).trans (en rfl (en rfl (en rfl s29)))
          have s30 := (hg 30).trans (en rfl (en rfl (en rfl s30)))
          have s31 := (hg 31).trans (en rfl (en rfl (en rfl s31)))
          have s135 := (hg 135).trans (en rfl (en rfl (en rfl s135)))
          have s137 := (hg 137).trans (en rfl (en rfl (en rfl s137)))
          have s179 := (hg 179).trans (en rfl (en rfl (en rfl s179)))
          have s184 := (hg 184).trans es
          clear hg
          refine yc_cond s184 (fun hc => by cases hc) (fun _ => ?_)
          refine yc_skip ?_
          refine hK56 _ _ _ ?_
          refine yc_region ?_
          refine x_val (r_load h 1 rfl Try.isAgg3 s10 gc0) (nd_of rfl) rfl ?_
          refine x_val (r_add es ec (show _ = (((n + 1 : Nat) : Int) : Int) from by omega) (by unfold I64; omega)) (nd_of rfl) rfl ?_
          refine x_st (r_store h 1 rfl Try.sizeOf3 (en rfl (en rfl s10)) es rfl gc0) rfl (h.u1 sc0) ?_
          intro w h
          refine xw_nil ?_
          exact ⟨pl2.length - (n + 1), by omega, ⟨n + 1, rfl, by omega, fun j h1 h2 => hn2 j (by omega) h2, rfl, h.f3.f3.f3⟩, ⟨((en rfl (en rfl s0))).trans zG53_0.symm, ((en rfl (en rfl s2))).trans zG53_2.symm, ((en rfl (en rfl s3))).trans zG53_3.symm, ((en rfl (en rfl s4))).trans zG53_4.symm, ((en rfl (en rfl s6))).trans zG53_6.symm, ((en rfl (en rfl s7))).trans zG53_7.symm, ((en rfl (en rfl s10))).trans zG53_10.symm, ((en rfl (en rfl s22))).trans zG53_22.symm, ((en rfl (en rfl s28))).trans zG53_28.symm, ((en rfl (en rfl s29))).trans zG53_29.symm, ((en rfl (en rfl s30))).trans zG53_30.symm, ((en rfl (en rfl s31))).trans zG53_31.symm, ((en rfl (en rfl s135))).trans zG53_135.symm, ((en rfl (en rfl s137))).trans zG53_137.symm⟩⟩
        ·
          refine yc_exit ?_
          refine hK52 _ _ _ ?_
          refine yc_seq (fun K hK58 => ?_)
          have h := SatL.closeRef h
          refine yc_region ?_
          refine x_val (r_move s3) (nd_of rfl) rfl ?_
          refine x_enter (r_call Try.call27 (.cons es .nil)) (nd_of rfl) rfl (all_mk h) ?_
          rintro _ w ⟨c2, rfl, h⟩
          refine xw_nil ?_
          refine hK58 _ _ _ ?_
          refine yc_gen (fun g hg => ?_)
          have s0 := (hg 0).trans (en rfl (en rfl s0))
          have s2 := (hg 2).trans (en rfl (en rfl s2))
          have s3 := (hg 3).trans (en rfl (en rfl s3))
          have s4 := (hg 4).trans (en rfl (en rfl s4))
          have s6 := (hg 6).trans (en rfl (en rfl s6))
          have s7 := (hg 7).trans (en rfl (en rfl s7))
          have s10 := (hg 10).trans (en rfl (en rfl s10))
          have s22 := (hg 22).trans (en rfl (en rfl s22))
          have s28 := (hg 28).trans (en rfl (en rfl s28))
          have s29 := (hg 29).trans (en rfl (en rfl s29))
          have s30 := (hg 30).trans (en rfl (en rfl s30))
          have s31 := (hg 31).trans (en rfl (en rfl s31))
          have s135 := (hg 135).trans (en rfl (en rfl s135))
          have s137 := (hg 137).trans (en rfl (en rfl s137))
          have s179 := (hg 179).trans (en rfl (en rfl s179))
          have s186 := (hg 186).trans es
          clear hg
          refine yc_rangeX s186 Try.call30 h ?_
          intro lp D2 fn tmps w htn htg h
          obtain ⟨lr, hlr, h⟩ := h.loopAbs
          have hR : ∀ (M2 : List SProp) (k2 : Nat) (v : Int) (w : World), SatL E w (M2 ++ pt lp (.loop lr) :: pt D2 (.deferred (some [])) :: RefA b15 pl2 fr2 :: Cells b10 #[.int .i64 (n : Int)] 3 :: Marks (D :: Ds) :: Cells b4 #[.pointer (some ⟨b15, 0, none⟩)] 47 :: Cells b2 #[.bool false] 4 :: Old W :: R) → FnOk Try.prog (.func (.yield lp) #[] #[]) [.int .i64 (k2 : Int), .int .i64 v] w (fun u w' => u = .bool false ∧ SatL E w' (M2 ++ pt lp (.loop { lr with state := .done, pending := some (.exit 9) }) :: pt D2 (.deferred (some [])) :: RefA b15 pl2 fr2 :: Cells b10 #[.int .i64 (n : Int)] 3 :: Marks (D :: Ds) :: Cells b4 #[.pointer (some ⟨b15, 0, none⟩)] 47 :: Cells b2 #[.bool false] 4 :: Old W :: R)) := by
            intro M2 k2 v w h; replace h := h.app
            subst hlr
            refine fnOk_round h rfl htn ?_
            refine xc_gen (fun g hg => ?_)
            have s0 := (hg 0).trans ((fold_get rfl).trans ((htg 0).trans s0))
            have s2 := (hg 2).trans ((fold_get rfl).trans ((htg 2).trans s2))
            have s3 := (hg 3).trans ((fold_get rfl).trans ((htg 3).trans s3))
            have s4 := (hg 4).trans ((fold_get rfl).trans ((htg 4).trans s4))
            have s6 := (hg 6).trans ((fold_get rfl).trans ((htg 6).trans s6))
            have s7 := (hg 7).trans ((fold_get rfl).trans ((htg 7).trans s7))
            have s10 := (hg 10).trans ((fold_get rfl).trans ((htg 10).trans s10))
            have s22 := (hg 22).trans ((fold_get rfl).trans ((htg 22).trans s22))
            have s28 := (hg 28).trans ((fold_get rfl).trans ((htg 28).trans s28))
            have s29 := (hg 29).trans ((fold_get rfl).trans ((htg 29).trans s29))
            have s30 := (hg 30).trans ((fold_get rfl).trans ((htg 30).trans s30))
            have s31 := (hg 31).trans ((fold_get rfl).trans ((htg 31).trans s31))
            have s135 := (hg 135).trans ((fold_get rfl).trans ((htg 135).trans s135))
            have s137 := (hg 137).trans ((fold_get rfl).trans ((htg 137).trans s137))
            have s179 := (hg 179).trans ((fold_get rfl).trans ((htg 179).trans s179))
            have s186 := (hg 186).trans ((fold_get rfl).trans ((htg 186).trans s186))
            have s187 := (hg 187).trans (fold2_0 (by rw [htn]; decide) (by decide))
            have s188 := (hg 188).trans (fold2_1 (by rw [htn]; decide))
            clear hg
            refine xc_skip ?_
            refine thenR_mk ⟨_, _, rfl, h, fun w h => ?_⟩
            obtain ⟨lr2, hlr2, h⟩ := h.loopAbs
            refine xc_block ?_
            refine xc_exit ?_
            subst hlr2; exact roundR_exit h fun w h => ⟨rfl, SatL.app (M := M2) h⟩
          have h := h.f9
          have h := h.f9
          have h := h.f9
          have h := h.f8
          have h := h.f8
          have h := h.f8
          have h := h.f7
          have h := h.f7
          have h := h.f9
          have h := h.f9
          refine Calls.ret_mono (it_stop2 (by rw [hlr]) (by rw [hlr]) (by omega) hR h) ?_; rintro _ w ⟨r, hb, hp, h⟩; refine ⟨r, _, hb, hp, ((h.f3).f1), ?_⟩; intro w h
          refine hK10 _ _ _ ?_
          have h := h.f5
          have h := h.f1
          have h := SatL.close (A := pt D2 _) (B := Marks (D :: Ds)) h
          have h := (h.f1).drop
          have h := (h.f3).drop
          refine yc_region ?_
          refine x_val (r_add s30 ec (show _ = (((k + 1 : Nat) : Int) : Int) from by omega) (by unfold I64; omega)) (nd_of rfl) rfl ?_
          refine x_val (r_move es) (nd_of rfl) rfl ?_
          refine xw_nil ?_
          exact ⟨os.length - (k + 1), by omega, ⟨k + 1, pl2, fr2, D2 :: D :: Ds, rfl, by omega, hpk2, hcnt2, es, rfl, h⟩, ⟨((en rfl (en rfl s0))).trans zG7_0.symm, ((en rfl (en rfl s2))).trans zG7_2.symm, ((en rfl (en rfl s3))).trans zG7_3.symm, ((en rfl (en rfl s4))).trans zG7_4.symm, ((en rfl (en rfl s22))).trans zG7_22.symm, ((en rfl (en rfl s28))).trans zG7_28.symm, ((en rfl (en rfl s29))).trans zG7_29.symm⟩⟩
  ·
    refine yc_exit ?_
    refine hK5 _ _ _ ?_
    refine yc_seq (fun K hK59 => ?_)
    refine yc_region ?_
    refine x_enter (r_call Try.call7 .nil) (nd_of rfl) rfl (known_ok h) ?_
    rintro _ w ⟨rfl, h⟩
    have h := h.f4
    have h := h.f4
    have h := h.f4
    have h := h.f4
    have h := h.f4
    refine x_st (r_store h 4 rfl Try.sizeOf4 (en rfl s2) es rfl gc0) rfl (h.u4 sc0) ?_
    intro w h
    refine xw_nil ?_
    refine hK59 _ _ _ ?_
    refine yc_gen (fun g hg => ?_)
    have s0 := (hg 0).trans (en rfl s0)
    have s2 := (hg 2).trans (en rfl s2)
    have s3 := (hg 3).trans (en rfl s3)
    have s4 := (hg 4).trans (en rfl s4)
    have s22 := (hg 22).trans (en rfl s22)
    have s28 := (hg 28).trans (en rfl s28)
    have s29 := (hg 29).trans (en rfl s29)
    have s30 := (hg 30).trans (en rfl s30)
    have s31 := (hg 31).trans (en rfl s31)
    clear hg
    refine yc_ret ?_
    refine bodyY_marks Ds h ?_; intro w h; refine bodyY_nil ?_
    refine bodyR_c rfl s2 (lv_one h 3 rfl Try.isAgg4 gc0) ?_
    exact ⟨rfl, h.drop.drop.drop.drop⟩
theorem plays_long {W : World} (hv : OpsAt W v os) (hlen : 200 < os.length) (h : SatL E w (Old W :: R)) : Calls Try.prog 5 #[v] w (Ret fun u w' => u = .bool true ∧ SatL E w' (Old W :: R)) := by
  obtain ⟨a, cap, rfl, _, _, hread⟩ := hv
  have zA : ∀ w, (zeroValue 51).run Try.prog w = .ok (.agg #[.slice none 0 0, .slice none 0 0, .slice none 0 0]) w := fun _ => by kernel_rfl
  refine calls_x Try.func5 rfl Try.ntmps5 rfl ?_
  refine xc_gen (fun g hg => ?_)
  have s0 := (hg 0).trans arg0
  clear hg
  refine xc_seq (fun K hK1 => ?_)
  refine xc_region ?_
  refine x_alloc1 h Try.zeroValue4 rfl rfl ?_
  intro b2 w h
  refine xw_nil ?_
  refine hK1 _ _ ?_
  refine xc_gen (fun g hg => ?_)
  have s0 := (hg 0).trans (en rfl s0)
  have s2 := (hg 2).trans es
  clear hg
  refine xc_seq (fun K hK2 => ?_)
  refine xc_region ?_
  refine x_enter (r_call Try.call8 .nil) (nd_of rfl) rfl (I.new_ok h) ?_
  rintro _ w ⟨ba, rfl, h⟩
  refine x_val (r_build03 Try.underlying51 zA Try.sizeOf48 Try.sizeOf49 Try.sizeOf22) (nd_of rfl) rfl ?_
  refine x_boxA h es rfl ?_
  intro b15 w h
  refine x_alloc1 h Try.zeroValue47 rfl rfl ?_
  intro b4 w h
  refine x_val (r_assign (en rfl (en rfl (en rfl es)))) (nd_of rfl) rfl ?_
  refine x_st (r_store h 0 rfl Try.sizeOf47 (en rfl es) (en rfl (en rfl es)) rfl gc0) rfl (h.u0 sc0) ?_
  intro w h
  refine xw_nil ?_
  refine hK2 _ _ ?_
  refine xc_gen (fun g hg => ?_)
  have s0 := (hg 0).trans (en rfl (en rfl (en rfl (en rfl (en rfl s0)))))
  have s2 := (hg 2).trans (en rfl (en rfl (en rfl (en rfl (en rfl s2)))))
  have s3 := (hg 3).trans es
  have s4 := (hg 4).trans (en rfl es)
  clear hg
  refine xc_seq (fun K hK3 => ?_)
  refine xc_seq (fun K hK4 => ?_)
  refine xc_region ?_
  refine x_val (r_move s3) (nd_of rfl) rfl ?_
  refine x_val (r_eqnil Try.underlying24 es ec (r := false) rfl) (nd_of rfl) rfl ?_
  refine x_val (r_move es) (nd_of rfl) rfl ?_
  refine x_take (d := 18) rfl rfl es ?_
  refine x_val (r_move (en rfl (en rfl (en rfl s0)))) (nd_of rfl) rfl ?_
  refine x_take (d := 18) rfl rfl (en rfl es) ?_
  refine x_val (r_len Try.underlying32 es) (nd_of rfl) rfl ?_
  refine x_take (d := 18) rfl rfl (en rfl (en rfl es)) ?_
  refine x_val (r_gtr es ec (decide_eq_true (by omega))) (nd_of rfl) rfl ?_
  refine x_val (r_pick_f (en rfl (en rfl (en rfl es))) es) (nd_of rfl) rfl ?_
  refine xw_nil ?_
  refine hK4 _ _ ?_
  refine xc_gen (fun g hg => ?_)
  have s0 := (hg 0).trans (en rfl (en rfl (en rfl (en rfl (en rfl (en rfl (en rfl s0)))))))
  have s2 := (hg 2).trans (en rfl (en rfl (en rfl (en rfl (en rfl (en rfl (en rfl s2)))))))
  have s3 := (hg 3).trans (en rfl (en rfl (en rfl (en rfl (en rfl (en rfl (en rfl s3)))))))
  have s4 := (hg 4).trans (en rfl (en rfl (en rfl (en rfl (en rfl (en rfl (en rfl s4)))))))
  have s22 := (hg 22).trans es
  clear hg
  refine xc_cond s22 (fun _ => ?_) (fun hc => by cases hc)
  refine xc_seq (fun K hK5 => ?_)
  refine xc_region ?_
  refine x_val (r_move s3) (nd_of rfl) rfl ?_
  refine x_val (r_nenil Try.underlying24 es ec (r := true) rfl) (nd_of rfl) rfl ?_
  refine x_val (r_move es) (nd_of rfl) rfl ?_
  refine x_take (d := 25) rfl rfl es ?_
  refine x_enter (r_call Try.call7 .nil) (nd_of rfl) rfl (known_ok h) ?_
  rintro _ w ⟨rfl, h⟩
  refine x_val (r_pick_t (en rfl es) es) (nd_of rfl) rfl ?_
  refine x_st (r_store h 3 rfl Try.sizeOf4 (en rfl (en rfl (en rfl (en rfl (en rfl s2))))) es rfl gc0) rfl (h.u3 sc0) ?_
  intro w h
  refine xw_nil ?_
  refine hK5 _ _ ?_
  refine xc_gen (fun g hg => ?_)
  have s0 := (hg 0).trans (en rfl (en rfl (en rfl (en rfl (en rfl s0)))))
  have s2 := (hg 2).trans (en rfl (en rfl (en rfl (en rfl (en rfl s2)))))
  have s3 := (hg 3).trans (en rfl (en rfl (en rfl (en rfl (en rfl s3)))))
  have s4 := (hg 4).trans (en rfl (en rfl (en rfl (en rfl (en rfl s4)))))
  have s22 := (hg 22).trans (en rfl (en rfl (en rfl (en rfl (en rfl s22)))))
  clear hg
  refine xc_ret ?_
  refine bodyR_c rfl s2 (lv_one h 3 rfl Try.isAgg4 gc0) ?_
  exact ⟨rfl, h.drop.drop.f1.drop.drop⟩
theorem plays_all {W : World} (hv : OpsAt W v os) (h : SatL E w [Old W]) : Calls Try.prog 5 #[v] w (Ret fun u w' => u = .bool true ∧ SatL E w' [Old W]) := by
  rcases Nat.lt_or_ge 200 os.length with h1 | h1
  · exact plays_long hv h1 h
  · exact plays_ok hv h1 h
end
end Go.Proofs.Ytfmhcefjbghhlaa
