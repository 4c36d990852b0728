/-
ArenaNone: the walk.
-/
import Derived.Test.YtfmhcefjbghhlaaY3
namespace Go.Proofs.Ytfmhcefjbghhlaa
open Go Go.RowKit
section
variable {P : Program} {f : Nat → Value} {w : World} {d : Option Tmp} {ty : TypeId} {pos : String} {af : Array Edge} {g : Option (Tmp × Bool)}
theorem r_eqnilF {t yt : TypeId} {ps rs : Array TypeId} {vd : Bool} {x y : Operand} {fn : Fn} {us vs : Array Value} (hu : P.underlying t = some (.func ps rs vd)) (hx : ev f x = .func fn us vs) (hy : ev f y = .nilFunc) :
    (execOp (ev f) ⟨d, .binOp .eql t x y yt, ty, pos, af, g⟩).run P w = .ok (.value (.bool false)) w := by
  have e : (Op.equal t (.func fn us vs) .nilFunc).run P w = .ok false w := by
    have e1 : ∀ d, (Op.equalIn (d + 1) t (.func fn us vs) .nilFunc).run P w = .ok false w := fun d => by simp [Op.equalIn, run_underlying hu]
    exact e1 9999
  simp [execOp, hx, hy, eqGuard, binOp, e]
theorem append_none_run {t ty e : TypeId} {i : TypeInfo} {base a2 : Option Addr} {sLen sCap c2 : Nat} (ht : P.underlying t = some (.slice e)) (hi : P.info? e = some i) (hle : sLen ≤ sCap) :
    (Builtin.append_ #[t, t] ty #[.slice base sLen sCap, .slice a2 0 c2]).run P w = .ok (.slice base sLen sCap) w := by
  have hl : ∀ (x : Addr), (loadCells x 0).run P w = .ok #[] w := fun x => by simpa using run_loadCells_list (P := P) w x [] (by simp)
  cases base <;> cases a2 <;> simp [Builtin.append_, run_underlying ht, sizeOf, typeInfo, hi, Builtin.lenOf, Builtin.firstCells, hle, storeCells, hl]
end
section
variable {E : Env} {R : List SProp} {w : World} {y : Value} {b ba : Nat} {i x : Int}
theorem it_empty (h : SatL E w (Cells b #[.pointer (some ⟨ba, 0, none⟩)] 24 :: I.Ar ba [] [] :: R)) : Calls Try.prog 30 #[y, .pointer (some ⟨b, 0, none⟩)] w (Ret fun _ w' => SatL E w' (Cells b #[.pointer (some ⟨ba, 0, none⟩)] 24 :: I.Ar ba [] [] :: R)) := by
  obtain ⟨inf, hinf⟩ : ∃ inf, Try.prog.info? 66 = some inf := Option.isSome_iff_exists.1 (by kernel_rfl)
  obtain ⟨ps, fs, hp, h⟩ := (h.f1).openArena
  obtain ⟨gp, cp, rfl, _, _⟩ := (h.f1).rowVal
  refine calls_x Try.func30 rfl Try.ntmps30 rfl ?_
  refine xc_gen (fun g hg => ?_)
  have s0 := (hg 0).trans arg0
  have s1 := (hg 1).trans arg1
  clear hg
  refine xc_seq (fun K hK1 => ?_)
  refine xc_seq (fun K hK2 => ?_)
  refine xc_region ?_
  refine x_val (r_load h 3 rfl Try.isAgg24 s1 gc0) (nd_of rfl) rfl ?_
  refine x_val (r_eqnil Try.underlying24 es ec (r := false) rfl) (nd_of rfl) rfl ?_
  refine xw_nil ?_
  refine hK2 _ _ ?_
  refine xc_gen (fun g hg => ?_)
  have s0 := (hg 0).trans (en rfl (en rfl s0))
  have s1 := (hg 1).trans (en rfl (en rfl s1))
  have s6 := (hg 6).trans es
  clear hg
  refine xc_cond s6 (fun hc => by cases hc) (fun _ => ?_)
  refine xc_skip ?_
  refine hK1 _ _ ?_
  refine xc_seq (fun K hK3 => ?_)
  refine xc_region ?_
  refine x_bslice0 h Try.underlying60 Try.sizeOf66 rfl ?_; intro bn w h; have h := h.drop
  refine x_val (r_load h 3 rfl Try.isAgg24 (en rfl s1) gc0) (nd_of rfl) rfl ?_
  refine x_val (r_nilCheck es) (nd_of rfl) rfl ?_
  refine x_val (r_fieldAddr (o' := 0) Try.underlying62 rfl Try.sizeOf60 rfl es rfl) (nd_of rfl) rfl ?_
  refine x_val (r_load h 0 rfl Try.isAgg60 es gc0) (nd_of rfl) rfl ?_
  refine x_val (r_append (en rfl (en rfl (en rfl (en rfl es)))) es (append_none_run Try.underlying60 hinf (Nat.le_refl _))) (nd_of rfl) rfl ?_
  refine x_val (r_len Try.underlying60 es) (nd_of rfl) rfl ?_
  refine x_val (r_move ec) (nd_of rfl) rfl ?_
  refine xw_nil ?_
  refine hK3 _ _ ?_
  refine xc_gen (fun g hg => ?_)
  have s0 := (hg 0).trans (en rfl (en rfl (en rfl (en rfl (en rfl (en rfl (en rfl (en rfl s0))))))))
  have s1 := (hg 1).trans (en rfl (en rfl (en rfl (en rfl (en rfl (en rfl (en rfl (en rfl s1))))))))
  have s6 := (hg 6).trans (en rfl (en rfl (en rfl (en rfl (en rfl (en rfl (en rfl (en rfl s6))))))))
  have s12 := (hg 12).trans (en rfl (en rfl es))
  have s13 := (hg 13).trans (en rfl es)
  have s14 := (hg 14).trans es
  clear hg
  refine xc_block ?_
  obtain ⟨G4, hG4⟩ : ∃ g0 : Nat → Value, g0 = g := ⟨_, rfl⟩
  have zG4_0 : G4 0 = _ := (congrFun hG4 0).trans s0
  have zG4_1 : G4 1 = _ := (congrFun hG4 1).trans s1
  have zG4_6 : G4 6 = _ := (congrFun hG4 6).trans s6
  have zG4_12 : G4 12 = _ := (congrFun hG4 12).trans s12
  have zG4_13 : G4 13 = _ := (congrFun hG4 13).trans s13
  refine xc_loop (fun m f w => (m = 0 ∧ f 14 = .int .i64 0 ∧ SatL E w (Cells ba #[.slice gp [].length cp, fs] 62 :: Row 66 (I.KN + 1) (.slice gp [].length cp) [].length (placesC I.zN []) :: Row 3 1 fs [].length (frC []) :: Cells b #[.pointer (some ⟨ba, 0, none⟩)] 24 :: R)) ∧ (f 0 = G4 0 ∧ f 1 = G4 1 ∧ f 6 = G4 6 ∧ f 12 = G4 12 ∧ f 13 = G4 13)) (0) ⟨⟨rfl, s14, h⟩, ⟨congrFun hG4.symm 0, congrFun hG4.symm 1, congrFun hG4.symm 6, congrFun hG4.symm 12, congrFun hG4.symm 13⟩⟩ ?_
  rintro m g w ⟨⟨hm, s14, h⟩, ⟨y0, y1, y6, y12, y13⟩⟩
  have s0 := y0.trans zG4_0
  have s1 := y1.trans zG4_1
  have s6 := y6.trans zG4_6
  have s12 := y12.trans zG4_12
  have s13 := y13.trans zG4_13
  refine xc_seq (fun K hK5 => ?_)
  refine xc_region ?_
  refine x_val (r_lss s14 s13 (decide_eq_false (by omega))) (nd_of rfl) rfl ?_
  refine xw_nil ?_
  refine hK5 _ _ ?_
  refine xc_gen (fun g hg => ?_)
  have s0 := (hg 0).trans (en rfl s0)
  have s1 := (hg 1).trans (en rfl s1)
  have s6 := (hg 6).trans (en rfl s6)
  have s12 := (hg 12).trans (en rfl s12)
  have s13 := (hg 13).trans (en rfl s13)
  have s14 := (hg 14).trans (en rfl s14)
  have s15 := (hg 15).trans es
  clear hg
  refine xc_seq (fun K hK6 => ?_)
  refine xc_cond s15 (fun hc => by cases hc) (fun _ => ?_)
  refine xc_exit ?_
  refine bodyR_0 rfl ?_
  exact (SatL.closeArena hp h).f1
theorem none_ok {W : World} (h : SatL E w (Old W :: R)) : Calls Try.prog 6 #[.int .i64 i, .int .i64 x] w (Ret fun u w' => u = .bool true ∧ SatL E w' (Old W :: R)) := by
  have zA : ∀ w, (zeroValue 62).run Try.prog w = .ok (.agg #[.slice none 0 0, .slice none 0 0]) w := fun _ => by kernel_rfl
  have hno : ∀ j : Int, ¬ I.has [] j := by rintro j ⟨n, c, e, hh⟩; simp at hh
  refine calls_y Try.func6 rfl Try.ntmps6 rfl ?_
  refine yc_gen (fun g hg => ?_)
  have s0 := (hg 0).trans arg0
  have s1 := (hg 1).trans arg1
  clear hg
  refine yc_seq (fun K hK1 => ?_)
  refine yc_region ?_
  refine x_alloc1 h Try.zeroValue4 rfl rfl ?_
  intro b4 w h
  refine xw_nil ?_
  refine hK1 _ _ _ ?_
  refine yc_gen (fun g hg => ?_)
  have s0 := (hg 0).trans (en rfl s0)
  have s1 := (hg 1).trans (en rfl s1)
  have s4 := (hg 4).trans es
  clear hg
  refine yc_seq (fun K hK2 => ?_)
  refine yc_region ?_
  refine x_val (r_assign ec) (nd_of rfl) rfl ?_
  refine xw_nil ?_
  refine hK2 _ _ _ ?_
  refine yc_gen (fun g hg => ?_)
  have s0 := (hg 0).trans (en rfl s0)
  have s1 := (hg 1).trans (en rfl s1)
  have s4 := (hg 4).trans (en rfl s4)
  have s5 := (hg 5).trans es
  clear hg
  refine yc_seq (fun K hK3 => ?_)
  refine yc_region ?_
  refine x_allocA h zA rfl ?_
  intro b6 w h
  refine xw_nil ?_
  refine hK3 _ _ _ ?_
  refine yc_gen (fun g hg => ?_)
  have s0 := (hg 0).trans (en rfl s0)
  have s1 := (hg 1).trans (en rfl s1)
  have s4 := (hg 4).trans (en rfl s4)
  have s5 := (hg 5).trans (en rfl s5)
  have s6 := (hg 6).trans es
  clear hg
  refine yc_seq (fun K hK4 => ?_)
  refine yc_region ?_
  refine x_val (r_move s5) (nd_of rfl) rfl ?_
  refine x_val (r_move (en rfl s0)) (nd_of rfl) rfl ?_
  refine x_enter (r_call Try.call25 (.cons (en rfl es) (.cons es .nil))) (nd_of rfl) rfl (at_nil h) ?_
  rintro _ w ⟨rfl, h⟩
  have h : SatL E w (I.Ar b6 [] [] :: Cells b4 #[.bool false] 4 :: Old W :: R) := SatL.closeArena ⟨I.zN_ok, by simp, by simp, List.nodup_nil⟩ ((h.rowNil (e := 3) (sz := 1)).f1 |> fun h => (h.rowNil (e := 66) (sz := 2)).f1 |> fun h => h)
  refine x_val (r_move es) (nd_of rfl) rfl ?_
  refine x_val (r_extract es gc0) (nd_of rfl) rfl ?_
  refine x_val (r_extract (en rfl es) gc1) (nd_of rfl) rfl ?_
  refine x_val (r_assign (en rfl es)) (nd_of rfl) rfl ?_
  refine x_val (r_assign (en rfl es)) (nd_of rfl) rfl ?_
  refine xw_nil ?_
  refine hK4 _ _ _ ?_
  refine yc_gen (fun g hg => ?_)
  have s0 := (hg 0).trans (en rfl (en rfl (en rfl (en rfl (en rfl (en rfl (en rfl (en rfl s0))))))))
  have s1 := (hg 1).trans (en rfl (en rfl (en rfl (en rfl (en rfl (en rfl (en rfl (en rfl s1))))))))
  have s4 := (hg 4).trans (en rfl (en rfl (en rfl (en rfl (en rfl (en rfl (en rfl (en rfl s4))))))))
  have s5 := (hg 5).trans (en rfl (en rfl (en rfl (en rfl (en rfl (en rfl (en rfl (en rfl s5))))))))
  have s6 := (hg 6).trans (en rfl (en rfl (en rfl (en rfl (en rfl (en rfl (en rfl (en rfl s6))))))))
  have s8 := (hg 8).trans es
  clear hg
  refine yc_seq (fun K hK5 => ?_)
  refine yc_seq (fun K hK6 => ?_)
  refine yc_region ?_
  refine x_val (r_move s5) (nd_of rfl) rfl ?_
  refine x_enter (r_call Try.call27 (.cons es .nil)) (nd_of rfl) rfl (all_mk h) ?_
  rintro _ w ⟨c1, rfl, h⟩
  refine x_enter (r_call Try.call27 (.cons (en rfl (en rfl s6)) .nil)) (nd_of rfl) rfl (all_mk h) ?_
  rintro _ w ⟨c2, rfl, h⟩
  refine x_bsliceL (c := #[.func (.func 30) #[] #[.pointer (some ⟨c1, 0, none⟩)], .func (.func 30) #[] #[.pointer (some ⟨c2, 0, none⟩)]]) (vs := [(0, (.func (.func 30) #[] #[.pointer (some ⟨c1, 0, none⟩)])), (1, (.func (.func 30) #[] #[.pointer (some ⟨c2, 0, none⟩)]))]) h Try.underlying63 Try.sizeOf58 Try.zeroValue58 rfl (by first | kernel_rfl | rfl | simp [Instr.fill]) rfl rfl rfl ?_; intro bs w h
  refine x_val (r_len Try.underlying63 es) (nd_of rfl) rfl ?_
  refine x_val (r_move ec) (nd_of rfl) rfl ?_
  refine xw_nil ?_
  refine hK6 _ _ _ ?_
  refine yc_gen (fun g hg => ?_)
  have s0 := (hg 0).trans (en rfl (en rfl (en rfl (en rfl (en rfl (en rfl s0))))))
  have s1 := (hg 1).trans (en rfl (en rfl (en rfl (en rfl (en rfl (en rfl s1))))))
  have s4 := (hg 4).trans (en rfl (en rfl (en rfl (en rfl (en rfl (en rfl s4))))))
  have s5 := (hg 5).trans (en rfl (en rfl (en rfl (en rfl (en rfl (en rfl s5))))))
  have s6 := (hg 6).trans (en rfl (en rfl (en rfl (en rfl (en rfl (en rfl s6))))))
  have s8 := (hg 8).trans (en rfl (en rfl (en rfl (en rfl (en rfl (en rfl s8))))))
  have s20 := (hg 20).trans (en rfl (en rfl es))
  have s21 := (hg 21).trans (en rfl es)
  have s22 := (hg 22).trans es
  clear hg
  refine yc_block ?_
  obtain ⟨G7, hG7⟩ : ∃ g0 : Nat → Value, g0 = g := ⟨_, rfl⟩
  have zG7_0 : G7 0 = _ := (congrFun hG7 0).trans s0
  have zG7_1 : G7 1 = _ := (congrFun hG7 1).trans s1
  have zG7_4 : G7 4 = _ := (congrFun hG7 4).trans s4
  have zG7_5 : G7 5 = _ := (congrFun hG7 5).trans s5
  have zG7_6 : G7 6 = _ := (congrFun hG7 6).trans s6
  have zG7_8 : G7 8 = _ := (congrFun hG7 8).trans s8
  have zG7_20 : G7 20 = _ := (congrFun hG7 20).trans s20
  have zG7_21 : G7 21 = _ := (congrFun hG7 21).trans s21
  refine yc_loop (fun m ds f w => (∃ (k : Nat) (Ds : List Nat), m = 2 - k ∧ k ≤ 2 ∧ f 22 = .int .i64 (k : Int) ∧ ds = Ds.map mark ∧ SatL E w (Marks Ds :: Cells bs #[.func (.func 30) #[] #[.pointer (some ⟨c1, 0, none⟩)], .func (.func 30) #[] #[.pointer (some ⟨c2, 0, none⟩)]] 58 :: Cells c2 #[.pointer (some ⟨b6, 0, none⟩)] 24 :: Cells c1 #[.pointer none] 24 :: I.Ar b6 [] [] :: Cells b4 #[.bool false] 4 :: Old W :: R)) ∧ (f 0 = G7 0 ∧ f 1 = G7 1 ∧ f 4 = G7 4 ∧ f 5 = G7 5 ∧ f 6 = G7 6 ∧ f 8 = G7 8 ∧ f 20 = G7 20 ∧ f 21 = G7 21)) (2) ⟨⟨0, [], by omega, by omega, s22, rfl, h.addPure trivial⟩, ⟨congrFun hG7.symm 0, congrFun hG7.symm 1, congrFun hG7.symm 4, congrFun hG7.symm 5, congrFun hG7.symm 6, congrFun hG7.symm 8, congrFun hG7.symm 20, congrFun hG7.symm 21⟩⟩ ?_
  rintro m ds g w ⟨⟨k, Ds, hm, hk, s22, rfl, h⟩, ⟨y0, y1, y4, y5, y6, y8, y20, y21⟩⟩
  have s0 := y0.trans zG7_0
  have s1 := y1.trans zG7_1
  have s4 := y4.trans zG7_4
  have s5 := y5.trans zG7_5
  have s6 := y6.trans zG7_6
  have s8 := y8.trans zG7_8
  have s20 := y20.trans zG7_20
  have s21 := y21.trans zG7_21
  refine yc_seq (fun K hK8 => ?_)
  refine yc_region ?_
  refine x_val (r_lss s22 s21 rfl) (nd_of rfl) rfl ?_
  refine xw_nil ?_
  refine hK8 _ _ _ ?_
  refine yc_gen (fun g hg => ?_)
  have s0 := (hg 0).trans (en rfl s0)
  have s1 := (hg 1).trans (en rfl s1)
  have s4 := (hg 4).trans (en rfl s4)
  have s5 := (hg 5).trans (en rfl s5)
  have s6 := (hg 6).trans (en rfl s6)
  have s8 := (hg 8).trans (en rfl s8)
  have s20 := (hg 20).trans (en rfl s20)
  have s21 := (hg 21).trans (en rfl s21)
  have s22 := (hg 22).trans (en rfl s22)
  have s23 := (hg 23).trans es
  clear hg
  refine yc_seq (fun K hK9 => ?_)
  refine yc_cond s23 (fun hc => ?_) (fun hc => ?_)
  ·
    rcases (show k = 0 ∨ k = 1 from by have := of_decide_eq_true hc; omega) with rfl | rfl
    ·
      skip
      refine yc_skip ?_
      refine hK9 _ _ _ ?_
      refine yc_seq (fun K hK10 => ?_)
      refine yc_block ?_
      refine yc_seq (fun K hK11 => ?_)
      refine yc_region ?_
      refine x_val (r_indexAddrN Try.underlying63 Try.sizeOf58 s20 s22 (by omega)) (nd_of rfl) rfl ?_
      refine x_val (r_load h 1 rfl Try.isAgg58 es rfl) (nd_of rfl) rfl ?_
      refine x_val (r_assign es) (nd_of rfl) rfl ?_
      refine xw_nil ?_
      refine hK11 _ _ _ ?_
      refine yc_gen (fun g hg => ?_)
      have s0 := (hg 0).trans (en rfl (en rfl (en rfl s0)))
      have s1 := (hg 1).trans (en rfl (en rfl (en rfl s1)))
      have s4 := (hg 4).trans (en rfl (en rfl (en rfl s4)))
      have s5 := (hg 5).trans (en rfl (en rfl (en rfl s5)))
      have s6 := (hg 6).trans (en rfl (en rfl (en rfl s6)))
      have s8 := (hg 8).trans (en rfl (en rfl (en rfl s8)))
      have s10 := (hg 10).trans es
      have s20 := (hg 20).trans (en rfl (en rfl (en rfl s20)))
      have s21 := (hg 21).trans (en rfl (en rfl (en rfl s21)))
      have s22 := (hg 22).trans (en rfl (en rfl (en rfl s22)))
      have s23 := (hg 23).trans (en rfl (en rfl (en rfl s23)))
      clear hg
      refine yc_seq (fun K hK12 => ?_)
      refine yc_seq (fun K hK13 => ?_)
      refine yc_region ?_
      refine x_val (r_move s10) (nd_of rfl) rfl ?_
      refine x_val (r_eqnilF Try.underlying58 es ec) (nd_of rfl) rfl ?_
      refine xw_nil ?_
      refine hK13 _ _ _ ?_
      refine yc_gen (fun g hg => ?_)
      have s0 := (hg 0).trans (en rfl (en rfl s0))
      have s1 := (hg 1).trans (en rfl (en rfl s1))
      have s4 := (hg 4).trans (en rfl (en rfl s4))
      have s5 := (hg 5).trans (en rfl (en rfl s5))
      have s6 := (hg 6).trans (en rfl (en rfl s6))
      have s8 := (hg 8).trans (en rfl (en rfl s8))
      have s10 := (hg 10).trans (en rfl (en rfl s10))
      have s20 := (hg 20).trans (en rfl (en rfl s20))
      have s21 := (hg 21).trans (en rfl (en rfl s21))
      have s22 := (hg 22).trans (en rfl (en rfl s22))
      have s23 := (hg 23).trans (en rfl (en rfl s23))
      have s27 := (hg 27).trans es
      clear hg
      refine yc_cond s27 (fun hc => by cases hc) (fun _ => ?_)
      refine yc_skip ?_
      refine hK12 _ _ _ ?_
      refine yc_seq (fun K hK14 => ?_)
      refine yc_region ?_
      refine x_val (r_move s10) (nd_of rfl) rfl ?_
      refine xw_nil ?_
      refine hK14 _ _ _ ?_
      refine yc_gen (fun g hg => ?_)
      have s0 := (hg 0).trans (en rfl s0)
      have s1 := (hg 1).trans (en rfl s1)
      have s4 := (hg 4).trans (en rfl s4)
      have s5 := (hg 5).trans (en rfl s5)
      have s6 := (hg 6).trans (en rfl s6)
      have s8 := (hg 8).trans (en rfl s8)
      have s10 := (hg 10).trans (en rfl s10)
      have s20 := (hg 20).trans (en rfl s20)
      have s21 := (hg 21).trans (en rfl s21)
      have s22 := (hg 22).trans (en rfl s22)
      have s23 := (hg 23).trans (en rfl s23)
      have s27 := (hg 27).trans (en rfl s27)
      have s28 := (hg 28).trans es
      clear hg
      refine yc_block ?_
      refine yc_range s28 Try.call30 h ?_
      intro lp D fn tmps w htn htg h
      refine Calls.ret_mono (it_nil h.f5) ?_; intro _ w h; refine ⟨_, _, (fun e => by cases e), (h.f2).f2, ?_⟩; intro w h
      refine hK10 _ _ _ ?_
      have h := ((((((h.drop).f2).f1.close).f1).f3).f3).f3
      refine yc_region ?_
      refine x_val (r_add s22 ec (show _ = (((1 : Nat) : Int) : Int) from by omega) (by unfold I64; omega)) (nd_of rfl) rfl ?_
      refine x_val (r_move es) (nd_of rfl) rfl ?_
      refine xw_nil ?_
      exact ⟨2 - 1, by omega, ⟨1, D :: Ds, rfl, by omega, es, rfl, h⟩, ⟨((en rfl (en rfl s0))).trans zG7_0.symm, ((en rfl (en rfl s1))).trans zG7_1.symm, ((en rfl (en rfl s4))).trans zG7_4.symm, ((en rfl (en rfl s5))).trans zG7_5.symm, ((en rfl (en rfl s6))).trans zG7_6.symm, ((en rfl (en rfl s8))).trans zG7_8.symm, ((en rfl (en rfl s20))).trans zG7_20.symm, ((en rfl (en rfl s21))).trans zG7_21.symm⟩⟩
    ·
      skip
      refine yc_skip ?_
      refine hK9 _ _ _ ?_
      refine yc_seq (fun K hK15 => ?_)
      refine yc_block ?_
      refine yc_seq (fun K hK16 => ?_)
      refine yc_region ?_
      refine x_val (r_indexAddrN Try.underlying63 Try.sizeOf58 s20 s22 (by omega)) (nd_of rfl) rfl ?_
      refine x_val (r_load h 1 rfl Try.isAgg58 es rfl) (nd_of rfl) rfl ?_
      refine x_val (r_assign es) (nd_of rfl) rfl ?_
      refine xw_nil ?_
      refine hK16 _ _ _ ?_
      refine yc_gen (fun g hg => ?_)
      have s0 := (hg 0).trans (en rfl (en rfl (en rfl s0)))
      have s1 := (hg 1).trans (en rfl (en rfl (en rfl s1)))
      have s4 := (hg 4).trans (en rfl (en rfl (en rfl s4)))
      have s5 := (hg 5).trans (en rfl (en rfl (en rfl s5)))
      have s6 := (hg 6).trans (en rfl (en rfl (en rfl s6)))
      have s8 := (hg 8).trans (en rfl (en rfl (en rfl s8)))
      have s10 := (hg 10).trans es
      have s20 := (hg 20).trans (en rfl (en rfl (en rfl s20)))
      have s21 := (hg 21).trans (en rfl (en rfl (en rfl s21)))
      have s22 := (hg 22).trans (en rfl (en rfl (en rfl s22)))
      have s23 := (hg 23).trans (en rfl (en rfl (en rfl s23)))
      clear hg
      refine yc_seq (fun K hK17 => ?_)
      refine yc_seq (fun K hK18 => ?_)
      refine yc_region ?_
      refine x_val (r_move s10) (nd_of rfl) rfl ?_
      refine x_val (r_eqnilF Try.underlying58 es ec) (nd_of rfl) rfl ?_
      refine xw_nil ?_
      refine hK18 _ _ _ ?_
      refine yc_gen (fun g hg => ?_)
      have s0 := (hg 0).trans (en rfl (en rfl s0))
      have s1 := (hg 1).trans (en rfl (en rfl s1))
      have s4 := (hg 4).trans (en rfl (en rfl s4))
      have s5 := (hg 5).trans (en rfl (en rfl s5))
      have s6 := (hg 6).trans (en rfl (en rfl s6))
      have s8 := (hg 8).trans (en rfl (en rfl s8))
      have s10 := (hg 10).trans (en rfl (en rfl s10))
      have s20 := (hg 20).trans (en rfl (en rfl s20))
      have s21 := (hg 21).trans (en rfl (en rfl s21))
      have s22 := (hg 22).trans (en rfl (en rfl s22))
      have s23 := (hg 23).trans (en rfl (en rfl s23))
      have s27 := (hg 27).trans es
      clear hg
      refine yc_cond s27 (fun hc => by cases hc) (fun _ => ?_)
      refine yc_skip ?_
      refine hK17 _ _ _ ?_
      refine yc_seq (fun K hK19 => ?_)
      refine yc_region ?_
      refine x_val (r_move s10) (nd_of rfl) rfl ?_
      refine xw_nil ?_
      refine hK19 _ _ _ ?_
      refine yc_gen (fun g hg => ?_)
      have s0 := (hg 0).trans (en rfl s0)
      have s1 := (hg 1).trans (en rfl s1)
      have s4 := (hg 4).trans (en rfl s4)
      have s5 := (hg 5).trans (en rfl s5)
      have s6 := (hg 6).trans (en rfl s6)
      have s8 := (hg 8).trans (en rfl s8)
      have s10 := (hg 10).trans (en rfl s10)
      have s20 := (hg 20).trans (en rfl s20)
      have s21 := (hg 21).trans (en rfl s21)
      have s22 := (hg 22).trans (en rfl s22)
      have s23 := (hg 23).trans (en rfl s23)
      have s27 := (hg 27).trans (en rfl s27)
      have s28 := (hg 28).trans es
      clear hg
      refine yc_block ?_
      refine yc_range s28 Try.call30 h ?_
      intro lp D fn tmps w htn htg h
      refine Calls.ret_mono (it_empty (ba := b6) ((h.f6).f5)) ?_; intro _ w h; refine ⟨_, _, (fun e => by cases e), (h.f3).f3, ?_⟩; intro w h
      refine hK15 _ _ _ ?_
      have h : SatL E w (Marks (D :: Ds) :: _) := ((h.drop).f3).f1.close
      have h := ((((h.f2).f4).f3).f4).f4
      refine yc_region ?_
      refine x_val (r_add s22 ec (show _ = (((2 : Nat) : Int) : Int) from by omega) (by unfold I64; omega)) (nd_of rfl) rfl ?_
      refine x_val (r_move es) (nd_of rfl) rfl ?_
      refine xw_nil ?_
      exact ⟨2 - 2, by omega, ⟨2, D :: Ds, rfl, by omega, es, rfl, h⟩, ⟨((en rfl (en rfl s0))).trans zG7_0.symm, ((en rfl (en rfl s1))).trans zG7_1.symm, ((en rfl (en rfl s4))).trans zG7_4.symm, ((en rfl (en rfl s5))).trans zG7_5.symm, ((en rfl (en rfl s6))).trans zG7_6.symm, ((en rfl (en rfl s8))).trans zG7_8.symm, ((en rfl (en rfl s20))).trans zG7_20.symm, ((en rfl (en rfl s21))).trans zG7_21.symm⟩⟩
  ·
    refine yc_exit ?_
    refine hK5 _ _ _ ?_
    refine yc_seq (fun K hK20 => ?_)
    refine yc_region ?_
    refine x_val (r_move s8) (nd_of rfl) rfl ?_
    refine x_val (r_eql es ec (r := true) rfl) (nd_of rfl) rfl ?_
    refine x_val (r_move es) (nd_of rfl) rfl ?_
    refine x_take (d := 34) rfl rfl es ?_
    refine x_val (r_move (en rfl (en rfl (en rfl s5)))) (nd_of rfl) rfl ?_
    refine x_take (d := 34) rfl rfl (en rfl es) ?_
    refine x_val (r_move (en rfl (en rfl (en rfl (en rfl s0))))) (nd_of rfl) rfl ?_
    refine x_take (d := 34) rfl rfl (en rfl (en rfl es)) ?_
    refine x_enter (r_call Try.call10 (.cons (en rfl es) (.cons es .nil))) (nd_of rfl) rfl (free_nil h) ?_
    rintro _ w ⟨rfl, h⟩
    refine x_take (d := 34) rfl rfl (en rfl (en rfl (en rfl es))) ?_
    refine x_val (r_eql es ec (r := true) rfl) (nd_of rfl) rfl ?_
    refine x_val (r_pick_t (en rfl (en rfl (en rfl (en rfl es)))) es) (nd_of rfl) rfl ?_
    refine x_val (r_move es) (nd_of rfl) rfl ?_
    refine x_take (d := 40) rfl rfl es ?_
    refine x_val (r_move (en rfl (en rfl (en rfl (en rfl (en rfl (en rfl (en rfl (en rfl (en rfl s5)))))))))) (nd_of rfl) rfl ?_
    refine x_take (d := 40) rfl rfl (en rfl es) ?_
    refine x_val (r_move (en rfl (en rfl (en rfl (en rfl (en rfl (en rfl (en rfl (en rfl (en rfl (en rfl s0))))))))))) (nd_of rfl) rfl ?_
    refine x_take (d := 40) rfl rfl (en rfl (en rfl es)) ?_
    refine x_val (r_move (en rfl (en rfl (en rfl (en rfl (en rfl (en rfl (en rfl (en rfl (en rfl (en rfl (en rfl s1)))))))))))) (nd_of rfl) rfl ?_
    refine x_take (d := 40) rfl rfl (en rfl (en rfl (en rfl es))) ?_
    refine x_enter (r_call Try.call24 (.cons (en rfl (en rfl es)) (.cons (en rfl es) (.cons es .nil)))) (nd_of rfl) rfl (put_nil h) ?_
    rintro _ w ⟨rfl, h⟩
    refine x_take (d := 40) rfl rfl (en rfl (en rfl (en rfl (en rfl es)))) ?_
    refine x_val (r_eql es ec (r := true) rfl) (nd_of rfl) rfl ?_
    refine x_val (r_pick_t (en rfl (en rfl (en rfl (en rfl (en rfl es))))) es) (nd_of rfl) rfl ?_
    refine x_val (r_move es) (nd_of rfl) rfl ?_
    refine x_take (d := 47) rfl rfl es ?_
    refine x_val (r_move (en rfl (en rfl (en rfl (en rfl (en rfl (en rfl (en rfl (en rfl (en rfl (en rfl (en rfl (en rfl (en rfl (en rfl (en rfl (en rfl s5))))))))))))))))) (nd_of rfl) rfl ?_
    refine x_take (d := 47) rfl rfl (en rfl es) ?_
    refine x_val (r_move (en rfl (en rfl (en rfl (en rfl (en rfl (en rfl (en rfl (en rfl (en rfl (en rfl (en rfl (en rfl (en rfl (en rfl (en rfl (en rfl (en rfl s1)))))))))))))))))) (nd_of rfl) rfl ?_
    refine x_take (d := 47) rfl rfl (en rfl (en rfl es)) ?_
    refine x_enter (r_call Try.call9 (.cons (en rfl es) (.cons es .nil))) (nd_of rfl) rfl (take_nil h) ?_
    rintro _ w ⟨rfl, h⟩
    refine x_take (d := 47) rfl rfl (en rfl (en rfl (en rfl es))) ?_
    refine x_val (r_eql es ec (r := true) rfl) (nd_of rfl) rfl ?_
    refine x_val (r_pick_t (en rfl (en rfl (en rfl (en rfl es)))) es) (nd_of rfl) rfl ?_
    refine x_val (r_move es) (nd_of rfl) rfl ?_
    refine x_take (d := 53) rfl rfl es ?_
    refine x_val (r_move (en rfl (en rfl (en rfl (en rfl (en rfl (en rfl (en rfl (en rfl (en rfl (en rfl (en rfl (en rfl (en rfl (en rfl (en rfl (en rfl (en rfl (en rfl (en rfl (en rfl (en rfl (en rfl s5))))))))))))))))))))))) (nd_of rfl) rfl ?_
    refine x_take (d := 53) rfl rfl (en rfl es) ?_
    refine x_enter (r_call Try.call11 (.cons es .nil)) (nd_of rfl) rfl (len_nil h) ?_
    rintro _ w ⟨rfl, h⟩
    refine x_take (d := 53) rfl rfl (en rfl (en rfl es)) ?_
    refine x_val (r_move (en rfl (en rfl (en rfl (en rfl (en rfl (en rfl (en rfl (en rfl (en rfl (en rfl (en rfl (en rfl (en rfl (en rfl (en rfl (en rfl (en rfl (en rfl (en rfl (en rfl (en rfl (en rfl (en rfl (en rfl s5))))))))))))))))))))))))) (nd_of rfl) rfl ?_
    refine x_take (d := 53) rfl rfl (en rfl (en rfl (en rfl es))) ?_
    refine x_enter (r_call Try.call12 (.cons es .nil)) (nd_of rfl) rfl (cap_nil h) ?_
    rintro _ w ⟨rfl, h⟩
    refine x_take (d := 53) rfl rfl (en rfl (en rfl (en rfl (en rfl es)))) ?_
    refine x_val (r_add (en rfl (en rfl es)) es (show _ = (0 : Int) from by rfl) (by unfold I64; omega)) (nd_of rfl) rfl ?_
    refine x_take (d := 53) rfl rfl (en rfl (en rfl (en rfl (en rfl (en rfl es))))) ?_
    have h := h.f4
    refine x_enter (r_call Try.call11 (.cons (en rfl (en rfl (en rfl (en rfl (en rfl (en rfl (en rfl (en rfl (en rfl (en rfl (en rfl (en rfl (en rfl (en rfl (en rfl (en rfl (en rfl (en rfl (en rfl (en rfl (en rfl (en rfl (en rfl (en rfl (en rfl (en rfl (en rfl s6))))))))))))))))))))))))))) .nil)) (nd_of rfl) rfl (I.len_ok h (by simp)) ?_
    rintro _ w ⟨rfl, h⟩
    refine x_take (d := 53) rfl rfl (en rfl (en rfl (en rfl (en rfl (en rfl (en rfl es)))))) ?_
    refine x_val (r_add (en rfl es) es (show _ = (0 : Int) from by rfl) (by unfold I64; omega)) (nd_of rfl) rfl ?_
    refine x_take (d := 53) rfl rfl (en rfl (en rfl (en rfl (en rfl (en rfl (en rfl (en rfl es))))))) ?_
    refine x_enter (r_call Try.call12 (.cons (en rfl (en rfl (en rfl (en rfl (en rfl (en rfl (en rfl (en rfl (en rfl (en rfl (en rfl (en rfl (en rfl (en rfl (en rfl (en rfl (en rfl (en rfl (en rfl (en rfl (en rfl (en rfl (en rfl (en rfl (en rfl (en rfl (en rfl (en rfl (en rfl s6))))))))))))))))))))))))))))) .nil)) (nd_of rfl) rfl (I.cap_ok h) ?_
    rintro _ w ⟨rfl, h⟩
    refine x_take (d := 53) rfl rfl (en rfl (en rfl (en rfl (en rfl (en rfl (en rfl (en rfl (en rfl es)))))))) ?_
    refine x_val (r_add (en rfl es) es (show _ = (0 : Int) from by rfl) (by unfold I64; omega)) (nd_of rfl) rfl ?_
    refine x_take (d := 53) rfl rfl (en rfl (en rfl (en rfl (en rfl (en rfl (en rfl (en rfl (en rfl (en rfl es))))))))) ?_
    refine x_val (r_eql es ec (decide_eq_true (by rfl))) (nd_of rfl) rfl ?_
    refine x_val (r_pick_t (en rfl (en rfl (en rfl (en rfl (en rfl (en rfl (en rfl (en rfl (en rfl (en rfl es)))))))))) es) (nd_of rfl) rfl ?_
    refine x_val (r_move es) (nd_of rfl) rfl ?_
    refine x_take (d := 65) rfl rfl es ?_
    refine x_val (r_move (en rfl (en rfl (en rfl (en rfl (en rfl (en rfl (en rfl (en rfl (en rfl (en rfl (en rfl (en rfl (en rfl (en rfl (en rfl (en rfl (en rfl (en rfl (en rfl (en rfl (en rfl (en rfl (en rfl (en rfl (en rfl (en rfl (en rfl (en rfl (en rfl (en rfl (en rfl (en rfl (en rfl (en rfl s0))))))))))))))))))))))))))))))))))) (nd_of rfl) rfl ?_
    refine x_take (d := 65) rfl rfl (en rfl es) ?_
    refine x_enter (r_call Try.call10 (.cons (en rfl (en rfl (en rfl (en rfl (en rfl (en rfl (en rfl (en rfl (en rfl (en rfl (en rfl (en rfl (en rfl (en rfl (en rfl (en rfl (en rfl (en rfl (en rfl (en rfl (en rfl (en rfl (en rfl (en rfl (en rfl (en rfl (en rfl (en rfl (en rfl (en rfl (en rfl (en rfl (en rfl (en rfl (en rfl s6))))))))))))))))))))))))))))))))))) (.cons es .nil))) (nd_of rfl) rfl (I.free_no (hno _) h) ?_
    rintro _ w ⟨rfl, h⟩
    refine x_take (d := 65) rfl rfl (en rfl (en rfl es)) ?_
    refine x_val (r_eql es ec (r := true) rfl) (nd_of rfl) rfl ?_
    refine x_val (r_pick_t (en rfl (en rfl (en rfl es))) es) (nd_of rfl) rfl ?_
    refine x_val (r_move es) (nd_of rfl) rfl ?_
    refine x_take (d := 70) rfl rfl es ?_
    refine x_val (r_move (en rfl (en rfl (en rfl (en rfl (en rfl (en rfl (en rfl (en rfl (en rfl (en rfl (en rfl (en rfl (en rfl (en rfl (en rfl (en rfl (en rfl (en rfl (en rfl (en rfl (en rfl (en rfl (en rfl (en rfl (en rfl (en rfl (en rfl (en rfl (en rfl (en rfl (en rfl (en rfl (en rfl (en rfl (en rfl (en rfl (en rfl (en rfl (en rfl s1)))))))))))))))))))))))))))))))))))))))) (nd_of rfl) rfl ?_
    refine x_take (d := 70) rfl rfl (en rfl es) ?_
    refine x_enter (r_call Try.call9 (.cons (en rfl (en rfl (en rfl (en rfl (en rfl (en rfl (en rfl (en rfl (en rfl (en rfl (en rfl (en rfl (en rfl (en rfl (en rfl (en rfl (en rfl (en rfl (en rfl (en rfl (en rfl (en rfl (en rfl (en rfl (en rfl (en rfl (en rfl (en rfl (en rfl (en rfl (en rfl (en rfl (en rfl (en rfl (en rfl (en rfl (en rfl (en rfl (en rfl (en rfl s6)))))))))))))))))))))))))))))))))))))))) (.cons es .nil))) (nd_of rfl) rfl (I.take_new (by simp) h) ?_
    rintro _ w ⟨rfl, h⟩
    refine x_take (d := 70) rfl rfl (en rfl (en rfl es)) ?_
    refine x_val (r_eql es ec (r := true) rfl) (nd_of rfl) rfl ?_
    refine x_val (r_pick_t (en rfl (en rfl (en rfl es))) es) (nd_of rfl) rfl ?_
    refine x_val (r_move es) (nd_of rfl) rfl ?_
    refine x_take (d := 75) rfl rfl es ?_
    refine x_enter (r_call Try.call11 (.cons (en rfl (en rfl (en rfl (en rfl (en rfl (en rfl (en rfl (en rfl (en rfl (en rfl (en rfl (en rfl (en rfl (en rfl (en rfl (en rfl (en rfl (en rfl (en rfl (en rfl (en rfl (en rfl (en rfl (en rfl (en rfl (en rfl (en rfl (en rfl (en rfl (en rfl (en rfl (en rfl (en rfl (en rfl (en rfl (en rfl (en rfl (en rfl (en rfl (en rfl (en rfl (en rfl (en rfl (en rfl s6)))))))))))))))))))))))))))))))))))))))))))) .nil)) (nd_of rfl) rfl (I.len_ok h (by simp)) ?_
    rintro _ w ⟨rfl, h⟩
    refine x_take (d := 75) rfl rfl (en rfl es) ?_
    refine x_val (r_eql es ec (r := true) rfl) (nd_of rfl) rfl ?_
    refine x_val (r_pick_t (en rfl (en rfl es)) es) (nd_of rfl) rfl ?_
    refine x_val (r_move es) (nd_of rfl) rfl ?_
    refine x_take (d := 79) rfl rfl es ?_
    refine x_enter (r_call Try.call7 .nil) (nd_of rfl) rfl (known_ok h) ?_
    rintro _ w ⟨rfl, h⟩
    have h := h.f1
    refine x_val (r_pick_t (en rfl es) es) (nd_of rfl) rfl ?_
    refine x_st (r_store h 5 rfl Try.sizeOf4 (en rfl (en rfl (en rfl (en rfl (en rfl (en rfl (en rfl (en rfl (en rfl (en rfl (en rfl (en rfl (en rfl (en rfl (en rfl (en rfl (en rfl (en rfl (en rfl (en rfl (en rfl (en rfl (en rfl (en rfl (en rfl (en rfl (en rfl (en rfl (en rfl (en rfl (en rfl (en rfl (en rfl (en rfl (en rfl (en rfl (en rfl (en rfl (en rfl (en rfl (en rfl (en rfl (en rfl (en rfl (en rfl (en rfl (en rfl (en rfl (en rfl (en rfl s4)))))))))))))))))))))))))))))))))))))))))))))))))) es rfl gc0) rfl (h.u5 sc0) ?_
    intro w h
    refine xw_nil ?_
    refine hK20 _ _ _ ?_
    refine yc_gen (fun g hg => ?_)
    have s0 := (hg 0).trans (en rfl (en rfl (en rfl (en rfl (en rfl (en rfl (en rfl (en rfl (en rfl (en rfl (en rfl (en rfl (en rfl (en rfl (en rfl (en rfl (en rfl (en rfl (en rfl (en rfl (en rfl (en rfl (en rfl (en rfl (en rfl (en rfl (en rfl (en rfl (en rfl (en rfl (en rfl (en rfl (en rfl (en rfl (en rfl (en rfl (en rfl (en rfl (en rfl (en rfl (en rfl (en rfl (en rfl (en rfl (en rfl (en rfl (en rfl (en rfl (en rfl (en rfl s0))))))))))))))))))))))))))))))))))))))))))))))))))
    have s1 := (hg 1).trans (en rfl (en rfl (en rfl (en rfl (en rfl (en rfl (en rfl (en rfl (en rfl (en rfl (en rfl (en rfl (en rfl (en rfl (en rfl (en rfl (en rfl (en rfl (en rfl (en rfl (en rfl (en rfl (en rfl (en rfl (en rfl (en rfl (en rfl (en rfl (en rfl (en rfl (en rfl (en rfl (en rfl (en rfl (en rfl (en rfl (en rfl (en rfl (en rfl (en rfl (en rfl (en rfl (en rfl (en rfl (en rfl (en rfl (en rfl (en rfl (en rfl (en rfl s1))))))))))))))))))))))))))))))))))))))))))))))))))
    have s4 := (hg 4).trans (en rfl (en rfl (en rfl (en rfl (en rfl (en rfl (en rfl (en rfl (en rfl (en rfl (en rfl (en rfl (en rfl (en rfl (en rfl (en rfl (en rfl (en rfl (en rfl (en rfl (en rfl (en rfl (en rfl (en rfl (en rfl (en rfl (en rfl (en rfl (en rfl (en rfl (en rfl (en rfl (en rfl (en rfl (en rfl (en rfl (en rfl (en rfl (en rfl (en rfl (en rfl (en rfl (en rfl (en rfl (en rfl (en rfl (en rfl (en rfl (en rfl (en rfl s4))))))))))))))))))))))))))))))))))))))))))))))))))
    have s5 := (hg 5).trans (en rfl (en rfl (en rfl (en rfl (en rfl (en rfl (en rfl (en rfl (en rfl (en rfl (en rfl (en rfl (en rfl (en rfl (en rfl (en rfl (en rfl (en rfl (en rfl (en rfl (en rfl (en rfl (en rfl (en rfl (en rfl (en rfl (en rfl (en rfl (en rfl (en rfl (en rfl (en rfl (en rfl (en rfl (en rfl (en rfl (en rfl (en rfl (en rfl (en rfl (en rfl (en rfl (en rfl (en rfl (en rfl (en rfl (en rfl (en rfl (en rfl (en rfl s5))))))))))))))))))))))))))))))))))))))))))))))))))
    have s6 := (hg 6).trans (en rfl (en rfl (en rfl (en rfl (en rfl (en rfl (en rfl (en rfl (en rfl (en rfl (en rfl (en rfl (en rfl (en rfl (en rfl (en rfl (en rfl (en rfl (en rfl (en rfl (en rfl (en rfl (en rfl (en rfl (en rfl (en rfl (en rfl (en rfl (en rfl (en rfl (en rfl (en rfl (en rfl (en rfl (en rfl (en rfl (en rfl (en rfl (en rfl (en rfl (en rfl (en rfl (en rfl (en rfl (en rfl (en rfl (en rfl (en rfl (en rfl (en rfl s6))))))))))))))))))))))))))))))))))))))))))))))))))
    have s8 := (hg 8).trans (en rfl (en rfl (en rfl (en rfl (en rfl (en rfl (en rfl (en rfl (en rfl (en rfl (en rfl (en rfl (en rfl (en rfl (en rfl (en rfl (en rfl (en rfl (en rfl (en rfl (en rfl (en rfl (en rfl (en rfl (en rfl (en rfl (en rfl (en rfl (en rfl (en rfl (en rfl (en rfl (en rfl (en rfl (en rfl (en rfl (en rfl (en rfl (en rfl (en rfl (en rfl (en rfl (en rfl (en rfl (en rfl (en rfl (en rfl (en rfl (en rfl (en rfl s8))))))))))))))))))))))))))))))))))))))))))))))))))
    have s20 := (hg 20).trans (en rfl (en rfl (en rfl (en rfl (en rfl (en rfl (en rfl (en rfl (en rfl (en rfl (en rfl (en rfl (en rfl (en rfl (en rfl (en rfl (en rfl (en rfl (en rfl (en rfl (en rfl (en rfl (en rfl (en rfl (en rfl (en rfl (en rfl (en rfl (en rfl (en rfl (en rfl (en rfl (en rfl (en rfl (en rfl (en rfl (en rfl (en rfl (en rfl (en rfl (en rfl (en rfl (en rfl (en rfl (en rfl (en rfl (en rfl (en rfl (en rfl (en rfl s20))))))))))))))))))))))))))))))))))))))))))))))))))
    have s21 := (hg 21).trans (en rfl (en rfl (en rfl (en rfl (en rfl (en rfl (en rfl (en rfl (en rfl (en rfl (en rfl (en rfl (en rfl (en rfl (en rfl (en rfl (en rfl (en rfl (en rfl (en rfl (en rfl (en rfl (en rfl (en rfl (en rfl (en rfl (en rfl (en rfl (en rfl (en rfl (en rfl (en rfl (en rfl (en rfl (en rfl (en rfl (en rfl (en rfl (en rfl (en rfl (en rfl (en rfl (en rfl (en rfl (en rfl (en rfl (en rfl (en rfl (en rfl (en rfl s21))))))))))))))))))))))))))))))))))))))))))))))))))
    have s22 := (hg 22).trans (en rfl (en rfl (en rfl (en rfl (en rfl (en rfl (en rfl (en rfl (en rfl (en rfl (en rfl (en rfl (en rfl (en rfl (en rfl (en rfl (en rfl (en rfl (en rfl (en rfl (en rfl (en rfl (en rfl (en rfl (en rfl (en rfl (en rfl (en rfl (en rfl (en rfl (en rfl (en rfl (en rfl (en rfl (en rfl (en rfl (en rfl (en rfl (en rfl (en rfl (en rfl (en rfl (en rfl (en rfl (en rfl (en rfl (en rfl (en rfl (en rfl (en rfl s22))))))))))))))))))))))))))))))))))))))))))))))))))
    have s23 := (hg 23).trans (en rfl (en rfl (en rfl (en rfl (en rfl (en rfl (en rfl (en rfl (en rfl (en rfl (en rfl (en rfl (en rfl (en rfl (en rfl (en rfl (en rfl (en rfl (en rfl (en rfl (en rfl (en rfl (en rfl (en rfl (en rfl (en rfl (en rfl (en rfl (en rfl (en rfl (en rfl (en rfl (en rfl (en rfl (en rfl (en rfl (en rfl (en rfl (en rfl (en rfl (en rfl (en rfl (en rfl (en rfl (en rfl (en rfl (en rfl (en rfl (en rfl (en rfl s23))))))))))))))))))))))))))))))))))))))))))))))))))
    clear hg
    refine yc_ret ?_
    refine bodyY_marks Ds h ?_; intro w h; refine bodyY_nil ?_
    refine bodyR_c rfl s4 (lv_one h 4 rfl Try.isAgg4 gc0) ?_
    exact ⟨rfl, h.drop.drop.drop.drop.drop⟩
end
end Go.Proofs.Ytfmhcefjbghhlaa
