/-
Ropes: Slice.
-/
import Derived.Test.YtmfkhfmidnojhaaP1
namespace Go.Proofs.Ytmfkhfmidnojhaa
open Go Go.RowKit
theorem i32s_app {a b : List Int} : i32s (a ++ b) = i32s a ++ i32s b := by simp [i32s]
section
variable {E : Env} {R : List SProp} {w : World} {b bt ba B B' : Nat} {t : List Int} {xs l : List X} {v : Value}
theorem slice_no {i j : Int} (hp : ¬ isPart t.length i j) (h : SatL E w (Rp b t B :: R)) : Calls Try.prog 14 #[pT b, .int .i64 i, .int .i64 j] w (Ret fun u w' => u = .tuple #[.slice none 0 0, .int .i64 5] ∧ SatL E w' (Rp b t B :: R)) := by
  refine calls_x Try.func14 rfl Try.ntmps14 rfl ?_
  refine xc_gen (fun g hg => ?_)
  have s0 := (hg 0).trans arg0
  have s1 := (hg 1).trans arg1
  have s2 := (hg 2).trans arg2
  clear hg
  refine xc_seq (fun K hK1 => ?_)
  refine xc_region ?_
  refine x_alloc1 h Try.zeroValue23 rfl rfl ?_
  intro b6 w h
  refine x_val (r_assign ec) (nd_of rfl) rfl ?_
  refine xw_nil ?_
  refine hK1 _ _ ?_
  refine xc_gen (fun g hg => ?_)
  have s0 := (hg 0).trans (en rfl (en rfl s0))
  have s1 := (hg 1).trans (en rfl (en rfl s1))
  have s2 := (hg 2).trans (en rfl (en rfl s2))
  have s6 := (hg 6).trans (en rfl es)
  have s7 := (hg 7).trans es
  clear hg
  refine xc_seq (fun K hK2 => ?_)
  refine xc_seq (fun K hK3 => ?_)
  refine xc_region ?_
  refine x_val (r_move s0) (nd_of rfl) rfl ?_
  refine x_val (r_move (en rfl s1)) (nd_of rfl) rfl ?_
  refine x_val (r_move (en rfl (en rfl s2))) (nd_of rfl) rfl ?_
  have h := h.f1
  refine x_enter (r_call Try.call27 (.cons (en rfl (en rfl es)) (.cons (en rfl es) (.cons es .nil)))) (nd_of rfl) rfl (betweenR h) ?_
  rintro _ w ⟨rfl, h⟩
  refine x_val (r_assign es) (nd_of rfl) rfl ?_
  refine xw_nil ?_
  refine hK3 _ _ ?_
  refine xc_gen (fun g hg => ?_)
  have s0 := (hg 0).trans (en rfl (en rfl (en rfl (en rfl (en rfl s0)))))
  have s1 := (hg 1).trans (en rfl (en rfl (en rfl (en rfl (en rfl s1)))))
  have s2 := (hg 2).trans (en rfl (en rfl (en rfl (en rfl (en rfl s2)))))
  have s6 := (hg 6).trans (en rfl (en rfl (en rfl (en rfl (en rfl s6)))))
  have s7 := (hg 7).trans (en rfl (en rfl (en rfl (en rfl (en rfl s7)))))
  have s8 := (hg 8).trans es
  clear hg
  refine xc_seq (fun K hK4 => ?_)
  refine xc_region ?_
  refine x_val (r_move s8) (nd_of rfl) rfl ?_
  refine x_val (r_neq es ec (decide_eq_true (by rw [if_neg hp]; decide))) (nd_of rfl) rfl ?_
  refine xw_nil ?_
  refine hK4 _ _ ?_
  refine xc_gen (fun g hg => ?_)
  have s0 := (hg 0).trans (en rfl (en rfl s0))
  have s1 := (hg 1).trans (en rfl (en rfl s1))
  have s2 := (hg 2).trans (en rfl (en rfl s2))
  have s6 := (hg 6).trans (en rfl (en rfl s6))
  have s7 := (hg 7).trans (en rfl (en rfl s7))
  have s8 := (hg 8).trans (en rfl (en rfl s8))
  have s15 := (hg 15).trans es
  clear hg
  refine xc_cond s15 (fun _ => ?_) (fun hc => by cases hc)
  refine xc_seq (fun K hK5 => ?_)
  refine xc_region ?_
  refine x_val (r_move s8) (nd_of rfl) rfl ?_
  refine x_st (r_store h 1 rfl Try.sizeOf23 (en rfl s6) ec rfl gc0) rfl (h.u1 sc0) ?_
  intro w h
  refine x_val (r_assign es) (nd_of rfl) rfl ?_
  refine xw_nil ?_
  refine hK5 _ _ ?_
  refine xc_gen (fun g hg => ?_)
  have s0 := (hg 0).trans (en rfl (en rfl s0))
  have s1 := (hg 1).trans (en rfl (en rfl s1))
  have s2 := (hg 2).trans (en rfl (en rfl s2))
  have s6 := (hg 6).trans (en rfl (en rfl s6))
  have s7 := (hg 7).trans es
  have s8 := (hg 8).trans (en rfl (en rfl s8))
  have s15 := (hg 15).trans (en rfl (en rfl s15))
  clear hg
  refine xc_ret ?_
  refine bodyR_ct rfl s6 (lv_one h 1 rfl Try.isAgg23 gc0) s7 ?_
  exact ⟨by rw [if_neg hp], h.f1.drop⟩
theorem sliceR {i j : Int} (hp : isPart t.length i j) (hb : t.length ≤ 100000000) (h : SatL E w (Rp b t B :: R)) : Calls Try.prog 14 #[pT b, .int .i64 i, .int .i64 j] w (Ret fun u w' => ∃ v, u = .tuple #[v, .int .i64 0] ∧ SatL E w' (RunesR v ((t.take j.toNat).drop i.toNat) :: Rp b t B :: R)) := by
  obtain ⟨xs, rfl, hh⟩ := h.openRp
  clear h
  have h := hh
  clear hh
  rw [← sz_txt] at hp hb
  have hp2 := hp
  obtain ⟨h0, h1, h2⟩ := hp
  obtain ⟨ni, rfl⟩ := Int.eq_ofNat_of_zero_le h0
  obtain ⟨nj, rfl⟩ := Int.eq_ofNat_of_zero_le (Int.le_trans h0 h1)
  have hov := txt_over xs ni nj
  have hol : (overL xs ni nj).flatten.length ≤ sz xs := by rw [hov, sz_txt, List.length_drop, List.length_take]; omega
  rw [Int.toNat_natCast, Int.toNat_natCast, ← hov]
  refine calls_y Try.func14 rfl Try.ntmps14 rfl ?_
  refine yc_gen (fun g hg => ?_)
  have s0 := (hg 0).trans arg0
  have s1 := (hg 1).trans arg1
  have s2 := (hg 2).trans arg2
  clear hg
  refine yc_seq (fun K hK1 => ?_)
  refine yc_region ?_
  refine x_alloc1 h Try.zeroValue23 rfl rfl ?_
  intro b6 w h
  refine x_val (r_assign ec) (nd_of rfl) rfl ?_
  refine xw_nil ?_
  refine hK1 _ _ _ ?_
  refine yc_gen (fun g hg => ?_)
  have s0 := (hg 0).trans (en rfl (en rfl s0))
  have s1 := (hg 1).trans (en rfl (en rfl s1))
  have s2 := (hg 2).trans (en rfl (en rfl s2))
  have s6 := (hg 6).trans (en rfl es)
  have s7 := (hg 7).trans es
  clear hg
  refine yc_seq (fun K hK2 => ?_)
  refine yc_seq (fun K hK3 => ?_)
  refine yc_region ?_
  refine x_val (r_move s0) (nd_of rfl) rfl ?_
  refine x_val (r_move (en rfl s1)) (nd_of rfl) rfl ?_
  refine x_val (r_move (en rfl (en rfl s2))) (nd_of rfl) rfl ?_
  have h := h.f1
  refine x_enter (r_call Try.call27 (.cons (en rfl (en rfl es)) (.cons (en rfl es) (.cons es .nil)))) (nd_of rfl) rfl (between_o h) ?_
  rintro _ w ⟨rfl, h⟩
  refine x_val (r_assign es) (nd_of rfl) rfl ?_
  refine xw_nil ?_
  refine hK3 _ _ _ ?_
  refine yc_gen (fun g hg => ?_)
  have s0 := (hg 0).trans (en rfl (en rfl (en rfl (en rfl (en rfl s0)))))
  have s1 := (hg 1).trans (en rfl (en rfl (en rfl (en rfl (en rfl s1)))))
  have s2 := (hg 2).trans (en rfl (en rfl (en rfl (en rfl (en rfl s2)))))
  have s6 := (hg 6).trans (en rfl (en rfl (en rfl (en rfl (en rfl s6)))))
  have s7 := (hg 7).trans (en rfl (en rfl (en rfl (en rfl (en rfl s7)))))
  have s8 := (hg 8).trans es
  clear hg
  refine yc_seq (fun K hK4 => ?_)
  refine yc_region ?_
  refine x_val (r_move s8) (nd_of rfl) rfl ?_
  refine x_val (r_neq es ec (decide_eq_false (by rw [if_pos hp2]; decide))) (nd_of rfl) rfl ?_
  refine xw_nil ?_
  refine hK4 _ _ _ ?_
  refine yc_gen (fun g hg => ?_)
  have s0 := (hg 0).trans (en rfl (en rfl s0))
  have s1 := (hg 1).trans (en rfl (en rfl s1))
  have s2 := (hg 2).trans (en rfl (en rfl s2))
  have s6 := (hg 6).trans (en rfl (en rfl s6))
  have s7 := (hg 7).trans (en rfl (en rfl s7))
  have s8 := (hg 8).trans (en rfl (en rfl s8))
  have s15 := (hg 15).trans es
  clear hg
  refine yc_cond s15 (fun hc => by cases hc) (fun _ => ?_)
  refine yc_skip ?_
  refine hK2 _ _ _ ?_
  refine yc_seq (fun K hK5 => ?_)
  refine yc_seq (fun K hK6 => ?_)
  refine yc_region ?_
  refine x_val (r_move s0) (nd_of rfl) rfl ?_
  refine x_enter (r_call Try.call25 (.cons es .nil)) (nd_of rfl) rfl (tree_o h) ?_
  rintro _ w ⟨bt, ba, rfl, h⟩
  refine x_val (r_move (en rfl (en rfl s1))) (nd_of rfl) rfl ?_
  refine x_val (r_move (en rfl (en rfl (en rfl s2)))) (nd_of rfl) rfl ?_
  refine x_enter (r_call Try.call31 (.cons (en rfl (en rfl es)) (.cons (en rfl es) (.cons es .nil)))) (nd_of rfl) rfl (over_mk (i := ni) (j := nj) h) ?_
  rintro _ w ⟨c1, c2, c3, rfl, h⟩
  refine xw_nil ?_
  refine hK6 _ _ _ ?_
  refine yc_gen (fun g hg => ?_)
  have s0 := (hg 0).trans (en rfl (en rfl (en rfl (en rfl (en rfl s0)))))
  have s1 := (hg 1).trans (en rfl (en rfl (en rfl (en rfl (en rfl s1)))))
  have s2 := (hg 2).trans (en rfl (en rfl (en rfl (en rfl (en rfl s2)))))
  have s6 := (hg 6).trans (en rfl (en rfl (en rfl (en rfl (en rfl s6)))))
  have s7 := (hg 7).trans (en rfl (en rfl (en rfl (en rfl (en rfl s7)))))
  have s8 := (hg 8).trans (en rfl (en rfl (en rfl (en rfl (en rfl s8)))))
  have s15 := (hg 15).trans (en rfl (en rfl (en rfl (en rfl (en rfl s15)))))
  have s21 := (hg 21).trans es
  clear hg
  refine yc_block ?_
  refine yc_range s21 Try.call67 h ?_
  intro lp D fn tmps w htn htg h
  obtain ⟨lr, hlr, h⟩ := h.loopAbs
  have hR : ∀ (M : List SProp) (d : List X) (x : X) (r : List X) (w : World), overL xs ni nj = d ++ x :: r → xOk x → SatL E w (M ++ (AccR b6 d.flatten :: pt lp (.loop lr) :: pt D (.deferred (some [])) :: Cells b #[pT bt] 44 :: R)) → FnOk Try.prog (.func (.yield lp) #[] #[]) [xV x] w (fun u w' => u = .bool true ∧ SatL E w' (M ++ (AccR b6 (d ++ [x]).flatten :: pt lp (.loop lr) :: pt D (.deferred (some [])) :: Cells b #[pT bt] 44 :: R))) := by
    intro M d x r w hd hxo h; replace h := h.app; have hdl : d.flatten.length + x.length ≤ 100000000 := (by rw [hd] at hol; simp only [List.flatten_append, List.flatten_cons, List.length_append] at hol; omega); have hdx : (d ++ [x]).flatten = d.flatten ++ x := (by simp); change FnOk _ _ [.agg (chC x)] _ _; have hxk := hxo.ck; obtain ⟨u0, h⟩ := SatL.openAccR h; have h := h.f2
    subst hlr
    refine fnOk_round h rfl htn ?_
    refine xc_gen (fun g hg => ?_)
    have s0 := (hg 0).trans ((fold_get rfl).trans ((htg 0).trans s0))
    have s1 := (hg 1).trans ((fold_get rfl).trans ((htg 1).trans s1))
    have s2 := (hg 2).trans ((fold_get rfl).trans ((htg 2).trans s2))
    have s6 := (hg 6).trans ((fold_get rfl).trans ((htg 6).trans s6))
    have s7 := (hg 7).trans ((fold_get rfl).trans ((htg 7).trans s7))
    have s8 := (hg 8).trans ((fold_get rfl).trans ((htg 8).trans s8))
    have s15 := (hg 15).trans ((fold_get rfl).trans ((htg 15).trans s15))
    have s21 := (hg 21).trans ((fold_get rfl).trans ((htg 21).trans s21))
    have s22 := (hg 22).trans (fold1_0 (by rw [htn]; decide))
    clear hg
    refine xc_region ?_
    refine x_declA h Try.zeroValue58 Try.sizeOf58 rfl (en rfl s22) (by first | assumption | exact Ok.node (by assumption) | exact xOk.cells (by assumption) | exact ChOk.ok (by assumption)) rfl ?_
    intro b9 w h
    refine xw_nil ?_
    have h := h.f1
    refine thenR_mk ⟨_, _, rfl, h, fun w h => ?_⟩
    obtain ⟨lr2, hlr2, h⟩ := h.loopAbs
    refine xc_gen (fun g hg => ?_)
    have s0 := (hg 0).trans (en rfl s0)
    have s1 := (hg 1).trans (en rfl s1)
    have s2 := (hg 2).trans (en rfl s2)
    have s6 := (hg 6).trans (en rfl s6)
    have s7 := (hg 7).trans (en rfl s7)
    have s8 := (hg 8).trans (en rfl s8)
    have s9 := (hg 9).trans es
    have s15 := (hg 15).trans (en rfl s15)
    have s21 := (hg 21).trans (en rfl s21)
    have s22 := (hg 22).trans (en rfl s22)
    clear hg
    refine xc_block ?_
    have hS := h
    have hS := (hS.f0).drop
    have hS := (hS.f2).drop
    refine xc_planR 4 [(0, 1), (1, 1), (2, 0), (3, 0), (4, 0)] (by kernel_rfl) rfl (by kernel_rfl) (by kernel_rfl) (fun _ _ hh => by first | exact roundR_ng hh | exact hh) hS ?_
    have h := h.drew
    refine xp_load (i := 0) rfl (fun W hW => r_load hW 1 rfl Try.isAgg23 s6 gc0) rfl (fun _ _ _ hh => by first | exact roundR_np hh | exact hh) ?_
    refine xp_load (i := 1) rfl (fun W hW => r_loadAgg hW 0 rfl Try.isAgg58 Try.sizeOf58 (en rfl s9) (Ok.le (by first | assumption | exact Ok.node (by assumption) | exact xOk.cells (by assumption) | exact ChOk.ok (by assumption))) (ext_full (Ok.size (by first | assumption | exact Ok.node (by assumption) | exact xOk.cells (by assumption) | exact ChOk.ok (by assumption))))) rfl (fun _ _ _ hh => by first | exact roundR_np hh | exact hh) ?_
    refine xp_enter (i := 2) rfl (r_call Try.call32 (.cons es .nil)) rfl (runes_ok hxk h) ?_
    rintro _ w h
    refine ⟨(fun _ => (((h.f0).drop.f0).drop.f2).drop), ?_⟩
    have h := h.f4
    refine xp_append_rows (i := 3) (bytes := 4) h rfl Try.underlying23 (by kernel_rfl) (en rfl (en rfl es)) es i32s_one (by omega) (by omega) rfl ?_; intro u2 w h; obtain ⟨au, cu, rfl, _, _⟩ := h.rowVal; refine ⟨fun _ => h.drop.drop.drop, ?_⟩
    refine xp_st (i := 4) rfl (r_store h 4 rfl Try.sizeOf23 (en rfl (en rfl (en rfl (en rfl s6)))) es rfl gc0) (h.u4 sc0) (fun hh => absurd rfl hh) ?_
    intro w h
    refine xp_nil ?_
    have h := h.f1
    have h := h.f3
    have h := h.f2
    have h := h.f4
    have h := h.f4
    subst hlr2; exact roundR_normal h fun w h => ⟨rfl, SatL.app (SatL.closeAccR (u := .slice au (d.flatten.length + x.length) cu) (show SatL E w (_ :: Row _ 1 (.slice au (d.flatten.length + x.length) cu) (d ++ [x]).flatten.length (i32s (d ++ [x]).flatten) :: _) by rw [hdx, i32s_app, List.length_append]; exact ((((h.f3.drop).f3.drop).f1).f2).f1))⟩
  have h := h.f7
  have h := SatL.closeAccR (d := []) (b := b6) (u := .slice none 0 0) ((h.rowNil (e := 21) (sz := 1)).f1)
  have h := h.f6
  have h := h.f3
  have h := h.f3
  have h := h.f3
  have h := h.f7
  have h := h.f7
  have h := h.f7
  have h := h.f7
  refine Calls.ret_mono (over1_t (M := []) (IL := fun d => AccR b6 d.flatten :: pt lp (.loop lr) :: pt D (.deferred (some [])) :: Cells b #[pT bt] 44 :: R) (by omega) (by omega) hR h) ?_; rintro _ w h; subst hlr; refine ⟨_, _, (fun e => by cases e), ((h.f3).f3), ?_⟩; intro w h
  refine hK5 _ _ _ ?_
  refine yc_seq (fun K hK7 => ?_)
  have h := h.f3
  obtain ⟨u, h⟩ := SatL.openAccR h
  obtain ⟨au, cu, rfl, _, _⟩ := (h.f1).rowVal
  have h := h.f5
  have h := h.f5
  have h := h.f4
  have h := h.f4
  have h := h.f4
  have h := h.f5
  refine yc_region ?_
  refine x_val (r_load h 1 rfl Try.isAgg23 s6 gc0) (nd_of rfl) rfl ?_
  refine x_st (r_store h 1 rfl Try.sizeOf23 (en rfl s6) es rfl gc0) rfl (h.u1 sc0) ?_
  intro w h
  refine x_val (r_assign ec) (nd_of rfl) rfl ?_
  refine xw_nil ?_
  refine hK7 _ _ _ ?_
  refine yc_gen (fun g hg => ?_)
  have s0 := (hg 0).trans (en rfl (en rfl s0))
  have s1 := (hg 1).trans (en rfl (en rfl s1))
  have s2 := (hg 2).trans (en rfl (en rfl s2))
  have s6 := (hg 6).trans (en rfl (en rfl s6))
  have s7 := (hg 7).trans es
  have s8 := (hg 8).trans (en rfl (en rfl s8))
  have s15 := (hg 15).trans (en rfl (en rfl s15))
  have s21 := (hg 21).trans (en rfl (en rfl s21))
  clear hg
  refine yc_ret ?_
  refine bodyY_mark h ?_; intro w h; refine bodyY_nil ?_
  refine bodyR_ct rfl s6 (lv_one h 1 rfl Try.isAgg23 gc0) s7 ?_
  exact ⟨_, rfl, (SatL.closeRp rfl (SatL.closeObj ((((h.drop.drop).f1.drop).f2).f2.f1))).f1⟩
end
end Go.Proofs.Ytmfkhfmidnojhaa
