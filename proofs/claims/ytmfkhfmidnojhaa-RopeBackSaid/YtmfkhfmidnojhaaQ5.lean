/-
RopeBack: the walk.
-/
import Derived.Test.YtmfkhfmidnojhaaR10
namespace Go.Proofs.Ytmfkhfmidnojhaa
open Go Go.RowKit
theorem back_mid {t zs : List Int} {n : Nat} (hn : n ≤ t.length) : ((t.take n ++ (zs ++ t.drop n)).take (n + zs.length)).drop n = zs := by
  have l : (t.take n).length = n := by rw [List.length_take]; omega
  rw [show n + zs.length = (t.take n ++ zs).length by rw [List.length_append, l], ← List.append_assoc, List.take_left]
  have h := List.drop_left (l₁ := t.take n) (l₂ := zs)
  rw [l] at h
  exact h
theorem back_del {t zs : List Int} {n : Nat} (hn : n ≤ t.length) : (t.take n ++ (zs ++ t.drop n)).take n ++ (t.take n ++ (zs ++ t.drop n)).drop (n + zs.length) = t := by
  have l : (t.take n).length = n := by rw [List.length_take]; omega
  have h1 := List.take_left (l₁ := t.take n) (l₂ := zs ++ t.drop n)
  rw [l] at h1
  have h2 := List.drop_left (l₁ := t.take n ++ zs) (l₂ := t.drop n)
  rw [List.length_append, l, List.append_assoc] at h2
  rw [h1, h2, List.take_append_drop]
section
variable {E : Env} {R : List SProp} {w : World} {W : World} {v vm : Value} {os : List OpV} {zs : List Int}
theorem offset0' {b B : Nat} {t : List Int} {i : Int} (hi : i = 0) (h : SatL E w (Rp b t B :: R)) : Calls Try.prog 20 #[pT b, .int .i64 i] w (Ret fun v w' => v = .tuple #[.int .i64 0, .int .i64 0] ∧ SatL E w' (Rp b t B :: R)) := by
  subst hi; exact offsetOf0 h
theorem rback_long {i : Int} (hv : OpsAt W v os) (hrm : ∀ E R, Reads E (Old W :: R) vm .i32 zs) (hl : 40 < os.length ∨ 1000 < zs.length) (h : SatL E w (Old W :: R)) : Calls Try.prog 3 #[v, .int .i64 i, vm] w (Ret fun u w' => u = .bool true ∧ SatL E w' (Old W :: R)) := by
  obtain ⟨a, cap, rfl, _⟩ := hv
  obtain ⟨am, cm, rfl, _, _⟩ := (hrm E R).slice h
  rcases Nat.lt_or_ge 40 os.length with h1 | h1
  · skip
    refine calls_x Try.func3 rfl Try.ntmps3 rfl ?_
    refine xc_gen (fun g hg => ?_)
    have s0 := (hg 0).trans arg0
    have s1 := (hg 1).trans arg1
    have s2 := (hg 2).trans arg2
    clear hg
    refine xc_seq (fun K hK1 => ?_)
    refine xc_region ?_
    refine x_val (r_assign ec) (nd_of rfl) rfl ?_
    refine xw_nil ?_
    refine hK1 _ _ ?_
    refine xc_gen (fun g hg => ?_)
    have s0 := (hg 0).trans (en rfl s0)
    have s1 := (hg 1).trans (en rfl s1)
    have s2 := (hg 2).trans (en rfl s2)
    have s6 := (hg 6).trans es
    clear hg
    refine xc_seq (fun K hK2 => ?_)
    refine xc_region ?_
    refine x_enter (r_call Try.call9 .nil) (nd_of rfl) rfl (newR h) ?_
    rintro _ w ⟨b, rfl, h⟩
    refine x_val (r_assign es) (nd_of rfl) rfl ?_
    refine xw_nil ?_
    refine hK2 _ _ ?_
    refine xc_gen (fun g hg => ?_)
    have s0 := (hg 0).trans (en rfl (en rfl s0))
    have s1 := (hg 1).trans (en rfl (en rfl s1))
    have s2 := (hg 2).trans (en rfl (en rfl s2))
    have s6 := (hg 6).trans (en rfl (en rfl s6))
    have s7 := (hg 7).trans es
    clear hg
    refine xc_seq (fun K hK3 => ?_)
    refine xc_seq (fun K hK4 => ?_)
    refine xc_region ?_
    refine x_val (r_move s7) (nd_of rfl) rfl ?_
    refine x_val (r_eqnil Try.underlying24 es ec (r := false) rfl) (nd_of rfl) rfl ?_
    refine x_val (r_move es) (nd_of rfl) rfl ?_
    refine x_take (d := 29) rfl rfl es ?_
    refine x_val (r_move (en rfl (en rfl (en rfl s0)))) (nd_of rfl) rfl ?_
    refine x_take (d := 29) rfl rfl (en rfl es) ?_
    refine x_val (r_len Try.underlying22 es) (nd_of rfl) rfl ?_
    refine x_take (d := 29) rfl rfl (en rfl (en rfl es)) ?_
    refine x_val (r_gtr es ec (decide_eq_true (by omega))) (nd_of rfl) rfl ?_
    refine x_val (r_pick_f (en rfl (en rfl (en rfl es))) es) (nd_of rfl) rfl ?_
    refine x_val (r_move es) (nd_of rfl) rfl ?_
    refine x_pass (d := 34) rfl rfl es rfl ?_
    refine x_pass (d := 34) rfl rfl (en rfl es) rfl ?_
    refine x_pass (d := 34) rfl rfl (en rfl (en rfl es)) rfl ?_
    refine x_val (r_pick_t (en rfl (en rfl (en rfl es))) ec) (nd_of rfl) rfl ?_
    refine xw_nil ?_
    refine hK4 _ _ ?_
    refine xc_gen (fun g hg => ?_)
    have s0 := (hg 0).trans (en rfl (en rfl (en rfl (en rfl (en rfl (en rfl (en rfl (en rfl (en rfl (en rfl (en rfl (en rfl s0))))))))))))
    have s1 := (hg 1).trans (en rfl (en rfl (en rfl (en rfl (en rfl (en rfl (en rfl (en rfl (en rfl (en rfl (en rfl (en rfl s1))))))))))))
    have s2 := (hg 2).trans (en rfl (en rfl (en rfl (en rfl (en rfl (en rfl (en rfl (en rfl (en rfl (en rfl (en rfl (en rfl s2))))))))))))
    have s6 := (hg 6).trans (en rfl (en rfl (en rfl (en rfl (en rfl (en rfl (en rfl (en rfl (en rfl (en rfl (en rfl (en rfl s6))))))))))))
    have s7 := (hg 7).trans (en rfl (en rfl (en rfl (en rfl (en rfl (en rfl (en rfl (en rfl (en rfl (en rfl (en rfl (en rfl s7))))))))))))
    have s38 := (hg 38).trans es
    clear hg
    refine xc_cond s38 (fun _ => ?_) (fun hc => by cases hc)
    refine xc_seq (fun K hK5 => ?_)
    refine xc_region ?_
    refine x_val (r_move s7) (nd_of rfl) rfl ?_
    refine x_val (r_nenil Try.underlying24 es ec (r := true) rfl) (nd_of rfl) rfl ?_
    refine x_val (r_move es) (nd_of rfl) rfl ?_
    refine x_take (d := 41) rfl rfl es ?_
    refine x_enter (r_call Try.call10 .nil) (nd_of rfl) rfl (known_ok h) ?_
    rintro _ w ⟨rfl, h⟩
    refine x_val (r_pick_t (en rfl es) es) (nd_of rfl) rfl ?_
    refine x_val (r_assign es) (nd_of rfl) rfl ?_
    refine xw_nil ?_
    refine hK5 _ _ ?_
    refine xc_gen (fun g hg => ?_)
    have s0 := (hg 0).trans (en rfl (en rfl (en rfl (en rfl (en rfl (en rfl s0))))))
    have s1 := (hg 1).trans (en rfl (en rfl (en rfl (en rfl (en rfl (en rfl s1))))))
    have s2 := (hg 2).trans (en rfl (en rfl (en rfl (en rfl (en rfl (en rfl s2))))))
    have s6 := (hg 6).trans es
    have s7 := (hg 7).trans (en rfl (en rfl (en rfl (en rfl (en rfl (en rfl s7))))))
    have s38 := (hg 38).trans (en rfl (en rfl (en rfl (en rfl (en rfl (en rfl s38))))))
    clear hg
    refine xc_ret ?_
    refine bodyR_1 rfl s6 ?_
    exact ⟨rfl, h.drop⟩
  · have h2 : 1000 < zs.length := by omega
    refine calls_x Try.func3 rfl Try.ntmps3 rfl ?_
    refine xc_gen (fun g hg => ?_)
    have s0 := (hg 0).trans arg0
    have s1 := (hg 1).trans arg1
    have s2 := (hg 2).trans arg2
    clear hg
    refine xc_seq (fun K hK1 => ?_)
    refine xc_region ?_
    refine x_val (r_assign ec) (nd_of rfl) rfl ?_
    refine xw_nil ?_
    refine hK1 _ _ ?_
    refine xc_gen (fun g hg => ?_)
    have s0 := (hg 0).trans (en rfl s0)
    have s1 := (hg 1).trans (en rfl s1)
    have s2 := (hg 2).trans (en rfl s2)
    have s6 := (hg 6).trans es
    clear hg
    refine xc_seq (fun K hK2 => ?_)
    refine xc_region ?_
    refine x_enter (r_call Try.call9 .nil) (nd_of rfl) rfl (newR h) ?_
    rintro _ w ⟨b, rfl, h⟩
    refine x_val (r_assign es) (nd_of rfl) rfl ?_
    refine xw_nil ?_
    refine hK2 _ _ ?_
    refine xc_gen (fun g hg => ?_)
    have s0 := (hg 0).trans (en rfl (en rfl s0))
    have s1 := (hg 1).trans (en rfl (en rfl s1))
    have s2 := (hg 2).trans (en rfl (en rfl s2))
    have s6 := (hg 6).trans (en rfl (en rfl s6))
    have s7 := (hg 7).trans es
    clear hg
    refine xc_seq (fun K hK3 => ?_)
    refine xc_seq (fun K hK4 => ?_)
    refine xc_region ?_
    refine x_val (r_move s7) (nd_of rfl) rfl ?_
    refine x_val (r_eqnil Try.underlying24 es ec (r := false) rfl) (nd_of rfl) rfl ?_
    refine x_val (r_move es) (nd_of rfl) rfl ?_
    refine x_take (d := 29) rfl rfl es ?_
    refine x_val (r_move (en rfl (en rfl (en rfl s0)))) (nd_of rfl) rfl ?_
    refine x_take (d := 29) rfl rfl (en rfl es) ?_
    refine x_val (r_len Try.underlying22 es) (nd_of rfl) rfl ?_
    refine x_take (d := 29) rfl rfl (en rfl (en rfl es)) ?_
    refine x_val (r_gtr es ec (decide_eq_false (by omega))) (nd_of rfl) rfl ?_
    refine x_val (r_pick_f (en rfl (en rfl (en rfl es))) es) (nd_of rfl) rfl ?_
    refine x_val (r_move es) (nd_of rfl) rfl ?_
    refine x_take (d := 34) rfl rfl es ?_
    refine x_val (r_move (en rfl (en rfl (en rfl (en rfl (en rfl (en rfl (en rfl (en rfl s2))))))))) (nd_of rfl) rfl ?_
    refine x_take (d := 34) rfl rfl (en rfl es) ?_
    refine x_val (r_len Try.underlying23 es) (nd_of rfl) rfl ?_
    refine x_take (d := 34) rfl rfl (en rfl (en rfl es)) ?_
    refine x_val (r_gtr es ec (decide_eq_true (by omega))) (nd_of rfl) rfl ?_
    refine x_val (r_pick_f (en rfl (en rfl (en rfl es))) es) (nd_of rfl) rfl ?_
    refine xw_nil ?_
    refine hK4 _ _ ?_
    refine xc_gen (fun g hg => ?_)
    have s0 := (hg 0).trans (en rfl (en rfl (en rfl (en rfl (en rfl (en rfl (en rfl (en rfl (en rfl (en rfl (en rfl (en rfl s0))))))))))))
    have s1 := (hg 1).trans (en rfl (en rfl (en rfl (en rfl (en rfl (en rfl (en rfl (en rfl (en rfl (en rfl (en rfl (en rfl s1))))))))))))
    have s2 := (hg 2).trans (en rfl (en rfl (en rfl (en rfl (en rfl (en rfl (en rfl (en rfl (en rfl (en rfl (en rfl (en rfl s2))))))))))))
    have s6 := (hg 6).trans (en rfl (en rfl (en rfl (en rfl (en rfl (en rfl (en rfl (en rfl (en rfl (en rfl (en rfl (en rfl s6))))))))))))
    have s7 := (hg 7).trans (en rfl (en rfl (en rfl (en rfl (en rfl (en rfl (en rfl (en rfl (en rfl (en rfl (en rfl (en rfl s7))))))))))))
    have s38 := (hg 38).trans es
    clear hg
    refine xc_cond s38 (fun _ => ?_) (fun hc => by cases hc)
    refine xc_seq (fun K hK5 => ?_)
    refine xc_region ?_
    refine x_val (r_move s7) (nd_of rfl) rfl ?_
    refine x_val (r_nenil Try.underlying24 es ec (r := true) rfl) (nd_of rfl) rfl ?_
    refine x_val (r_move es) (nd_of rfl) rfl ?_
    refine x_take (d := 41) rfl rfl es ?_
    refine x_enter (r_call Try.call10 .nil) (nd_of rfl) rfl (known_ok h) ?_
    rintro _ w ⟨rfl, h⟩
    refine x_val (r_pick_t (en rfl es) es) (nd_of rfl) rfl ?_
    refine x_val (r_assign es) (nd_of rfl) rfl ?_
    refine xw_nil ?_
    refine hK5 _ _ ?_
    refine xc_gen (fun g hg => ?_)
    have s0 := (hg 0).trans (en rfl (en rfl (en rfl (en rfl (en rfl (en rfl s0))))))
    have s1 := (hg 1).trans (en rfl (en rfl (en rfl (en rfl (en rfl (en rfl s1))))))
    have s2 := (hg 2).trans (en rfl (en rfl (en rfl (en rfl (en rfl (en rfl s2))))))
    have s6 := (hg 6).trans es
    have s7 := (hg 7).trans (en rfl (en rfl (en rfl (en rfl (en rfl (en rfl s7))))))
    have s38 := (hg 38).trans (en rfl (en rfl (en rfl (en rfl (en rfl (en rfl s38))))))
    clear hg
    refine xc_ret ?_
    refine bodyR_1 rfl s6 ?_
    exact ⟨rfl, h.drop⟩
theorem rback_ok {i : Int} (hi : I64 i) (hv : OpsAt W v os) (hrm : ∀ E R, Reads E (Old W :: R) vm .i32 zs) (hl : os.length ≤ 40) (hlz : zs.length ≤ 1000) (h : SatL E w (Old W :: R)) : Calls Try.prog 3 #[v, .int .i64 i, vm] w (Ret fun u w' => u = .bool true ∧ SatL E w' (Old W :: R)) := by
  obtain ⟨a, cap, rfl, hread⟩ := hv
  obtain ⟨am, cm, rfl, _, _⟩ := (hrm E R).slice h
  unfold I64 at hi
  refine calls_x Try.func3 rfl Try.ntmps3 rfl ?_
  refine xc_gen (fun g hg => ?_)
  have s0 := (hg 0).trans arg0
  have s1 := (hg 1).trans arg1
  have s2 := (hg 2).trans arg2
  clear hg
  refine xc_seq (fun K hK1 => ?_)
  refine xc_region ?_
  refine x_val (r_assign ec) (nd_of rfl) rfl ?_
  refine xw_nil ?_
  refine hK1 _ _ ?_
  refine xc_gen (fun g hg => ?_)
  have s0 := (hg 0).trans (en rfl s0)
  have s1 := (hg 1).trans (en rfl s1)
  have s2 := (hg 2).trans (en rfl s2)
  have s6 := (hg 6).trans es
  clear hg
  refine xc_seq (fun K hK2 => ?_)
  refine xc_region ?_
  refine x_enter (r_call Try.call9 .nil) (nd_of rfl) rfl (newR h) ?_
  rintro _ w ⟨b, rfl, h⟩
  refine x_val (r_assign es) (nd_of rfl) rfl ?_
  refine xw_nil ?_
  refine hK2 _ _ ?_
  refine xc_gen (fun g hg => ?_)
  have s0 := (hg 0).trans (en rfl (en rfl s0))
  have s1 := (hg 1).trans (en rfl (en rfl s1))
  have s2 := (hg 2).trans (en rfl (en rfl s2))
  have s6 := (hg 6).trans (en rfl (en rfl s6))
  have s7 := (hg 7).trans es
  clear hg
  refine xc_seq (fun K hK3 => ?_)
  refine xc_seq (fun K hK4 => ?_)
  refine xc_region ?_
  refine x_val (r_move s7) (nd_of rfl) rfl ?_
  refine x_val (r_eqnil Try.underlying24 es ec (r := false) rfl) (nd_of rfl) rfl ?_
  refine x_val (r_move es) (nd_of rfl) rfl ?_
  refine x_take (d := 29) rfl rfl es ?_
  refine x_val (r_move (en rfl (en rfl (en rfl s0)))) (nd_of rfl) rfl ?_
  refine x_take (d := 29) rfl rfl (en rfl es) ?_
  refine x_val (r_len Try.underlying22 es) (nd_of rfl) rfl ?_
  refine x_take (d := 29) rfl rfl (en rfl (en rfl es)) ?_
  refine x_val (r_gtr es ec (decide_eq_false (by omega))) (nd_of rfl) rfl ?_
  refine x_val (r_pick_f (en rfl (en rfl (en rfl es))) es) (nd_of rfl) rfl ?_
  refine x_val (r_move es) (nd_of rfl) rfl ?_
  refine x_take (d := 34) rfl rfl es ?_
  refine x_val (r_move (en rfl (en rfl (en rfl (en rfl (en rfl (en rfl (en rfl (en rfl s2))))))))) (nd_of rfl) rfl ?_
  refine x_take (d := 34) rfl rfl (en rfl es) ?_
  refine x_val (r_len Try.underlying23 es) (nd_of rfl) rfl ?_
  refine x_take (d := 34) rfl rfl (en rfl (en rfl es)) ?_
  refine x_val (r_gtr es ec (decide_eq_false (by omega))) (nd_of rfl) rfl ?_
  refine x_val (r_pick_f (en rfl (en rfl (en rfl es))) es) (nd_of rfl) rfl ?_
  refine xw_nil ?_
  refine hK4 _ _ ?_
  refine xc_gen (fun g hg => ?_)
  have s0 := (hg 0).trans (en rfl (en rfl (en rfl (en rfl (en rfl (en rfl (en rfl (en rfl (en rfl (en rfl (en rfl (en rfl s0))))))))))))
  have s1 := (hg 1).trans (en rfl (en rfl (en rfl (en rfl (en rfl (en rfl (en rfl (en rfl (en rfl (en rfl (en rfl (en rfl s1))))))))))))
  have s2 := (hg 2).trans (en rfl (en rfl (en rfl (en rfl (en rfl (en rfl (en rfl (en rfl (en rfl (en rfl (en rfl (en rfl s2))))))))))))
  have s6 := (hg 6).trans (en rfl (en rfl (en rfl (en rfl (en rfl (en rfl (en rfl (en rfl (en rfl (en rfl (en rfl (en rfl s6))))))))))))
  have s7 := (hg 7).trans (en rfl (en rfl (en rfl (en rfl (en rfl (en rfl (en rfl (en rfl (en rfl (en rfl (en rfl (en rfl s7))))))))))))
  have s38 := (hg 38).trans es
  clear hg
  refine xc_cond s38 (fun hc => by cases hc) (fun _ => ?_)
  refine xc_skip ?_
  refine hK3 _ _ ?_
  refine xc_seq (fun K hK5 => ?_)
  refine xc_seq (fun K hK6 => ?_)
  refine xc_region ?_
  refine x_val (r_move s0) (nd_of rfl) rfl ?_
  refine x_val (r_len Try.underlying22 es) (nd_of rfl) rfl ?_
  refine x_val (r_move ec) (nd_of rfl) rfl ?_
  refine xw_nil ?_
  refine hK6 _ _ ?_
  refine xc_gen (fun g hg => ?_)
  have s0 := (hg 0).trans (en rfl (en rfl (en rfl s0)))
  have s1 := (hg 1).trans (en rfl (en rfl (en rfl s1)))
  have s2 := (hg 2).trans (en rfl (en rfl (en rfl s2)))
  have s6 := (hg 6).trans (en rfl (en rfl (en rfl s6)))
  have s7 := (hg 7).trans (en rfl (en rfl (en rfl s7)))
  have s38 := (hg 38).trans (en rfl (en rfl (en rfl s38)))
  have s45 := (hg 45).trans (en rfl es)
  have s46 := (hg 46).trans es
  clear hg
  refine xc_block ?_
  obtain ⟨G7, hG7⟩ : ∃ g0 : Nat → Value, g0 = g := ⟨_, rfl⟩
  have zG7_0 : G7 0 = _ := (congrFun hG7 0).trans s0
  have zG7_1 : G7 1 = _ := (congrFun hG7 1).trans s1
  have zG7_2 : G7 2 = _ := (congrFun hG7 2).trans s2
  have zG7_6 : G7 6 = _ := (congrFun hG7 6).trans s6
  have zG7_7 : G7 7 = _ := (congrFun hG7 7).trans s7
  have zG7_38 : G7 38 = _ := (congrFun hG7 38).trans s38
  have zG7_45 : G7 45 = _ := (congrFun hG7 45).trans s45
  refine xc_loop (fun m f w => (∃ (k : Nat) (t : List Int), m = os.length - k ∧ k ≤ os.length ∧ t.length ≤ 3300 ∧ f 46 = .int .i64 (k : Int) ∧ SatL E w (Rp b t 4000 :: Old W :: R)) ∧ (f 0 = G7 0 ∧ f 1 = G7 1 ∧ f 2 = G7 2 ∧ f 6 = G7 6 ∧ f 7 = G7 7 ∧ f 38 = G7 38 ∧ f 45 = G7 45)) (os.length) ⟨⟨0, [], by omega, by omega, by simp, s46, h.rpMono (by omega)⟩, ⟨congrFun hG7.symm 0, congrFun hG7.symm 1, congrFun hG7.symm 2, congrFun hG7.symm 6, congrFun hG7.symm 7, congrFun hG7.symm 38, congrFun hG7.symm 45⟩⟩ ?_
  rintro m g w ⟨⟨k, t, hm, hk, ht, s46, h⟩, ⟨y0, y1, y2, y6, y7, y38, y45⟩⟩
  have s0 := y0.trans zG7_0
  have s1 := y1.trans zG7_1
  have s2 := y2.trans zG7_2
  have s6 := y6.trans zG7_6
  have s7 := y7.trans zG7_7
  have s38 := y38.trans zG7_38
  have s45 := y45.trans zG7_45
  refine xc_seq (fun K hK8 => ?_)
  refine xc_region ?_
  refine x_val (r_lss s46 s45 rfl) (nd_of rfl) rfl ?_
  refine xw_nil ?_
  refine hK8 _ _ ?_
  refine xc_gen (fun g hg => ?_)
  have s0 := (hg 0).trans (en rfl s0)
  have s1 := (hg 1).trans (en rfl s1)
  have s2 := (hg 2).trans (en rfl s2)
  have s6 := (hg 6).trans (en rfl s6)
  have s7 := (hg 7).trans (en rfl s7)
  have s38 := (hg 38).trans (en rfl s38)
  have s45 := (hg 45).trans (en rfl s45)
  have s46 := (hg 46).trans (en rfl s46)
  have s47 := (hg 47).trans es
  clear hg
  refine xc_seq (fun K hK9 => ?_)
  refine xc_cond s47 (fun hc => ?_) (fun hc => ?_)
  ·
    have hk2 : k < os.length := by have := of_decide_eq_true hc; omega
    obtain ⟨o, ho⟩ : ∃ o, os[k]? = some o := ⟨_, List.getElem?_eq_getElem hk2⟩
    obtain ⟨hwf, ad, rfl, hcell⟩ := hread k o ho
    have hsp := hwf.sp
    obtain ⟨al, cl, hlv, _, _, _⟩ := hwf.sp
    rw [hlv] at hsp
    have c4 : W.cell? ((ad.add (k * 5)).add 4) = some (.slice al o.ls.length cl) := by rw [← hlv]; exact hcell 4 _ rfl
    rcases Nat.lt_or_ge 300 o.ls.length with hls | hls
    ·
      skip
      refine xc_skip ?_
      refine hK9 _ _ ?_
      refine xc_seq (fun K hK10 => ?_)
      refine xc_block ?_
      refine xc_seq (fun K hK11 => ?_)
      refine xc_region ?_
      refine x_val (r_move s46) (nd_of rfl) rfl ?_
      refine x_val (r_assign es) (nd_of rfl) rfl ?_
      refine xw_nil ?_
      refine hK11 _ _ ?_
      refine xc_gen (fun g hg => ?_)
      have s0 := (hg 0).trans (en rfl (en rfl s0))
      have s1 := (hg 1).trans (en rfl (en rfl s1))
      have s2 := (hg 2).trans (en rfl (en rfl s2))
      have s6 := (hg 6).trans (en rfl (en rfl s6))
      have s7 := (hg 7).trans (en rfl (en rfl s7))
      have s8 := (hg 8).trans es
      have s38 := (hg 38).trans (en rfl (en rfl s38))
      have s45 := (hg 45).trans (en rfl (en rfl s45))
      have s46 := (hg 46).trans (en rfl (en rfl s46))
      have s47 := (hg 47).trans (en rfl (en rfl s47))
      clear hg
      refine xc_block ?_
      refine xc_seq (fun K hK12 => ?_)
      refine xc_region ?_
      refine x_val (r_move s0) (nd_of rfl) rfl ?_
      refine x_val (r_move (en rfl s8)) (nd_of rfl) rfl ?_
      refine x_val (r_indexAny Try.underlying22 Try.sizeOf28 (en rfl es) es (by omega) (by omega)) (nd_of rfl) rfl ?_
      refine x_val (r_fieldAddrA Try.underlying28 rfl Try.sizeOf23 rfl es) (nd_of rfl) rfl ?_
      refine x_val (r_loadCell Try.isAgg23 es (h.oldCell 1 rfl c4)) (nd_of rfl) rfl ?_
      refine x_val (r_len Try.underlying23 es) (nd_of rfl) rfl ?_
      refine x_val (r_gtr es ec (decide_eq_true (by omega))) (nd_of rfl) rfl ?_
      refine x_val (r_move es) (nd_of rfl) rfl ?_
      refine x_pass (d := 69) rfl rfl es rfl ?_
      refine x_pass (d := 69) rfl rfl (en rfl es) rfl ?_
      refine x_pass (d := 69) rfl rfl (en rfl (en rfl es)) rfl ?_
      refine x_val (r_pick_t (en rfl (en rfl (en rfl es))) ec) (nd_of rfl) rfl ?_
      refine x_val (r_assign es) (nd_of rfl) rfl ?_
      refine xw_nil ?_
      refine hK12 _ _ ?_
      refine xc_gen (fun g hg => ?_)
      have s0 := (hg 0).trans (en rfl (en rfl (en rfl (en rfl (en rfl (en rfl (en rfl (en rfl (en rfl (en rfl (en rfl (en rfl (en rfl s0)))))))))))))
      have s1 := (hg 1).trans (en rfl (en rfl (en rfl (en rfl (en rfl (en rfl (en rfl (en rfl (en rfl (en rfl (en rfl (en rfl (en rfl s1)))))))))))))
      have s2 := (hg 2).trans (en rfl (en rfl (en rfl (en rfl (en rfl (en rfl (en rfl (en rfl (en rfl (en rfl (en rfl (en rfl (en rfl s2)))))))))))))
      have s6 := (hg 6).trans (en rfl (en rfl (en rfl (en rfl (en rfl (en rfl (en rfl (en rfl (en rfl (en rfl (en rfl (en rfl (en rfl s6)))))))))))))
      have s7 := (hg 7).trans (en rfl (en rfl (en rfl (en rfl (en rfl (en rfl (en rfl (en rfl (en rfl (en rfl (en rfl (en rfl (en rfl s7)))))))))))))
      have s8 := (hg 8).trans (en rfl (en rfl (en rfl (en rfl (en rfl (en rfl (en rfl (en rfl (en rfl (en rfl (en rfl (en rfl (en rfl s8)))))))))))))
      have s38 := (hg 38).trans (en rfl (en rfl (en rfl (en rfl (en rfl (en rfl (en rfl (en rfl (en rfl (en rfl (en rfl (en rfl (en rfl s38)))))))))))))
      have s45 := (hg 45).trans (en rfl (en rfl (en rfl (en rfl (en rfl (en rfl (en rfl (en rfl (en rfl (en rfl (en rfl (en rfl (en rfl s45)))))))))))))
      have s46 := (hg 46).trans (en rfl (en rfl (en rfl (en rfl (en rfl (en rfl (en rfl (en rfl (en rfl (en rfl (en rfl (en rfl (en rfl s46)))))))))))))
      have s47 := (hg 47).trans (en rfl (en rfl (en rfl (en rfl (en rfl (en rfl (en rfl (en rfl (en rfl (en rfl (en rfl (en rfl (en rfl s47)))))))))))))
      have s61 := (hg 61).trans es
      clear hg
      refine xc_cond s61 (fun _ => ?_) (fun hc => by cases hc)
      refine xc_exit ?_
      refine hK10 _ _ ?_
      refine xc_region ?_
      refine x_val (r_add s46 ec (show _ = (((k + 1 : Nat) : Int) : Int) from by omega) (by unfold I64; omega)) (nd_of rfl) rfl ?_
      refine x_val (r_move es) (nd_of rfl) rfl ?_
      refine xw_nil ?_
      exact ⟨os.length - (k + 1), by omega, ⟨k + 1, t, rfl, by omega, ht, es, h⟩, ⟨((en rfl (en rfl s0))).trans zG7_0.symm, ((en rfl (en rfl s1))).trans zG7_1.symm, ((en rfl (en rfl s2))).trans zG7_2.symm, ((en rfl (en rfl s6))).trans zG7_6.symm, ((en rfl (en rfl s7))).trans zG7_7.symm, ((en rfl (en rfl s38))).trans zG7_38.symm, ((en rfl (en rfl s45))).trans zG7_45.symm⟩⟩
    ·
      skip
      rcases Nat.lt_or_ge 3000 t.length with hts | hts
      ·
        skip
        refine xc_skip ?_
        refine hK9 _ _ ?_
        refine xc_seq (fun K hK13 => ?_)
        refine xc_block ?_
        refine xc_seq (fun K hK14 => ?_)
        refine xc_region ?_
        refine x_val (r_move s46) (nd_of rfl) rfl ?_
        refine x_val (r_assign es) (nd_of rfl) rfl ?_
        refine xw_nil ?_
        refine hK14 _ _ ?_
        refine xc_gen (fun g hg => ?_)
        have s0 := (hg 0).trans (en rfl (en rfl s0))
        have s1 := (hg 1).trans (en rfl (en rfl s1))
        have s2 := (hg 2).trans (en rfl (en rfl s2))
        have s6 := (hg 6).trans (en rfl (en rfl s6))
        have s7 := (hg 7).trans (en rfl (en rfl s7))
        have s8 := (hg 8).trans es
        have s38 := (hg 38).trans (en rfl (en rfl s38))
        have s45 := (hg 45).trans (en rfl (en rfl s45))
        have s46 := (hg 46).trans (en rfl (en rfl s46))
        have s47 := (hg 47).trans (en rfl (en rfl s47))
        clear hg
        refine xc_block ?_
        refine xc_seq (fun K hK15 => ?_)
        refine xc_region ?_
        refine x_val (r_move s0) (nd_of rfl) rfl ?_
        refine x_val (r_move (en rfl s8)) (nd_of rfl) rfl ?_
        refine x_val (r_indexAny Try.underlying22 Try.sizeOf28 (en rfl es) es (by omega) (by omega)) (nd_of rfl) rfl ?_
        refine x_val (r_fieldAddrA Try.underlying28 rfl Try.sizeOf23 rfl es) (nd_of rfl) rfl ?_
        refine x_val (r_loadCell Try.isAgg23 es (h.oldCell 1 rfl c4)) (nd_of rfl) rfl ?_
        refine x_val (r_len Try.underlying23 es) (nd_of rfl) rfl ?_
        refine x_val (r_gtr es ec (decide_eq_false (by omega))) (nd_of rfl) rfl ?_
        refine x_val (r_move es) (nd_of rfl) rfl ?_
        refine x_take (d := 69) rfl rfl es ?_
        refine x_val (r_move (en rfl (en rfl (en rfl (en rfl (en rfl (en rfl (en rfl (en rfl s7))))))))) (nd_of rfl) rfl ?_
        refine x_take (d := 69) rfl rfl (en rfl es) ?_
        refine x_enter (r_call Try.call11 (.cons es .nil)) (nd_of rfl) rfl (lenR h) ?_
        rintro _ w ⟨rfl, h⟩
        refine x_take (d := 69) rfl rfl (en rfl (en rfl es)) ?_
        refine x_val (r_gtr es ec (decide_eq_true (by omega))) (nd_of rfl) rfl ?_
        refine x_val (r_pick_f (en rfl (en rfl (en rfl es))) es) (nd_of rfl) rfl ?_
        refine x_val (r_assign es) (nd_of rfl) rfl ?_
        refine xw_nil ?_
        refine hK15 _ _ ?_
        refine xc_gen (fun g hg => ?_)
        have s0 := (hg 0).trans (en rfl (en rfl (en rfl (en rfl (en rfl (en rfl (en rfl (en rfl (en rfl (en rfl (en rfl (en rfl (en rfl s0)))))))))))))
        have s1 := (hg 1).trans (en rfl (en rfl (en rfl (en rfl (en rfl (en rfl (en rfl (en rfl (en rfl (en rfl (en rfl (en rfl (en rfl s1)))))))))))))
        have s2 := (hg 2).trans (en rfl (en rfl (en rfl (en rfl (en rfl (en rfl (en rfl (en rfl (en rfl (en rfl (en rfl (en rfl (en rfl s2)))))))))))))
        have s6 := (hg 6).trans (en rfl (en rfl (en rfl (en rfl (en rfl (en rfl (en rfl (en rfl (en rfl (en rfl (en rfl (en rfl (en rfl s6)))))))))))))
        have s7 := (hg 7).trans (en rfl (en rfl (en rfl (en rfl (en rfl (en rfl (en rfl (en rfl (en rfl (en rfl (en rfl (en rfl (en rfl s7)))))))))))))
        have s8 := (hg 8).trans (en rfl (en rfl (en rfl (en rfl (en rfl (en rfl (en rfl (en rfl (en rfl (en rfl (en rfl (en rfl (en rfl s8)))))))))))))
        have s38 := (hg 38).trans (en rfl (en rfl (en rfl (en rfl (en rfl (en rfl (en rfl (en rfl (en rfl (en rfl (en rfl (en rfl (en rfl s38)))))))))))))
        have s45 := (hg 45).trans (en rfl (en rfl (en rfl (en rfl (en rfl (en rfl (en rfl (en rfl (en rfl (en rfl (en rfl (en rfl (en rfl s45)))))))))))))
        have s46 := (hg 46).trans (en rfl (en rfl (en rfl (en rfl (en rfl (en rfl (en rfl (en rfl (en rfl (en rfl (en rfl (en rfl (en rfl s46)))))))))))))
        have s47 := (hg 47).trans (en rfl (en rfl (en rfl (en rfl (en rfl (en rfl (en rfl (en rfl (en rfl (en rfl (en rfl (en rfl (en rfl s47)))))))))))))
        have s61 := (hg 61).trans es
        clear hg
        refine xc_cond s61 (fun _ => ?_) (fun hc => by cases hc)
        refine xc_exit ?_
        refine hK13 _ _ ?_
        refine xc_region ?_
        refine x_val (r_add s46 ec (show _ = (((k + 1 : Nat) : Int) : Int) from by omega) (by unfold I64; omega)) (nd_of rfl) rfl ?_
        refine x_val (r_move es) (nd_of rfl) rfl ?_
        refine xw_nil ?_
        exact ⟨os.length - (k + 1), by omega, ⟨k + 1, t, rfl, by omega, ht, es, h⟩, ⟨((en rfl (en rfl s0))).trans zG7_0.symm, ((en rfl (en rfl s1))).trans zG7_1.symm, ((en rfl (en rfl s2))).trans zG7_2.symm, ((en rfl (en rfl s6))).trans zG7_6.symm, ((en rfl (en rfl s7))).trans zG7_7.symm, ((en rfl (en rfl s38))).trans zG7_38.symm, ((en rfl (en rfl s45))).trans zG7_45.symm⟩⟩
      ·
        skip
        refine xc_skip ?_
        refine hK9 _ _ ?_
        refine xc_seq (fun K hK16 => ?_)
        refine xc_block ?_
        refine xc_seq (fun K hK17 => ?_)
        refine xc_region ?_
        refine x_val (r_move s46) (nd_of rfl) rfl ?_
        refine x_val (r_assign es) (nd_of rfl) rfl ?_
        refine xw_nil ?_
        refine hK17 _ _ ?_
        refine xc_gen (fun g hg => ?_)
        have s0 := (hg 0).trans (en rfl (en rfl s0))
        have s1 := (hg 1).trans (en rfl (en rfl s1))
        have s2 := (hg 2).trans (en rfl (en rfl s2))
        have s6 := (hg 6).trans (en rfl (en rfl s6))
        have s7 := (hg 7).trans (en rfl (en rfl s7))
        have s8 := (hg 8).trans es
        have s38 := (hg 38).trans (en rfl (en rfl s38))
        have s45 := (hg 45).trans (en rfl (en rfl s45))
        have s46 := (hg 46).trans (en rfl (en rfl s46))
        have s47 := (hg 47).trans (en rfl (en rfl s47))
        clear hg
        refine xc_block ?_
        refine xc_seq (fun K hK18 => ?_)
        refine xc_region ?_
        refine x_val (r_move s0) (nd_of rfl) rfl ?_
        refine x_val (r_move (en rfl s8)) (nd_of rfl) rfl ?_
        refine x_val (r_indexAny Try.underlying22 Try.sizeOf28 (en rfl es) es (by omega) (by omega)) (nd_of rfl) rfl ?_
        refine x_val (r_fieldAddrA Try.underlying28 rfl Try.sizeOf23 rfl es) (nd_of rfl) rfl ?_
        refine x_val (r_loadCell Try.isAgg23 es (h.oldCell 1 rfl c4)) (nd_of rfl) rfl ?_
        refine x_val (r_len Try.underlying23 es) (nd_of rfl) rfl ?_
        refine x_val (r_gtr es ec (decide_eq_false (by omega))) (nd_of rfl) rfl ?_
        refine x_val (r_move es) (nd_of rfl) rfl ?_
        refine x_take (d := 69) rfl rfl es ?_
        refine x_val (r_move (en rfl (en rfl (en rfl (en rfl (en rfl (en rfl (en rfl (en rfl s7))))))))) (nd_of rfl) rfl ?_
        refine x_take (d := 69) rfl rfl (en rfl es) ?_
        refine x_enter (r_call Try.call11 (.cons es .nil)) (nd_of rfl) rfl (lenR h) ?_
        rintro _ w ⟨rfl, h⟩
        refine x_take (d := 69) rfl rfl (en rfl (en rfl es)) ?_
        refine x_val (r_gtr es ec (decide_eq_false (by omega))) (nd_of rfl) rfl ?_
        refine x_val (r_pick_f (en rfl (en rfl (en rfl es))) es) (nd_of rfl) rfl ?_
        refine x_val (r_assign es) (nd_of rfl) rfl ?_
        refine xw_nil ?_
        refine hK18 _ _ ?_
        refine xc_gen (fun g hg => ?_)
        have s0 := (hg 0).trans (en rfl (en rfl (en rfl (en rfl (en rfl (en rfl (en rfl (en rfl (en rfl (en rfl (en rfl (en rfl (en rfl s0)))))))))))))
        have s1 := (hg 1).trans (en rfl (en rfl (en rfl (en rfl (en rfl (en rfl (en rfl (en rfl (en rfl (en rfl (en rfl (en rfl (en rfl s1)))))))))))))
        have s2 := (hg 2).trans (en rfl (en rfl (en rfl (en rfl (en rfl (en rfl (en rfl (en rfl (en rfl (en rfl (en rfl (en rfl (en rfl s2)))))))))))))
        have s6 := (hg 6).trans (en rfl (en rfl (en rfl (en rfl (en rfl (en rfl (en rfl (en rfl (en rfl (en rfl (en rfl (en rfl (en rfl s6)))))))))))))
        have s7 := (hg 7).trans (en rfl (en rfl (en rfl (en rfl (en rfl (en rfl (en rfl (en rfl (en rfl (en rfl (en rfl (en rfl (en rfl s7)))))))))))))
        have s8 := (hg 8).trans (en rfl (en rfl (en rfl (en rfl (en rfl (en rfl (en rfl (en rfl (en rfl (en rfl (en rfl (en rfl (en rfl s8)))))))))))))
        have s38 := (hg 38).trans (en rfl (en rfl (en rfl (en rfl (en rfl (en rfl (en rfl (en rfl (en rfl (en rfl (en rfl (en rfl (en rfl s38)))))))))))))
        have s45 := (hg 45).trans (en rfl (en rfl (en rfl (en rfl (en rfl (en rfl (en rfl (en rfl (en rfl (en rfl (en rfl (en rfl (en rfl s45)))))))))))))
        have s46 := (hg 46).trans (en rfl (en rfl (en rfl (en rfl (en rfl (en rfl (en rfl (en rfl (en rfl (en rfl (en rfl (en rfl (en rfl s46)))))))))))))
        have s47 := (hg 47).trans (en rfl (en rfl (en rfl (en rfl (en rfl (en rfl (en rfl (en rfl (en rfl (en rfl (en rfl (en rfl (en rfl s47)))))))))))))
        have s61 := (hg 61).trans es
        clear hg
        refine xc_cond s61 (fun hc => by cases hc) (fun _ => ?_)
        refine xc_seq (fun K hK19 => ?_)
        refine xc_region ?_
        refine x_val (r_move s0) (nd_of rfl) rfl ?_
        refine x_val (r_move (en rfl s8)) (nd_of rfl) rfl ?_
        refine x_val (r_indexAny Try.underlying22 Try.sizeOf28 (en rfl es) es (by omega) (by omega)) (nd_of rfl) rfl ?_
        refine x_val (r_fieldAddrA Try.underlying28 rfl Try.sizeOf3 rfl es) (nd_of rfl) rfl ?_
        refine x_val (r_loadCell Try.isAgg3 es (h.oldCell 1 rfl (hcell 0 _ rfl))) (nd_of rfl) rfl ?_
        refine x_val (r_eql es ec rfl) (nd_of rfl) rfl ?_
        refine x_val (r_assign es) (nd_of rfl) rfl ?_
        refine xw_nil ?_
        refine hK19 _ _ ?_
        refine xc_gen (fun g hg => ?_)
        have s0 := (hg 0).trans (en rfl (en rfl (en rfl (en rfl (en rfl (en rfl (en rfl s0)))))))
        have s1 := (hg 1).trans (en rfl (en rfl (en rfl (en rfl (en rfl (en rfl (en rfl s1)))))))
        have s2 := (hg 2).trans (en rfl (en rfl (en rfl (en rfl (en rfl (en rfl (en rfl s2)))))))
        have s6 := (hg 6).trans (en rfl (en rfl (en rfl (en rfl (en rfl (en rfl (en rfl s6)))))))
        have s7 := (hg 7).trans (en rfl (en rfl (en rfl (en rfl (en rfl (en rfl (en rfl s7)))))))
        have s8 := (hg 8).trans (en rfl (en rfl (en rfl (en rfl (en rfl (en rfl (en rfl s8)))))))
        have s38 := (hg 38).trans (en rfl (en rfl (en rfl (en rfl (en rfl (en rfl (en rfl s38)))))))
        have s45 := (hg 45).trans (en rfl (en rfl (en rfl (en rfl (en rfl (en rfl (en rfl s45)))))))
        have s46 := (hg 46).trans (en rfl (en rfl (en rfl (en rfl (en rfl (en rfl (en rfl s46)))))))
        have s47 := (hg 47).trans (en rfl (en rfl (en rfl (en rfl (en rfl (en rfl (en rfl s47)))))))
        have s61 := (hg 61).trans (en rfl (en rfl (en rfl (en rfl (en rfl (en rfl (en rfl s61)))))))
        have s74 := (hg 74).trans es
        clear hg
        refine xc_cond s74 (fun hc => ?_) (fun hc => ?_)
        ·
          refine xc_plan 11 [(0, 2), (1, 2), (2, 2), (3, 2), (4, 2), (5, 1), (6, 2), (7, 2), (8, 2), (9, 2), (10, 1), (11, 0)] (by kernel_rfl) rfl (by kernel_rfl) h ?_
          have h := h.drew
          refine xp_read (i := 0) rfl (fun W => r_move s7) rfl (fun _ _ _ hh => by first | exact bodyR_np hh | exact bodyY_np hh | exact hh) ?_
          refine xp_read (i := 1) rfl (fun W => r_move (en rfl s0)) rfl (fun _ _ _ hh => by first | exact bodyR_np hh | exact bodyY_np hh | exact hh) ?_
          refine xp_read (i := 2) rfl (fun W => r_move (en rfl (en rfl s8))) rfl (fun _ _ _ hh => by first | exact bodyR_np hh | exact bodyY_np hh | exact hh) ?_
          refine xp_read (i := 3) rfl (fun W => r_indexAny Try.underlying22 Try.sizeOf28 (en rfl es) es (by omega) (by omega)) rfl (fun _ _ _ hh => by first | exact bodyR_np hh | exact bodyY_np hh | exact hh) ?_
          refine xp_read (i := 4) rfl (fun W => r_fieldAddrA Try.underlying28 rfl Try.sizeOf3 rfl es) rfl (fun _ _ _ hh => by first | exact bodyR_np hh | exact bodyY_np hh | exact hh) ?_
          refine xp_load (i := 5) rfl (fun W hW => r_loadCell Try.isAgg3 es (hW.oldCell 1 rfl (hcell 1 _ rfl))) rfl (fun _ _ _ hh => by first | exact bodyR_np hh | exact bodyY_np hh | exact hh) ?_
          refine xp_read (i := 6) rfl (fun W => r_move (en rfl (en rfl (en rfl (en rfl (en rfl (en rfl s0))))))) rfl (fun _ _ _ hh => by first | exact bodyR_np hh | exact bodyY_np hh | exact hh) ?_
          refine xp_read (i := 7) rfl (fun W => r_move (en rfl (en rfl (en rfl (en rfl (en rfl (en rfl (en rfl s8)))))))) rfl (fun _ _ _ hh => by first | exact bodyR_np hh | exact bodyY_np hh | exact hh) ?_
          refine xp_read (i := 8) rfl (fun W => r_indexAny Try.underlying22 Try.sizeOf28 (en rfl es) es (by omega) (by omega)) rfl (fun _ _ _ hh => by first | exact bodyR_np hh | exact bodyY_np hh | exact hh) ?_
          refine xp_read (i := 9) rfl (fun W => r_fieldAddrA Try.underlying28 rfl Try.sizeOf3 rfl es) rfl (fun _ _ _ hh => by first | exact bodyR_np hh | exact bodyY_np hh | exact hh) ?_
          refine xp_load (i := 10) rfl (fun W hW => r_loadCell Try.isAgg3 es (hW.oldCell 1 rfl (hcell 2 _ rfl))) rfl (fun _ _ _ hh => by first | exact bodyR_np hh | exact bodyY_np hh | exact hh) ?_
          refine xp_enter (i := 11) rfl (r_call Try.call12 (.cons (en rfl (en rfl (en rfl (en rfl (en rfl (en rfl (en rfl (en rfl (en rfl (en rfl es)))))))))) (.cons (en rfl (en rfl (en rfl (en rfl (en rfl es))))) (.cons es .nil)))) rfl (delete_any (B' := 4000) (by omega) (by omega) (by omega) h) ?_
          rintro _ w ⟨e9, t9, rfl, hl9, h⟩
          refine ⟨(fun hh => absurd rfl hh), ?_⟩
          refine xp_nil ?_
          refine hK16 _ _ ?_
          refine xc_gen (fun g hg => ?_)
          have s0 := (hg 0).trans (en rfl (en rfl (en rfl (en rfl (en rfl (en rfl (en rfl (en rfl (en rfl (en rfl (en rfl (en rfl s0))))))))))))
          have s1 := (hg 1).trans (en rfl (en rfl (en rfl (en rfl (en rfl (en rfl (en rfl (en rfl (en rfl (en rfl (en rfl (en rfl s1))))))))))))
          have s2 := (hg 2).trans (en rfl (en rfl (en rfl (en rfl (en rfl (en rfl (en rfl (en rfl (en rfl (en rfl (en rfl (en rfl s2))))))))))))
          have s6 := (hg 6).trans (en rfl (en rfl (en rfl (en rfl (en rfl (en rfl (en rfl (en rfl (en rfl (en rfl (en rfl (en rfl s6))))))))))))
          have s7 := (hg 7).trans (en rfl (en rfl (en rfl (en rfl (en rfl (en rfl (en rfl (en rfl (en rfl (en rfl (en rfl (en rfl s7))))))))))))
          have s8 := (hg 8).trans (en rfl (en rfl (en rfl (en rfl (en rfl (en rfl (en rfl (en rfl (en rfl (en rfl (en rfl (en rfl s8))))))))))))
          have s38 := (hg 38).trans (en rfl (en rfl (en rfl (en rfl (en rfl (en rfl (en rfl (en rfl (en rfl (en rfl (en rfl (en rfl s38))))))))))))
          have s45 := (hg 45).trans (en rfl (en rfl (en rfl (en rfl (en rfl (en rfl (en rfl (en rfl (en rfl (en rfl (en rfl (en rfl s45))))))))))))
          have s46 := (hg 46).trans (en rfl (en rfl (en rfl (en rfl (en rfl (en rfl (en rfl (en rfl (en rfl (en rfl (en rfl (en rfl s46))))))))))))
          have s47 := (hg 47).trans (en rfl (en rfl (en rfl (en rfl (en rfl (en rfl (en rfl (en rfl (en rfl (en rfl (en rfl (en rfl s47))))))))))))
          have s61 := (hg 61).trans (en rfl (en rfl (en rfl (en rfl (en rfl (en rfl (en rfl (en rfl (en rfl (en rfl (en rfl (en rfl s61))))))))))))
          have s74 := (hg 74).trans (en rfl (en rfl (en rfl (en rfl (en rfl (en rfl (en rfl (en rfl (en rfl (en rfl (en rfl (en rfl s74))))))))))))
          clear hg
          refine xc_region ?_
          refine x_val (r_add s46 ec (show _ = (((k + 1 : Nat) : Int) : Int) from by omega) (by unfold I64; omega)) (nd_of rfl) rfl ?_
          refine x_val (r_move es) (nd_of rfl) rfl ?_
          refine xw_nil ?_
          exact ⟨os.length - (k + 1), by omega, ⟨k + 1, t9, rfl, by omega, by omega, es, h⟩, ⟨((en rfl (en rfl s0))).trans zG7_0.symm, ((en rfl (en rfl s1))).trans zG7_1.symm, ((en rfl (en rfl s2))).trans zG7_2.symm, ((en rfl (en rfl s6))).trans zG7_6.symm, ((en rfl (en rfl s7))).trans zG7_7.symm, ((en rfl (en rfl s38))).trans zG7_38.symm, ((en rfl (en rfl s45))).trans zG7_45.symm⟩⟩
        ·
          refine xc_plan 11 [(0, 2), (1, 2), (2, 2), (3, 2), (4, 2), (5, 1), (6, 2), (7, 2), (8, 2), (9, 2), (10, 1), (11, 0)] (by kernel_rfl) rfl (by kernel_rfl) h ?_
          have h := h.drew
          refine xp_read (i := 0) rfl (fun W => r_move s7) rfl (fun _ _ _ hh => by first | exact bodyR_np hh | exact bodyY_np hh | exact hh) ?_
          refine xp_read (i := 1) rfl (fun W => r_move (en rfl s0)) rfl (fun _ _ _ hh => by first | exact bodyR_np hh | exact bodyY_np hh | exact hh) ?_
          refine xp_read (i := 2) rfl (fun W => r_move (en rfl (en rfl s8))) rfl (fun _ _ _ hh => by first | exact bodyR_np hh | exact bodyY_np hh | exact hh) ?_
          refine xp_read (i := 3) rfl (fun W => r_indexAny Try.underlying22 Try.sizeOf28 (en rfl es) es (by omega) (by omega)) rfl (fun _ _ _ hh => by first | exact bodyR_np hh | exact bodyY_np hh | exact hh) ?_
          refine xp_read (i := 4) rfl (fun W => r_fieldAddrA Try.underlying28 rfl Try.sizeOf3 rfl es) rfl (fun _ _ _ hh => by first | exact bodyR_np hh | exact bodyY_np hh | exact hh) ?_
          refine xp_load (i := 5) rfl (fun W hW => r_loadCell Try.isAgg3 es (hW.oldCell 1 rfl (hcell 1 _ rfl))) rfl (fun _ _ _ hh => by first | exact bodyR_np hh | exact bodyY_np hh | exact hh) ?_
          refine xp_read (i := 6) rfl (fun W => r_move (en rfl (en rfl (en rfl (en rfl (en rfl (en rfl s0))))))) rfl (fun _ _ _ hh => by first | exact bodyR_np hh | exact bodyY_np hh | exact hh) ?_
          refine xp_read (i := 7) rfl (fun W => r_move (en rfl (en rfl (en rfl (en rfl (en rfl (en rfl (en rfl s8)))))))) rfl (fun _ _ _ hh => by first | exact bodyR_np hh | exact bodyY_np hh | exact hh) ?_
          refine xp_read (i := 8) rfl (fun W => r_indexAny Try.underlying22 Try.sizeOf28 (en rfl es) es (by omega) (by omega)) rfl (fun _ _ _ hh => by first | exact bodyR_np hh | exact bodyY_np hh | exact hh) ?_
          refine xp_read (i := 9) rfl (fun W => r_fieldAddrA Try.underlying28 rfl Try.sizeOf23 rfl es) rfl (fun _ _ _ hh => by first | exact bodyR_np hh | exact bodyY_np hh | exact hh) ?_
          refine xp_load (i := 10) rfl (fun W hW => r_loadCell Try.isAgg23 es (hW.oldCell 1 rfl c4)) rfl (fun _ _ _ hh => by first | exact bodyR_np hh | exact bodyY_np hh | exact hh) ?_
          refine xp_enter (i := 11) rfl (r_call Try.call13 (.cons (en rfl (en rfl (en rfl (en rfl (en rfl (en rfl (en rfl (en rfl (en rfl (en rfl es)))))))))) (.cons (en rfl (en rfl (en rfl (en rfl (en rfl es))))) (.cons es .nil)))) rfl (insert_any (B' := 4000) (hsp.old 0 rfl) (by omega) (by omega) (by omega) h) ?_
          rintro _ w ⟨e9, t9, rfl, hl9, h⟩
          refine ⟨(fun hh => absurd rfl hh), ?_⟩
          refine xp_nil ?_
          refine hK16 _ _ ?_
          refine xc_gen (fun g hg => ?_)
          have s0 := (hg 0).trans (en rfl (en rfl (en rfl (en rfl (en rfl (en rfl (en rfl (en rfl (en rfl (en rfl (en rfl (en rfl s0))))))))))))
          have s1 := (hg 1).trans (en rfl (en rfl (en rfl (en rfl (en rfl (en rfl (en rfl (en rfl (en rfl (en rfl (en rfl (en rfl s1))))))))))))
          have s2 := (hg 2).trans (en rfl (en rfl (en rfl (en rfl (en rfl (en rfl (en rfl (en rfl (en rfl (en rfl (en rfl (en rfl s2))))))))))))
          have s6 := (hg 6).trans (en rfl (en rfl (en rfl (en rfl (en rfl (en rfl (en rfl (en rfl (en rfl (en rfl (en rfl (en rfl s6))))))))))))
          have s7 := (hg 7).trans (en rfl (en rfl (en rfl (en rfl (en rfl (en rfl (en rfl (en rfl (en rfl (en rfl (en rfl (en rfl s7))))))))))))
          have s8 := (hg 8).trans (en rfl (en rfl (en rfl (en rfl (en rfl (en rfl (en rfl (en rfl (en rfl (en rfl (en rfl (en rfl s8))))))))))))
          have s38 := (hg 38).trans (en rfl (en rfl (en rfl (en rfl (en rfl (en rfl (en rfl (en rfl (en rfl (en rfl (en rfl (en rfl s38))))))))))))
          have s45 := (hg 45).trans (en rfl (en rfl (en rfl (en rfl (en rfl (en rfl (en rfl (en rfl (en rfl (en rfl (en rfl (en rfl s45))))))))))))
          have s46 := (hg 46).trans (en rfl (en rfl (en rfl (en rfl (en rfl (en rfl (en rfl (en rfl (en rfl (en rfl (en rfl (en rfl s46))))))))))))
          have s47 := (hg 47).trans (en rfl (en rfl (en rfl (en rfl (en rfl (en rfl (en rfl (en rfl (en rfl (en rfl (en rfl (en rfl s47))))))))))))
          have s61 := (hg 61).trans (en rfl (en rfl (en rfl (en rfl (en rfl (en rfl (en rfl (en rfl (en rfl (en rfl (en rfl (en rfl s61))))))))))))
          have s74 := (hg 74).trans (en rfl (en rfl (en rfl (en rfl (en rfl (en rfl (en rfl (en rfl (en rfl (en rfl (en rfl (en rfl s74))))))))))))
          clear hg
          refine xc_region ?_
          refine x_val (r_add s46 ec (show _ = (((k + 1 : Nat) : Int) : Int) from by omega) (by unfold I64; omega)) (nd_of rfl) rfl ?_
          refine x_val (r_move es) (nd_of rfl) rfl ?_
          refine xw_nil ?_
          exact ⟨os.length - (k + 1), by omega, ⟨k + 1, t9, rfl, by omega, by omega, es, h⟩, ⟨((en rfl (en rfl s0))).trans zG7_0.symm, ((en rfl (en rfl s1))).trans zG7_1.symm, ((en rfl (en rfl s2))).trans zG7_2.symm, ((en rfl (en rfl s6))).trans zG7_6.symm, ((en rfl (en rfl s7))).trans zG7_7.symm, ((en rfl (en rfl s38))).trans zG7_38.symm, ((en rfl (en rfl s45))).trans zG7_45.symm⟩⟩
  ·
    refine xc_exit ?_
    refine hK5 _ _ ?_
    refine xc_seq (fun K hK20 => ?_)
    have htc := h.rpCode
    refine xc_region ?_
    refine x_val (r_move s7) (nd_of rfl) rfl ?_
    refine x_val (r_move (en rfl s7)) (nd_of rfl) rfl ?_
    refine x_enter (r_call Try.call11 (.cons es .nil)) (nd_of rfl) rfl (lenR h) ?_
    rintro _ w ⟨rfl, h⟩
    refine x_enter (r_call Try.call14 (.cons (en rfl (en rfl es)) (.cons ec (.cons es .nil)))) (nd_of rfl) rfl (slice_all (by omega) h) ?_
    rintro _ w ⟨vw, rfl, h⟩
    refine x_val (r_move es) (nd_of rfl) rfl ?_
    refine x_val (r_extract es gc0) (nd_of rfl) rfl ?_
    refine x_val (r_extract (en rfl es) gc1) (nd_of rfl) rfl ?_
    refine x_val (r_assign (en rfl es)) (nd_of rfl) rfl ?_
    refine x_val (r_assign (en rfl es)) (nd_of rfl) rfl ?_
    refine xw_nil ?_
    refine hK20 _ _ ?_
    refine xc_gen (fun g hg => ?_)
    have s0 := (hg 0).trans (en rfl (en rfl (en rfl (en rfl (en rfl (en rfl (en rfl (en rfl (en rfl s0)))))))))
    have s1 := (hg 1).trans (en rfl (en rfl (en rfl (en rfl (en rfl (en rfl (en rfl (en rfl (en rfl s1)))))))))
    have s2 := (hg 2).trans (en rfl (en rfl (en rfl (en rfl (en rfl (en rfl (en rfl (en rfl (en rfl s2)))))))))
    have s6 := (hg 6).trans (en rfl (en rfl (en rfl (en rfl (en rfl (en rfl (en rfl (en rfl (en rfl s6)))))))))
    have s7 := (hg 7).trans (en rfl (en rfl (en rfl (en rfl (en rfl (en rfl (en rfl (en rfl (en rfl s7)))))))))
    have s9 := (hg 9).trans (en rfl es)
    have s10 := (hg 10).trans es
    have s38 := (hg 38).trans (en rfl (en rfl (en rfl (en rfl (en rfl (en rfl (en rfl (en rfl (en rfl s38)))))))))
    have s45 := (hg 45).trans (en rfl (en rfl (en rfl (en rfl (en rfl (en rfl (en rfl (en rfl (en rfl s45)))))))))
    have s46 := (hg 46).trans (en rfl (en rfl (en rfl (en rfl (en rfl (en rfl (en rfl (en rfl (en rfl s46)))))))))
    have s47 := (hg 47).trans (en rfl (en rfl (en rfl (en rfl (en rfl (en rfl (en rfl (en rfl (en rfl s47)))))))))
    clear hg
    rcases Decidable.em (insE t zs i = 0) with he | he
    ·
      skip
      refine xc_seq (fun K hK21 => ?_)
      refine xc_seq (fun K hK22 => ?_)
      obtain ⟨hzc, p0, p1, p2⟩ := insE_zero he
      obtain ⟨ni, rfl⟩ := Int.eq_ofNat_of_zero_le p0
      obtain ⟨T1, hT1⟩ : ∃ T1, T1 = t.take ni ++ (zs ++ t.drop ni) := ⟨_, rfl⟩
      have hl1 : T1.length = t.length + zs.length := by rw [hT1]; simp only [List.length_append, List.length_take, List.length_drop]; omega
      have hmid := back_mid (t := t) (zs := zs) (n := ni) (by omega)
      have hdel := back_del (t := t) (zs := zs) (n := ni) (by omega)
      rw [← hT1] at hmid hdel
      have heo : insE [] t 0 = 0 := insE_mk htc ⟨by omega, by omega, by simp⟩
      refine xc_region ?_
      refine x_val (r_move s10) (nd_of rfl) rfl ?_
      refine x_val (r_neq es ec (r := false) rfl) (nd_of rfl) rfl ?_
      refine xw_nil ?_
      refine hK22 _ _ ?_
      refine xc_gen (fun g hg => ?_)
      have s0 := (hg 0).trans (en rfl (en rfl s0))
      have s1 := (hg 1).trans (en rfl (en rfl s1))
      have s2 := (hg 2).trans (en rfl (en rfl s2))
      have s6 := (hg 6).trans (en rfl (en rfl s6))
      have s7 := (hg 7).trans (en rfl (en rfl s7))
      have s9 := (hg 9).trans (en rfl (en rfl s9))
      have s10 := (hg 10).trans (en rfl (en rfl s10))
      have s38 := (hg 38).trans (en rfl (en rfl s38))
      have s45 := (hg 45).trans (en rfl (en rfl s45))
      have s46 := (hg 46).trans (en rfl (en rfl s46))
      have s47 := (hg 47).trans (en rfl (en rfl s47))
      have s102 := (hg 102).trans es
      clear hg
      refine xc_cond s102 (fun hc => by cases hc) (fun _ => ?_)
      refine xc_skip ?_
      refine hK21 _ _ ?_
      refine xc_seq (fun K hK23 => ?_)
      refine xc_seq (fun K hK24 => ?_)
      refine xc_region ?_
      refine x_val (r_move s7) (nd_of rfl) rfl ?_
      refine x_val (r_move (en rfl s1)) (nd_of rfl) rfl ?_
      refine x_val (r_move (en rfl (en rfl s2))) (nd_of rfl) rfl ?_
      have h := h.f1
      refine x_enter (r_call Try.call13 (.cons (en rfl (en rfl es)) (.cons (en rfl es) (.cons es .nil)))) (nd_of rfl) rfl (insert_yes he ((hrm E R).up) (B' := 6000) (by omega) (by omega) (by omega) h) ?_
      rintro _ w ⟨rfl, h⟩
      rw [Int.toNat_natCast, ← hT1] at h
      refine x_val (r_neq es ec (r := false) rfl) (nd_of rfl) rfl ?_
      refine xw_nil ?_
      refine hK24 _ _ ?_
      refine xc_gen (fun g hg => ?_)
      have s0 := (hg 0).trans (en rfl (en rfl (en rfl (en rfl (en rfl s0)))))
      have s1 := (hg 1).trans (en rfl (en rfl (en rfl (en rfl (en rfl s1)))))
      have s2 := (hg 2).trans (en rfl (en rfl (en rfl (en rfl (en rfl s2)))))
      have s6 := (hg 6).trans (en rfl (en rfl (en rfl (en rfl (en rfl s6)))))
      have s7 := (hg 7).trans (en rfl (en rfl (en rfl (en rfl (en rfl s7)))))
      have s9 := (hg 9).trans (en rfl (en rfl (en rfl (en rfl (en rfl s9)))))
      have s10 := (hg 10).trans (en rfl (en rfl (en rfl (en rfl (en rfl s10)))))
      have s38 := (hg 38).trans (en rfl (en rfl (en rfl (en rfl (en rfl s38)))))
      have s45 := (hg 45).trans (en rfl (en rfl (en rfl (en rfl (en rfl s45)))))
      have s46 := (hg 46).trans (en rfl (en rfl (en rfl (en rfl (en rfl s46)))))
      have s47 := (hg 47).trans (en rfl (en rfl (en rfl (en rfl (en rfl s47)))))
      have s102 := (hg 102).trans (en rfl (en rfl (en rfl (en rfl (en rfl s102)))))
      have s107 := (hg 107).trans es
      clear hg
      refine xc_cond s107 (fun hc => by cases hc) (fun _ => ?_)
      refine xc_skip ?_
      refine hK23 _ _ ?_
      refine xc_seq (fun K hK25 => ?_)
      refine xc_region ?_
      refine x_val (r_move s7) (nd_of rfl) rfl ?_
      refine x_val (r_move (en rfl s1)) (nd_of rfl) rfl ?_
      refine x_val (r_move (en rfl (en rfl s1))) (nd_of rfl) rfl ?_
      refine x_val (r_move (en rfl (en rfl (en rfl s2)))) (nd_of rfl) rfl ?_
      refine x_val (r_len Try.underlying23 es) (nd_of rfl) rfl ?_
      refine x_val (r_add (en rfl (en rfl es)) es (show _ = (((ni + zs.length : Nat) : Int) : Int) from by omega) (by unfold I64; omega)) (nd_of rfl) rfl ?_
      refine x_enter (r_call Try.call14 (.cons (en rfl (en rfl (en rfl (en rfl (en rfl es))))) (.cons (en rfl (en rfl (en rfl (en rfl es)))) (.cons es .nil)))) (nd_of rfl) rfl (sliceR ⟨by omega, by omega, by omega⟩ (by omega) h) ?_
      rintro _ w ⟨vx, rfl, h⟩
      rw [Int.toNat_natCast, Int.toNat_natCast, hmid] at h
      refine x_val (r_move es) (nd_of rfl) rfl ?_
      refine x_val (r_extract es gc0) (nd_of rfl) rfl ?_
      refine x_val (r_extract (en rfl es) gc1) (nd_of rfl) rfl ?_
      refine x_val (r_assign (en rfl es)) (nd_of rfl) rfl ?_
      refine x_val (r_assign (en rfl es)) (nd_of rfl) rfl ?_
      refine xw_nil ?_
      refine hK25 _ _ ?_
      refine xc_gen (fun g hg => ?_)
      have s0 := (hg 0).trans (en rfl (en rfl (en rfl (en rfl (en rfl (en rfl (en rfl (en rfl (en rfl (en rfl (en rfl (en rfl s0))))))))))))
      have s1 := (hg 1).trans (en rfl (en rfl (en rfl (en rfl (en rfl (en rfl (en rfl (en rfl (en rfl (en rfl (en rfl (en rfl s1))))))))))))
      have s2 := (hg 2).trans (en rfl (en rfl (en rfl (en rfl (en rfl (en rfl (en rfl (en rfl (en rfl (en rfl (en rfl (en rfl s2))))))))))))
      have s6 := (hg 6).trans (en rfl (en rfl (en rfl (en rfl (en rfl (en rfl (en rfl (en rfl (en rfl (en rfl (en rfl (en rfl s6))))))))))))
      have s7 := (hg 7).trans (en rfl (en rfl (en rfl (en rfl (en rfl (en rfl (en rfl (en rfl (en rfl (en rfl (en rfl (en rfl s7))))))))))))
      have s9 := (hg 9).trans (en rfl (en rfl (en rfl (en rfl (en rfl (en rfl (en rfl (en rfl (en rfl (en rfl (en rfl (en rfl s9))))))))))))
      have s10 := (hg 10).trans (en rfl (en rfl (en rfl (en rfl (en rfl (en rfl (en rfl (en rfl (en rfl (en rfl (en rfl (en rfl s10))))))))))))
      have s11 := (hg 11).trans (en rfl es)
      have s12 := (hg 12).trans es
      have s38 := (hg 38).trans (en rfl (en rfl (en rfl (en rfl (en rfl (en rfl (en rfl (en rfl (en rfl (en rfl (en rfl (en rfl s38))))))))))))
      have s45 := (hg 45).trans (en rfl (en rfl (en rfl (en rfl (en rfl (en rfl (en rfl (en rfl (en rfl (en rfl (en rfl (en rfl s45))))))))))))
      have s46 := (hg 46).trans (en rfl (en rfl (en rfl (en rfl (en rfl (en rfl (en rfl (en rfl (en rfl (en rfl (en rfl (en rfl s46))))))))))))
      have s47 := (hg 47).trans (en rfl (en rfl (en rfl (en rfl (en rfl (en rfl (en rfl (en rfl (en rfl (en rfl (en rfl (en rfl s47))))))))))))
      have s102 := (hg 102).trans (en rfl (en rfl (en rfl (en rfl (en rfl (en rfl (en rfl (en rfl (en rfl (en rfl (en rfl (en rfl s102))))))))))))
      have s107 := (hg 107).trans (en rfl (en rfl (en rfl (en rfl (en rfl (en rfl (en rfl (en rfl (en rfl (en rfl (en rfl (en rfl s107))))))))))))
      clear hg
      refine xc_seq (fun K hK26 => ?_)
      refine xc_seq (fun K hK27 => ?_)
      refine xc_region ?_
      refine x_val (r_move s12) (nd_of rfl) rfl ?_
      refine x_val (r_neq es ec (r := false) rfl) (nd_of rfl) rfl ?_
      refine x_val (r_move es) (nd_of rfl) rfl ?_
      refine x_take (d := 121) rfl rfl es ?_
      refine x_val (r_move (en rfl (en rfl (en rfl s11)))) (nd_of rfl) rfl ?_
      refine x_take (d := 121) rfl rfl (en rfl es) ?_
      refine x_val (r_move (en rfl (en rfl (en rfl (en rfl s2))))) (nd_of rfl) rfl ?_
      refine x_take (d := 121) rfl rfl (en rfl (en rfl es)) ?_
      refine x_enter (r_call Try.call15 (.cons (en rfl es) (.cons es .nil))) (nd_of rfl) rfl (same_yes (zs := zs) rowReads (((hrm E R).up).up.up) (by omega) h) ?_
      rintro _ w ⟨rfl, h⟩
      refine x_take (d := 121) rfl rfl (en rfl (en rfl (en rfl es))) ?_
      refine x_val (r_not es rfl) (nd_of rfl) rfl ?_
      refine x_val (r_pick_f (en rfl (en rfl (en rfl (en rfl es)))) es) (nd_of rfl) rfl ?_
      refine x_val (r_move es) (nd_of rfl) rfl ?_
      refine x_take (d := 127) rfl rfl es ?_
      refine x_val (r_move (en rfl (en rfl (en rfl (en rfl (en rfl (en rfl (en rfl (en rfl (en rfl s7)))))))))) (nd_of rfl) rfl ?_
      refine x_take (d := 127) rfl rfl (en rfl es) ?_
      refine x_val (r_move (en rfl (en rfl (en rfl (en rfl (en rfl (en rfl (en rfl (en rfl (en rfl (en rfl s1))))))))))) (nd_of rfl) rfl ?_
      refine x_take (d := 127) rfl rfl (en rfl (en rfl es)) ?_
      refine x_val (r_move (en rfl (en rfl (en rfl (en rfl (en rfl (en rfl (en rfl (en rfl (en rfl (en rfl (en rfl s1)))))))))))) (nd_of rfl) rfl ?_
      refine x_take (d := 127) rfl rfl (en rfl (en rfl (en rfl es))) ?_
      refine x_val (r_move (en rfl (en rfl (en rfl (en rfl (en rfl (en rfl (en rfl (en rfl (en rfl (en rfl (en rfl (en rfl s2))))))))))))) (nd_of rfl) rfl ?_
      refine x_take (d := 127) rfl rfl (en rfl (en rfl (en rfl (en rfl es)))) ?_
      refine x_val (r_len Try.underlying23 es) (nd_of rfl) rfl ?_
      refine x_take (d := 127) rfl rfl (en rfl (en rfl (en rfl (en rfl (en rfl es))))) ?_
      refine x_val (r_add (en rfl (en rfl es)) es (show _ = (((ni + zs.length : Nat) : Int) : Int) from by omega) (by unfold I64; omega)) (nd_of rfl) rfl ?_
      refine x_take (d := 127) rfl rfl (en rfl (en rfl (en rfl (en rfl (en rfl (en rfl es)))))) ?_
      have h := h.f1
      refine x_enter (r_call Try.call12 (.cons (en rfl (en rfl (en rfl (en rfl (en rfl es))))) (.cons (en rfl (en rfl (en rfl (en rfl es)))) (.cons es .nil)))) (nd_of rfl) rfl (deleteR (B' := 6000) ⟨by omega, by omega, by omega⟩ (by omega) (by omega) (by omega) h) ?_
      rintro _ w ⟨rfl, h⟩
      rw [Int.toNat_natCast, Int.toNat_natCast, hdel] at h
      refine x_take (d := 127) rfl rfl (en rfl (en rfl (en rfl (en rfl (en rfl (en rfl (en rfl es))))))) ?_
      refine x_val (r_neq es ec (r := false) rfl) (nd_of rfl) rfl ?_
      refine x_val (r_pick_f (en rfl (en rfl (en rfl (en rfl (en rfl (en rfl (en rfl (en rfl es)))))))) es) (nd_of rfl) rfl ?_
      refine xw_nil ?_
      refine hK27 _ _ ?_
      refine xc_gen (fun g hg => ?_)
      have s0 := (hg 0).trans (en rfl (en rfl (en rfl (en rfl (en rfl (en rfl (en rfl (en rfl (en rfl (en rfl (en rfl (en rfl (en rfl (en rfl (en rfl (en rfl (en rfl (en rfl s0))))))))))))))))))
      have s1 := (hg 1).trans (en rfl (en rfl (en rfl (en rfl (en rfl (en rfl (en rfl (en rfl (en rfl (en rfl (en rfl (en rfl (en rfl (en rfl (en rfl (en rfl (en rfl (en rfl s1))))))))))))))))))
      have s2 := (hg 2).trans (en rfl (en rfl (en rfl (en rfl (en rfl (en rfl (en rfl (en rfl (en rfl (en rfl (en rfl (en rfl (en rfl (en rfl (en rfl (en rfl (en rfl (en rfl s2))))))))))))))))))
      have s6 := (hg 6).trans (en rfl (en rfl (en rfl (en rfl (en rfl (en rfl (en rfl (en rfl (en rfl (en rfl (en rfl (en rfl (en rfl (en rfl (en rfl (en rfl (en rfl (en rfl s6))))))))))))))))))
      have s7 := (hg 7).trans (en rfl (en rfl (en rfl (en rfl (en rfl (en rfl (en rfl (en rfl (en rfl (en rfl (en rfl (en rfl (en rfl (en rfl (en rfl (en rfl (en rfl (en rfl s7))))))))))))))))))
      have s9 := (hg 9).trans (en rfl (en rfl (en rfl (en rfl (en rfl (en rfl (en rfl (en rfl (en rfl (en rfl (en rfl (en rfl (en rfl (en rfl (en rfl (en rfl (en rfl (en rfl s9))))))))))))))))))
      have s10 := (hg 10).trans (en rfl (en rfl (en rfl (en rfl (en rfl (en rfl (en rfl (en rfl (en rfl (en rfl (en rfl (en rfl (en rfl (en rfl (en rfl (en rfl (en rfl (en rfl s10))))))))))))))))))
      have s11 := (hg 11).trans (en rfl (en rfl (en rfl (en rfl (en rfl (en rfl (en rfl (en rfl (en rfl (en rfl (en rfl (en rfl (en rfl (en rfl (en rfl (en rfl (en rfl (en rfl s11))))))))))))))))))
      have s12 := (hg 12).trans (en rfl (en rfl (en rfl (en rfl (en rfl (en rfl (en rfl (en rfl (en rfl (en rfl (en rfl (en rfl (en rfl (en rfl (en rfl (en rfl (en rfl (en rfl s12))))))))))))))))))
      have s38 := (hg 38).trans (en rfl (en rfl (en rfl (en rfl (en rfl (en rfl (en rfl (en rfl (en rfl (en rfl (en rfl (en rfl (en rfl (en rfl (en rfl (en rfl (en rfl (en rfl s38))))))))))))))))))
      have s45 := (hg 45).trans (en rfl (en rfl (en rfl (en rfl (en rfl (en rfl (en rfl (en rfl (en rfl (en rfl (en rfl (en rfl (en rfl (en rfl (en rfl (en rfl (en rfl (en rfl s45))))))))))))))))))
      have s46 := (hg 46).trans (en rfl (en rfl (en rfl (en rfl (en rfl (en rfl (en rfl (en rfl (en rfl (en rfl (en rfl (en rfl (en rfl (en rfl (en rfl (en rfl (en rfl (en rfl s46))))))))))))))))))
      have s47 := (hg 47).trans (en rfl (en rfl (en rfl (en rfl (en rfl (en rfl (en rfl (en rfl (en rfl (en rfl (en rfl (en rfl (en rfl (en rfl (en rfl (en rfl (en rfl (en rfl s47))))))))))))))))))
      have s102 := (hg 102).trans (en rfl (en rfl (en rfl (en rfl (en rfl (en rfl (en rfl (en rfl (en rfl (en rfl (en rfl (en rfl (en rfl (en rfl (en rfl (en rfl (en rfl (en rfl s102))))))))))))))))))
      have s107 := (hg 107).trans (en rfl (en rfl (en rfl (en rfl (en rfl (en rfl (en rfl (en rfl (en rfl (en rfl (en rfl (en rfl (en rfl (en rfl (en rfl (en rfl (en rfl (en rfl s107))))))))))))))))))
      have s136 := (hg 136).trans es
      clear hg
      refine xc_cond s136 (fun hc => by cases hc) (fun _ => ?_)
      refine xc_skip ?_
      refine hK26 _ _ ?_
      refine xc_seq (fun K hK28 => ?_)
      refine xc_region ?_
      refine x_val (r_move s7) (nd_of rfl) rfl ?_
      refine x_val (r_move (en rfl s1)) (nd_of rfl) rfl ?_
      refine x_enter (r_call Try.call16 (.cons (en rfl es) (.cons es .nil))) (nd_of rfl) rfl (splitR (B' := 6000) ⟨by omega, by omega, by omega⟩ (by omega) (by omega) (by omega) h) ?_
      rintro _ w ⟨q, rfl, h⟩
      refine x_val (r_move es) (nd_of rfl) rfl ?_
      refine x_val (r_extract es gc0) (nd_of rfl) rfl ?_
      refine x_val (r_extract (en rfl es) gc1) (nd_of rfl) rfl ?_
      refine x_val (r_assign (en rfl es)) (nd_of rfl) rfl ?_
      refine x_val (r_assign (en rfl es)) (nd_of rfl) rfl ?_
      refine xw_nil ?_
      refine hK28 _ _ ?_
      refine xc_gen (fun g hg => ?_)
      have s0 := (hg 0).trans (en rfl (en rfl (en rfl (en rfl (en rfl (en rfl (en rfl (en rfl s0))))))))
      have s1 := (hg 1).trans (en rfl (en rfl (en rfl (en rfl (en rfl (en rfl (en rfl (en rfl s1))))))))
      have s2 := (hg 2).trans (en rfl (en rfl (en rfl (en rfl (en rfl (en rfl (en rfl (en rfl s2))))))))
      have s6 := (hg 6).trans (en rfl (en rfl (en rfl (en rfl (en rfl (en rfl (en rfl (en rfl s6))))))))
      have s7 := (hg 7).trans (en rfl (en rfl (en rfl (en rfl (en rfl (en rfl (en rfl (en rfl s7))))))))
      have s9 := (hg 9).trans (en rfl (en rfl (en rfl (en rfl (en rfl (en rfl (en rfl (en rfl s9))))))))
      have s10 := (hg 10).trans (en rfl (en rfl (en rfl (en rfl (en rfl (en rfl (en rfl (en rfl s10))))))))
      have s11 := (hg 11).trans (en rfl (en rfl (en rfl (en rfl (en rfl (en rfl (en rfl (en rfl s11))))))))
      have s12 := (hg 12).trans (en rfl (en rfl (en rfl (en rfl (en rfl (en rfl (en rfl (en rfl s12))))))))
      have s13 := (hg 13).trans (en rfl es)
      have s14 := (hg 14).trans es
      have s38 := (hg 38).trans (en rfl (en rfl (en rfl (en rfl (en rfl (en rfl (en rfl (en rfl s38))))))))
      have s45 := (hg 45).trans (en rfl (en rfl (en rfl (en rfl (en rfl (en rfl (en rfl (en rfl s45))))))))
      have s46 := (hg 46).trans (en rfl (en rfl (en rfl (en rfl (en rfl (en rfl (en rfl (en rfl s46))))))))
      have s47 := (hg 47).trans (en rfl (en rfl (en rfl (en rfl (en rfl (en rfl (en rfl (en rfl s47))))))))
      have s102 := (hg 102).trans (en rfl (en rfl (en rfl (en rfl (en rfl (en rfl (en rfl (en rfl s102))))))))
      have s107 := (hg 107).trans (en rfl (en rfl (en rfl (en rfl (en rfl (en rfl (en rfl (en rfl s107))))))))
      have s136 := (hg 136).trans (en rfl (en rfl (en rfl (en rfl (en rfl (en rfl (en rfl (en rfl s136))))))))
      clear hg
      refine xc_seq (fun K hK29 => ?_)
      refine xc_seq (fun K hK30 => ?_)
      refine xc_region ?_
      refine x_val (r_move s14) (nd_of rfl) rfl ?_
      refine x_val (r_neq es ec (r := false) rfl) (nd_of rfl) rfl ?_
      refine x_val (r_move es) (nd_of rfl) rfl ?_
      refine x_take (d := 145) rfl rfl es ?_
      refine x_val (r_move (en rfl (en rfl (en rfl s13)))) (nd_of rfl) rfl ?_
      refine x_take (d := 145) rfl rfl (en rfl es) ?_
      refine x_val (r_eqnil Try.underlying24 es ec (r := false) rfl) (nd_of rfl) rfl ?_
      refine x_val (r_pick_f (en rfl (en rfl es)) es) (nd_of rfl) rfl ?_
      refine x_val (r_move es) (nd_of rfl) rfl ?_
      refine x_take (d := 149) rfl rfl es ?_
      refine x_val (r_move (en rfl (en rfl (en rfl (en rfl (en rfl (en rfl (en rfl s7)))))))) (nd_of rfl) rfl ?_
      refine x_take (d := 149) rfl rfl (en rfl es) ?_
      refine x_val (r_move (en rfl (en rfl (en rfl (en rfl (en rfl (en rfl (en rfl (en rfl s13))))))))) (nd_of rfl) rfl ?_
      refine x_take (d := 149) rfl rfl (en rfl (en rfl es)) ?_
      have h := h.f1
      refine x_enter (r_call Try.call17 (.cons (en rfl es) (.cons es .nil))) (nd_of rfl) rfl (concatR (B' := 6000) (by simp only [List.length_take, List.length_drop]; omega) (by omega) (by omega) h) ?_
      rintro _ w ⟨rfl, h⟩
      rw [Int.toNat_natCast, List.take_append_drop] at h
      refine x_take (d := 149) rfl rfl (en rfl (en rfl (en rfl es))) ?_
      refine x_val (r_neq es ec (r := false) rfl) (nd_of rfl) rfl ?_
      refine x_val (r_pick_f (en rfl (en rfl (en rfl (en rfl es)))) es) (nd_of rfl) rfl ?_
      refine xw_nil ?_
      refine hK30 _ _ ?_
      refine xc_gen (fun g hg => ?_)
      have s0 := (hg 0).trans (en rfl (en rfl (en rfl (en rfl (en rfl (en rfl (en rfl (en rfl (en rfl (en rfl (en rfl (en rfl s0))))))))))))
      have s1 := (hg 1).trans (en rfl (en rfl (en rfl (en rfl (en rfl (en rfl (en rfl (en rfl (en rfl (en rfl (en rfl (en rfl s1))))))))))))
      have s2 := (hg 2).trans (en rfl (en rfl (en rfl (en rfl (en rfl (en rfl (en rfl (en rfl (en rfl (en rfl (en rfl (en rfl s2))))))))))))
      have s6 := (hg 6).trans (en rfl (en rfl (en rfl (en rfl (en rfl (en rfl (en rfl (en rfl (en rfl (en rfl (en rfl (en rfl s6))))))))))))
      have s7 := (hg 7).trans (en rfl (en rfl (en rfl (en rfl (en rfl (en rfl (en rfl (en rfl (en rfl (en rfl (en rfl (en rfl s7))))))))))))
      have s9 := (hg 9).trans (en rfl (en rfl (en rfl (en rfl (en rfl (en rfl (en rfl (en rfl (en rfl (en rfl (en rfl (en rfl s9))))))))))))
      have s10 := (hg 10).trans (en rfl (en rfl (en rfl (en rfl (en rfl (en rfl (en rfl (en rfl (en rfl (en rfl (en rfl (en rfl s10))))))))))))
      have s11 := (hg 11).trans (en rfl (en rfl (en rfl (en rfl (en rfl (en rfl (en rfl (en rfl (en rfl (en rfl (en rfl (en rfl s11))))))))))))
      have s12 := (hg 12).trans (en rfl (en rfl (en rfl (en rfl (en rfl (en rfl (en rfl (en rfl (en rfl (en rfl (en rfl (en rfl s12))))))))))))
      have s13 := (hg 13).trans (en rfl (en rfl (en rfl (en rfl (en rfl (en rfl (en rfl (en rfl (en rfl (en rfl (en rfl (en rfl s13))))))))))))
      have s14 := (hg 14).trans (en rfl (en rfl (en rfl (en rfl (en rfl (en rfl (en rfl (en rfl (en rfl (en rfl (en rfl (en rfl s14))))))))))))
      have s38 := (hg 38).trans (en rfl (en rfl (en rfl (en rfl (en rfl (en rfl (en rfl (en rfl (en rfl (en rfl (en rfl (en rfl s38))))))))))))
      have s45 := (hg 45).trans (en rfl (en rfl (en rfl (en rfl (en rfl (en rfl (en rfl (en rfl (en rfl (en rfl (en rfl (en rfl s45))))))))))))
      have s46 := (hg 46).trans (en rfl (en rfl (en rfl (en rfl (en rfl (en rfl (en rfl (en rfl (en rfl (en rfl (en rfl (en rfl s46))))))))))))
      have s47 := (hg 47).trans (en rfl (en rfl (en rfl (en rfl (en rfl (en rfl (en rfl (en rfl (en rfl (en rfl (en rfl (en rfl s47))))))))))))
      have s102 := (hg 102).trans (en rfl (en rfl (en rfl (en rfl (en rfl (en rfl (en rfl (en rfl (en rfl (en rfl (en rfl (en rfl s102))))))))))))
      have s107 := (hg 107).trans (en rfl (en rfl (en rfl (en rfl (en rfl (en rfl (en rfl (en rfl (en rfl (en rfl (en rfl (en rfl s107))))))))))))
      have s136 := (hg 136).trans (en rfl (en rfl (en rfl (en rfl (en rfl (en rfl (en rfl (en rfl (en rfl (en rfl (en rfl (en rfl s136))))))))))))
      have s154 := (hg 154).trans es
      clear hg
      refine xc_cond s154 (fun hc => by cases hc) (fun _ => ?_)
      refine xc_skip ?_
      refine hK29 _ _ ?_
      refine xc_seq (fun K hK31 => ?_)
      refine xc_region ?_
      refine x_val (r_move s7) (nd_of rfl) rfl ?_
      refine x_val (r_move (en rfl s7)) (nd_of rfl) rfl ?_
      refine x_enter (r_call Try.call11 (.cons es .nil)) (nd_of rfl) rfl (lenR h) ?_
      rintro _ w ⟨rfl, h⟩
      refine x_enter (r_call Try.call14 (.cons (en rfl (en rfl es)) (.cons ec (.cons es .nil)))) (nd_of rfl) rfl (slice_all (by omega) h) ?_
      rintro _ w ⟨vn, rfl, h⟩
      refine x_val (r_move es) (nd_of rfl) rfl ?_
      refine x_val (r_extract es gc0) (nd_of rfl) rfl ?_
      refine x_val (r_extract (en rfl es) gc1) (nd_of rfl) rfl ?_
      refine x_val (r_assign (en rfl es)) (nd_of rfl) rfl ?_
      refine x_val (r_assign (en rfl es)) (nd_of rfl) rfl ?_
      refine xw_nil ?_
      refine hK31 _ _ ?_
      refine xc_gen (fun g hg => ?_)
      have s0 := (hg 0).trans (en rfl (en rfl (en rfl (en rfl (en rfl (en rfl (en rfl (en rfl (en rfl s0)))))))))
      have s1 := (hg 1).trans (en rfl (en rfl (en rfl (en rfl (en rfl (en rfl (en rfl (en rfl (en rfl s1)))))))))
      have s2 := (hg 2).trans (en rfl (en rfl (en rfl (en rfl (en rfl (en rfl (en rfl (en rfl (en rfl s2)))))))))
      have s6 := (hg 6).trans (en rfl (en rfl (en rfl (en rfl (en rfl (en rfl (en rfl (en rfl (en rfl s6)))))))))
      have s7 := (hg 7).trans (en rfl (en rfl (en rfl (en rfl (en rfl (en rfl (en rfl (en rfl (en rfl s7)))))))))
      have s9 := (hg 9).trans (en rfl (en rfl (en rfl (en rfl (en rfl (en rfl (en rfl (en rfl (en rfl s9)))))))))
      have s10 := (hg 10).trans (en rfl (en rfl (en rfl (en rfl (en rfl (en rfl (en rfl (en rfl (en rfl s10)))))))))
      have s11 := (hg 11).trans (en rfl (en rfl (en rfl (en rfl (en rfl (en rfl (en rfl (en rfl (en rfl s11)))))))))
      have s12 := (hg 12).trans (en rfl (en rfl (en rfl (en rfl (en rfl (en rfl (en rfl (en rfl (en rfl s12)))))))))
      have s13 := (hg 13).trans (en rfl (en rfl (en rfl (en rfl (en rfl (en rfl (en rfl (en rfl (en rfl s13)))))))))
      have s14 := (hg 14).trans (en rfl (en rfl (en rfl (en rfl (en rfl (en rfl (en rfl (en rfl (en rfl s14)))))))))
      have s15 := (hg 15).trans (en rfl es)
      have s16 := (hg 16).trans es
      have s38 := (hg 38).trans (en rfl (en rfl (en rfl (en rfl (en rfl (en rfl (en rfl (en rfl (en rfl s38)))))))))
      have s45 := (hg 45).trans (en rfl (en rfl (en rfl (en rfl (en rfl (en rfl (en rfl (en rfl (en rfl s45)))))))))
      have s46 := (hg 46).trans (en rfl (en rfl (en rfl (en rfl (en rfl (en rfl (en rfl (en rfl (en rfl s46)))))))))
      have s47 := (hg 47).trans (en rfl (en rfl (en rfl (en rfl (en rfl (en rfl (en rfl (en rfl (en rfl s47)))))))))
      have s102 := (hg 102).trans (en rfl (en rfl (en rfl (en rfl (en rfl (en rfl (en rfl (en rfl (en rfl s102)))))))))
      have s107 := (hg 107).trans (en rfl (en rfl (en rfl (en rfl (en rfl (en rfl (en rfl (en rfl (en rfl s107)))))))))
      have s136 := (hg 136).trans (en rfl (en rfl (en rfl (en rfl (en rfl (en rfl (en rfl (en rfl (en rfl s136)))))))))
      have s154 := (hg 154).trans (en rfl (en rfl (en rfl (en rfl (en rfl (en rfl (en rfl (en rfl (en rfl s154)))))))))
      clear hg
      refine xc_seq (fun K hK32 => ?_)
      refine xc_seq (fun K hK33 => ?_)
      refine xc_region ?_
      refine x_val (r_move s16) (nd_of rfl) rfl ?_
      refine x_val (r_neq es ec (r := false) rfl) (nd_of rfl) rfl ?_
      refine x_val (r_move es) (nd_of rfl) rfl ?_
      refine x_take (d := 164) rfl rfl es ?_
      refine x_val (r_move (en rfl (en rfl (en rfl s9)))) (nd_of rfl) rfl ?_
      refine x_take (d := 164) rfl rfl (en rfl es) ?_
      refine x_val (r_move (en rfl (en rfl (en rfl (en rfl s15))))) (nd_of rfl) rfl ?_
      refine x_take (d := 164) rfl rfl (en rfl (en rfl es)) ?_
      refine x_enter (r_call Try.call15 (.cons (en rfl es) (.cons es .nil))) (nd_of rfl) rfl (same_yes (zs := t) (fun w h => rowReads w (h.f4)) rowReads (by omega) h) ?_
      rintro _ w ⟨rfl, h⟩
      refine x_take (d := 164) rfl rfl (en rfl (en rfl (en rfl es))) ?_
      refine x_val (r_not es rfl) (nd_of rfl) rfl ?_
      refine x_val (r_pick_f (en rfl (en rfl (en rfl (en rfl es)))) es) (nd_of rfl) rfl ?_
      refine xw_nil ?_
      refine hK33 _ _ ?_
      refine xc_gen (fun g hg => ?_)
      have s0 := (hg 0).trans (en rfl (en rfl (en rfl (en rfl (en rfl (en rfl (en rfl (en rfl s0))))))))
      have s1 := (hg 1).trans (en rfl (en rfl (en rfl (en rfl (en rfl (en rfl (en rfl (en rfl s1))))))))
      have s2 := (hg 2).trans (en rfl (en rfl (en rfl (en rfl (en rfl (en rfl (en rfl (en rfl s2))))))))
      have s6 := (hg 6).trans (en rfl (en rfl (en rfl (en rfl (en rfl (en rfl (en rfl (en rfl s6))))))))
      have s7 := (hg 7).trans (en rfl (en rfl (en rfl (en rfl (en rfl (en rfl (en rfl (en rfl s7))))))))
      have s9 := (hg 9).trans (en rfl (en rfl (en rfl (en rfl (en rfl (en rfl (en rfl (en rfl s9))))))))
      have s10 := (hg 10).trans (en rfl (en rfl (en rfl (en rfl (en rfl (en rfl (en rfl (en rfl s10))))))))
      have s11 := (hg 11).trans (en rfl (en rfl (en rfl (en rfl (en rfl (en rfl (en rfl (en rfl s11))))))))
      have s12 := (hg 12).trans (en rfl (en rfl (en rfl (en rfl (en rfl (en rfl (en rfl (en rfl s12))))))))
      have s13 := (hg 13).trans (en rfl (en rfl (en rfl (en rfl (en rfl (en rfl (en rfl (en rfl s13))))))))
      have s14 := (hg 14).trans (en rfl (en rfl (en rfl (en rfl (en rfl (en rfl (en rfl (en rfl s14))))))))
      have s15 := (hg 15).trans (en rfl (en rfl (en rfl (en rfl (en rfl (en rfl (en rfl (en rfl s15))))))))
      have s16 := (hg 16).trans (en rfl (en rfl (en rfl (en rfl (en rfl (en rfl (en rfl (en rfl s16))))))))
      have s38 := (hg 38).trans (en rfl (en rfl (en rfl (en rfl (en rfl (en rfl (en rfl (en rfl s38))))))))
      have s45 := (hg 45).trans (en rfl (en rfl (en rfl (en rfl (en rfl (en rfl (en rfl (en rfl s45))))))))
      have s46 := (hg 46).trans (en rfl (en rfl (en rfl (en rfl (en rfl (en rfl (en rfl (en rfl s46))))))))
      have s47 := (hg 47).trans (en rfl (en rfl (en rfl (en rfl (en rfl (en rfl (en rfl (en rfl s47))))))))
      have s102 := (hg 102).trans (en rfl (en rfl (en rfl (en rfl (en rfl (en rfl (en rfl (en rfl s102))))))))
      have s107 := (hg 107).trans (en rfl (en rfl (en rfl (en rfl (en rfl (en rfl (en rfl (en rfl s107))))))))
      have s136 := (hg 136).trans (en rfl (en rfl (en rfl (en rfl (en rfl (en rfl (en rfl (en rfl s136))))))))
      have s154 := (hg 154).trans (en rfl (en rfl (en rfl (en rfl (en rfl (en rfl (en rfl (en rfl s154))))))))
      have s169 := (hg 169).trans es
      clear hg
      refine xc_cond s169 (fun hc => by cases hc) (fun _ => ?_)
      refine xc_skip ?_
      refine hK32 _ _ ?_
      refine xc_seq (fun K hK34 => ?_)
      refine xc_region ?_
      refine x_enter (r_call Try.call9 .nil) (nd_of rfl) rfl (newR h) ?_
      rintro _ w ⟨o9, rfl, h⟩
      refine x_val (r_assign es) (nd_of rfl) rfl ?_
      refine xw_nil ?_
      refine hK34 _ _ ?_
      refine xc_gen (fun g hg => ?_)
      have s0 := (hg 0).trans (en rfl (en rfl s0))
      have s1 := (hg 1).trans (en rfl (en rfl s1))
      have s2 := (hg 2).trans (en rfl (en rfl s2))
      have s6 := (hg 6).trans (en rfl (en rfl s6))
      have s7 := (hg 7).trans (en rfl (en rfl s7))
      have s9 := (hg 9).trans (en rfl (en rfl s9))
      have s10 := (hg 10).trans (en rfl (en rfl s10))
      have s11 := (hg 11).trans (en rfl (en rfl s11))
      have s12 := (hg 12).trans (en rfl (en rfl s12))
      have s13 := (hg 13).trans (en rfl (en rfl s13))
      have s14 := (hg 14).trans (en rfl (en rfl s14))
      have s15 := (hg 15).trans (en rfl (en rfl s15))
      have s16 := (hg 16).trans (en rfl (en rfl s16))
      have s17 := (hg 17).trans es
      have s38 := (hg 38).trans (en rfl (en rfl s38))
      have s45 := (hg 45).trans (en rfl (en rfl s45))
      have s46 := (hg 46).trans (en rfl (en rfl s46))
      have s47 := (hg 47).trans (en rfl (en rfl s47))
      have s102 := (hg 102).trans (en rfl (en rfl s102))
      have s107 := (hg 107).trans (en rfl (en rfl s107))
      have s136 := (hg 136).trans (en rfl (en rfl s136))
      have s154 := (hg 154).trans (en rfl (en rfl s154))
      have s169 := (hg 169).trans (en rfl (en rfl s169))
      clear hg
      refine xc_seq (fun K hK35 => ?_)
      refine xc_seq (fun K hK36 => ?_)
      refine xc_region ?_
      refine x_val (r_move s17) (nd_of rfl) rfl ?_
      refine x_val (r_move (en rfl s9)) (nd_of rfl) rfl ?_
      refine x_enter (r_call Try.call13 (.cons (en rfl es) (.cons ec (.cons es .nil)))) (nd_of rfl) rfl (insert_new heo (fun w h => rowReads w (h.f4)) (B' := 6000) (by omega) (by omega) (by omega) h) ?_
      rintro _ w ⟨rfl, h⟩
      refine x_val (r_neq es ec (r := false) rfl) (nd_of rfl) rfl ?_
      refine x_val (r_move es) (nd_of rfl) rfl ?_
      refine x_take (d := 175) rfl rfl es ?_
      refine x_val (r_move (en rfl (en rfl (en rfl (en rfl (en rfl s17)))))) (nd_of rfl) rfl ?_
      refine x_take (d := 175) rfl rfl (en rfl es) ?_
      refine x_enter (r_call Try.call18 (.cons es .nil)) (nd_of rfl) rfl (newlinesR h) ?_
      rintro _ w ⟨rfl, h⟩
      refine x_take (d := 175) rfl rfl (en rfl (en rfl es)) ?_
      refine x_val (r_move (en rfl (en rfl (en rfl (en rfl (en rfl (en rfl (en rfl s7)))))))) (nd_of rfl) rfl ?_
      refine x_take (d := 175) rfl rfl (en rfl (en rfl (en rfl es))) ?_
      have h := h.f2
      refine x_enter (r_call Try.call18 (.cons es .nil)) (nd_of rfl) rfl (newlinesR h) ?_
      rintro _ w ⟨rfl, h⟩
      refine x_take (d := 175) rfl rfl (en rfl (en rfl (en rfl (en rfl es)))) ?_
      refine x_val (r_neq (en rfl (en rfl es)) es (decide_eq_false (by omega))) (nd_of rfl) rfl ?_
      obtain ⟨V, hV⟩ : ∃ V, (t.take ni).count 10 = V := ⟨_, rfl⟩
      have hVc : V ≤ t.count 10 := by rw [← hV]; exact (List.take_sublist ni t).count_le 10
      refine x_val (r_pick_f (en rfl (en rfl (en rfl (en rfl (en rfl es))))) es) (nd_of rfl) rfl ?_
      refine xw_nil ?_
      refine hK36 _ _ ?_
      refine xc_gen (fun g hg => ?_)
      have s0 := (hg 0).trans (en rfl (en rfl (en rfl (en rfl (en rfl (en rfl (en rfl (en rfl (en rfl (en rfl (en rfl s0)))))))))))
      have s1 := (hg 1).trans (en rfl (en rfl (en rfl (en rfl (en rfl (en rfl (en rfl (en rfl (en rfl (en rfl (en rfl s1)))))))))))
      have s2 := (hg 2).trans (en rfl (en rfl (en rfl (en rfl (en rfl (en rfl (en rfl (en rfl (en rfl (en rfl (en rfl s2)))))))))))
      have s6 := (hg 6).trans (en rfl (en rfl (en rfl (en rfl (en rfl (en rfl (en rfl (en rfl (en rfl (en rfl (en rfl s6)))))))))))
      have s7 := (hg 7).trans (en rfl (en rfl (en rfl (en rfl (en rfl (en rfl (en rfl (en rfl (en rfl (en rfl (en rfl s7)))))))))))
      have s9 := (hg 9).trans (en rfl (en rfl (en rfl (en rfl (en rfl (en rfl (en rfl (en rfl (en rfl (en rfl (en rfl s9)))))))))))
      have s10 := (hg 10).trans (en rfl (en rfl (en rfl (en rfl (en rfl (en rfl (en rfl (en rfl (en rfl (en rfl (en rfl s10)))))))))))
      have s11 := (hg 11).trans (en rfl (en rfl (en rfl (en rfl (en rfl (en rfl (en rfl (en rfl (en rfl (en rfl (en rfl s11)))))))))))
      have s12 := (hg 12).trans (en rfl (en rfl (en rfl (en rfl (en rfl (en rfl (en rfl (en rfl (en rfl (en rfl (en rfl s12)))))))))))
      have s13 := (hg 13).trans (en rfl (en rfl (en rfl (en rfl (en rfl (en rfl (en rfl (en rfl (en rfl (en rfl (en rfl s13)))))))))))
      have s14 := (hg 14).trans (en rfl (en rfl (en rfl (en rfl (en rfl (en rfl (en rfl (en rfl (en rfl (en rfl (en rfl s14)))))))))))
      have s15 := (hg 15).trans (en rfl (en rfl (en rfl (en rfl (en rfl (en rfl (en rfl (en rfl (en rfl (en rfl (en rfl s15)))))))))))
      have s16 := (hg 16).trans (en rfl (en rfl (en rfl (en rfl (en rfl (en rfl (en rfl (en rfl (en rfl (en rfl (en rfl s16)))))))))))
      have s17 := (hg 17).trans (en rfl (en rfl (en rfl (en rfl (en rfl (en rfl (en rfl (en rfl (en rfl (en rfl (en rfl s17)))))))))))
      have s38 := (hg 38).trans (en rfl (en rfl (en rfl (en rfl (en rfl (en rfl (en rfl (en rfl (en rfl (en rfl (en rfl s38)))))))))))
      have s45 := (hg 45).trans (en rfl (en rfl (en rfl (en rfl (en rfl (en rfl (en rfl (en rfl (en rfl (en rfl (en rfl s45)))))))))))
      have s46 := (hg 46).trans (en rfl (en rfl (en rfl (en rfl (en rfl (en rfl (en rfl (en rfl (en rfl (en rfl (en rfl s46)))))))))))
      have s47 := (hg 47).trans (en rfl (en rfl (en rfl (en rfl (en rfl (en rfl (en rfl (en rfl (en rfl (en rfl (en rfl s47)))))))))))
      have s102 := (hg 102).trans (en rfl (en rfl (en rfl (en rfl (en rfl (en rfl (en rfl (en rfl (en rfl (en rfl (en rfl s102)))))))))))
      have s107 := (hg 107).trans (en rfl (en rfl (en rfl (en rfl (en rfl (en rfl (en rfl (en rfl (en rfl (en rfl (en rfl s107)))))))))))
      have s136 := (hg 136).trans (en rfl (en rfl (en rfl (en rfl (en rfl (en rfl (en rfl (en rfl (en rfl (en rfl (en rfl s136)))))))))))
      have s154 := (hg 154).trans (en rfl (en rfl (en rfl (en rfl (en rfl (en rfl (en rfl (en rfl (en rfl (en rfl (en rfl s154)))))))))))
      have s169 := (hg 169).trans (en rfl (en rfl (en rfl (en rfl (en rfl (en rfl (en rfl (en rfl (en rfl (en rfl (en rfl s169)))))))))))
      have s181 := (hg 181).trans es
      clear hg
      rcases Nat.eq_zero_or_pos V with hV0 | hV0
      ·
        skip
        refine xc_cond s181 (fun hc => by cases hc) (fun _ => ?_)
        refine xc_skip ?_
        refine hK35 _ _ ?_
        refine xc_seq (fun K hK37 => ?_)
        refine xc_region ?_
        refine x_val (r_move s17) (nd_of rfl) rfl ?_
        refine x_val (r_move (en rfl s1)) (nd_of rfl) rfl ?_
        have h := h.f1
        refine x_enter (r_call Try.call19 (.cons (en rfl es) (.cons es .nil))) (nd_of rfl) rfl (lineOfR (V := V) ⟨by omega, by omega, by omega⟩ (by rw [Int.toNat_natCast]; exact hV) h) ?_
        rintro _ w ⟨rfl, h⟩
        refine x_val (r_move es) (nd_of rfl) rfl ?_
        refine x_val (r_extract es gc0) (nd_of rfl) rfl ?_
        refine x_val (r_extract (en rfl es) gc1) (nd_of rfl) rfl ?_
        refine x_val (r_assign (en rfl es)) (nd_of rfl) rfl ?_
        refine x_val (r_assign (en rfl es)) (nd_of rfl) rfl ?_
        refine xw_nil ?_
        refine hK37 _ _ ?_
        refine xc_gen (fun g hg => ?_)
        have s0 := (hg 0).trans (en rfl (en rfl (en rfl (en rfl (en rfl (en rfl (en rfl (en rfl s0))))))))
        have s1 := (hg 1).trans (en rfl (en rfl (en rfl (en rfl (en rfl (en rfl (en rfl (en rfl s1))))))))
        have s2 := (hg 2).trans (en rfl (en rfl (en rfl (en rfl (en rfl (en rfl (en rfl (en rfl s2))))))))
        have s6 := (hg 6).trans (en rfl (en rfl (en rfl (en rfl (en rfl (en rfl (en rfl (en rfl s6))))))))
        have s7 := (hg 7).trans (en rfl (en rfl (en rfl (en rfl (en rfl (en rfl (en rfl (en rfl s7))))))))
        have s9 := (hg 9).trans (en rfl (en rfl (en rfl (en rfl (en rfl (en rfl (en rfl (en rfl s9))))))))
        have s10 := (hg 10).trans (en rfl (en rfl (en rfl (en rfl (en rfl (en rfl (en rfl (en rfl s10))))))))
        have s11 := (hg 11).trans (en rfl (en rfl (en rfl (en rfl (en rfl (en rfl (en rfl (en rfl s11))))))))
        have s12 := (hg 12).trans (en rfl (en rfl (en rfl (en rfl (en rfl (en rfl (en rfl (en rfl s12))))))))
        have s13 := (hg 13).trans (en rfl (en rfl (en rfl (en rfl (en rfl (en rfl (en rfl (en rfl s13))))))))
        have s14 := (hg 14).trans (en rfl (en rfl (en rfl (en rfl (en rfl (en rfl (en rfl (en rfl s14))))))))
        have s15 := (hg 15).trans (en rfl (en rfl (en rfl (en rfl (en rfl (en rfl (en rfl (en rfl s15))))))))
        have s16 := (hg 16).trans (en rfl (en rfl (en rfl (en rfl (en rfl (en rfl (en rfl (en rfl s16))))))))
        have s17 := (hg 17).trans (en rfl (en rfl (en rfl (en rfl (en rfl (en rfl (en rfl (en rfl s17))))))))
        have s18 := (hg 18).trans (en rfl es)
        have s38 := (hg 38).trans (en rfl (en rfl (en rfl (en rfl (en rfl (en rfl (en rfl (en rfl s38))))))))
        have s45 := (hg 45).trans (en rfl (en rfl (en rfl (en rfl (en rfl (en rfl (en rfl (en rfl s45))))))))
        have s46 := (hg 46).trans (en rfl (en rfl (en rfl (en rfl (en rfl (en rfl (en rfl (en rfl s46))))))))
        have s47 := (hg 47).trans (en rfl (en rfl (en rfl (en rfl (en rfl (en rfl (en rfl (en rfl s47))))))))
        have s102 := (hg 102).trans (en rfl (en rfl (en rfl (en rfl (en rfl (en rfl (en rfl (en rfl s102))))))))
        have s107 := (hg 107).trans (en rfl (en rfl (en rfl (en rfl (en rfl (en rfl (en rfl (en rfl s107))))))))
        have s136 := (hg 136).trans (en rfl (en rfl (en rfl (en rfl (en rfl (en rfl (en rfl (en rfl s136))))))))
        have s154 := (hg 154).trans (en rfl (en rfl (en rfl (en rfl (en rfl (en rfl (en rfl (en rfl s154))))))))
        have s169 := (hg 169).trans (en rfl (en rfl (en rfl (en rfl (en rfl (en rfl (en rfl (en rfl s169))))))))
        have s181 := (hg 181).trans (en rfl (en rfl (en rfl (en rfl (en rfl (en rfl (en rfl (en rfl s181))))))))
        clear hg
        refine xc_seq (fun K hK38 => ?_)
        refine xc_region ?_
        refine x_val (r_move s7) (nd_of rfl) rfl ?_
        refine x_val (r_move (en rfl s1)) (nd_of rfl) rfl ?_
        have h := h.f1
        refine x_enter (r_call Try.call19 (.cons (en rfl es) (.cons es .nil))) (nd_of rfl) rfl (lineOfR (V := V) ⟨by omega, by omega, by omega⟩ (by rw [Int.toNat_natCast]; exact hV) h) ?_
        rintro _ w ⟨rfl, h⟩
        refine x_val (r_move es) (nd_of rfl) rfl ?_
        refine x_val (r_extract es gc0) (nd_of rfl) rfl ?_
        refine x_val (r_extract (en rfl es) gc1) (nd_of rfl) rfl ?_
        refine x_val (r_assign (en rfl es)) (nd_of rfl) rfl ?_
        refine x_val (r_assign (en rfl es)) (nd_of rfl) rfl ?_
        refine xw_nil ?_
        refine hK38 _ _ ?_
        refine xc_gen (fun g hg => ?_)
        have s0 := (hg 0).trans (en rfl (en rfl (en rfl (en rfl (en rfl (en rfl (en rfl (en rfl s0))))))))
        have s1 := (hg 1).trans (en rfl (en rfl (en rfl (en rfl (en rfl (en rfl (en rfl (en rfl s1))))))))
        have s2 := (hg 2).trans (en rfl (en rfl (en rfl (en rfl (en rfl (en rfl (en rfl (en rfl s2))))))))
        have s6 := (hg 6).trans (en rfl (en rfl (en rfl (en rfl (en rfl (en rfl (en rfl (en rfl s6))))))))
        have s7 := (hg 7).trans (en rfl (en rfl (en rfl (en rfl (en rfl (en rfl (en rfl (en rfl s7))))))))
        have s9 := (hg 9).trans (en rfl (en rfl (en rfl (en rfl (en rfl (en rfl (en rfl (en rfl s9))))))))
        have s10 := (hg 10).trans (en rfl (en rfl (en rfl (en rfl (en rfl (en rfl (en rfl (en rfl s10))))))))
        have s11 := (hg 11).trans (en rfl (en rfl (en rfl (en rfl (en rfl (en rfl (en rfl (en rfl s11))))))))
        have s12 := (hg 12).trans (en rfl (en rfl (en rfl (en rfl (en rfl (en rfl (en rfl (en rfl s12))))))))
        have s13 := (hg 13).trans (en rfl (en rfl (en rfl (en rfl (en rfl (en rfl (en rfl (en rfl s13))))))))
        have s14 := (hg 14).trans (en rfl (en rfl (en rfl (en rfl (en rfl (en rfl (en rfl (en rfl s14))))))))
        have s15 := (hg 15).trans (en rfl (en rfl (en rfl (en rfl (en rfl (en rfl (en rfl (en rfl s15))))))))
        have s16 := (hg 16).trans (en rfl (en rfl (en rfl (en rfl (en rfl (en rfl (en rfl (en rfl s16))))))))
        have s17 := (hg 17).trans (en rfl (en rfl (en rfl (en rfl (en rfl (en rfl (en rfl (en rfl s17))))))))
        have s18 := (hg 18).trans (en rfl (en rfl (en rfl (en rfl (en rfl (en rfl (en rfl (en rfl s18))))))))
        have s20 := (hg 20).trans (en rfl es)
        have s38 := (hg 38).trans (en rfl (en rfl (en rfl (en rfl (en rfl (en rfl (en rfl (en rfl s38))))))))
        have s45 := (hg 45).trans (en rfl (en rfl (en rfl (en rfl (en rfl (en rfl (en rfl (en rfl s45))))))))
        have s46 := (hg 46).trans (en rfl (en rfl (en rfl (en rfl (en rfl (en rfl (en rfl (en rfl s46))))))))
        have s47 := (hg 47).trans (en rfl (en rfl (en rfl (en rfl (en rfl (en rfl (en rfl (en rfl s47))))))))
        have s102 := (hg 102).trans (en rfl (en rfl (en rfl (en rfl (en rfl (en rfl (en rfl (en rfl s102))))))))
        have s107 := (hg 107).trans (en rfl (en rfl (en rfl (en rfl (en rfl (en rfl (en rfl (en rfl s107))))))))
        have s136 := (hg 136).trans (en rfl (en rfl (en rfl (en rfl (en rfl (en rfl (en rfl (en rfl s136))))))))
        have s154 := (hg 154).trans (en rfl (en rfl (en rfl (en rfl (en rfl (en rfl (en rfl (en rfl s154))))))))
        have s169 := (hg 169).trans (en rfl (en rfl (en rfl (en rfl (en rfl (en rfl (en rfl (en rfl s169))))))))
        have s181 := (hg 181).trans (en rfl (en rfl (en rfl (en rfl (en rfl (en rfl (en rfl (en rfl s181))))))))
        clear hg
        refine xc_seq (fun K hK39 => ?_)
        refine xc_region ?_
        refine x_val (r_move s17) (nd_of rfl) rfl ?_
        refine x_val (r_move (en rfl s18)) (nd_of rfl) rfl ?_
        have h := h.f1
        refine x_enter (r_call Try.call20 (.cons (en rfl es) (.cons es .nil))) (nd_of rfl) rfl (offset0' (by omega) h) ?_
        rintro _ w ⟨rfl, h⟩
        refine x_val (r_move es) (nd_of rfl) rfl ?_
        refine x_val (r_extract es gc0) (nd_of rfl) rfl ?_
        refine x_val (r_extract (en rfl es) gc1) (nd_of rfl) rfl ?_
        refine x_val (r_assign (en rfl es)) (nd_of rfl) rfl ?_
        refine x_val (r_assign (en rfl es)) (nd_of rfl) rfl ?_
        refine xw_nil ?_
        refine hK39 _ _ ?_
        refine xc_gen (fun g hg => ?_)
        have s0 := (hg 0).trans (en rfl (en rfl (en rfl (en rfl (en rfl (en rfl (en rfl (en rfl s0))))))))
        have s1 := (hg 1).trans (en rfl (en rfl (en rfl (en rfl (en rfl (en rfl (en rfl (en rfl s1))))))))
        have s2 := (hg 2).trans (en rfl (en rfl (en rfl (en rfl (en rfl (en rfl (en rfl (en rfl s2))))))))
        have s6 := (hg 6).trans (en rfl (en rfl (en rfl (en rfl (en rfl (en rfl (en rfl (en rfl s6))))))))
        have s7 := (hg 7).trans (en rfl (en rfl (en rfl (en rfl (en rfl (en rfl (en rfl (en rfl s7))))))))
        have s9 := (hg 9).trans (en rfl (en rfl (en rfl (en rfl (en rfl (en rfl (en rfl (en rfl s9))))))))
        have s10 := (hg 10).trans (en rfl (en rfl (en rfl (en rfl (en rfl (en rfl (en rfl (en rfl s10))))))))
        have s11 := (hg 11).trans (en rfl (en rfl (en rfl (en rfl (en rfl (en rfl (en rfl (en rfl s11))))))))
        have s12 := (hg 12).trans (en rfl (en rfl (en rfl (en rfl (en rfl (en rfl (en rfl (en rfl s12))))))))
        have s13 := (hg 13).trans (en rfl (en rfl (en rfl (en rfl (en rfl (en rfl (en rfl (en rfl s13))))))))
        have s14 := (hg 14).trans (en rfl (en rfl (en rfl (en rfl (en rfl (en rfl (en rfl (en rfl s14))))))))
        have s15 := (hg 15).trans (en rfl (en rfl (en rfl (en rfl (en rfl (en rfl (en rfl (en rfl s15))))))))
        have s16 := (hg 16).trans (en rfl (en rfl (en rfl (en rfl (en rfl (en rfl (en rfl (en rfl s16))))))))
        have s17 := (hg 17).trans (en rfl (en rfl (en rfl (en rfl (en rfl (en rfl (en rfl (en rfl s17))))))))
        have s18 := (hg 18).trans (en rfl (en rfl (en rfl (en rfl (en rfl (en rfl (en rfl (en rfl s18))))))))
        have s20 := (hg 20).trans (en rfl (en rfl (en rfl (en rfl (en rfl (en rfl (en rfl (en rfl s20))))))))
        have s22 := (hg 22).trans (en rfl es)
        have s38 := (hg 38).trans (en rfl (en rfl (en rfl (en rfl (en rfl (en rfl (en rfl (en rfl s38))))))))
        have s45 := (hg 45).trans (en rfl (en rfl (en rfl (en rfl (en rfl (en rfl (en rfl (en rfl s45))))))))
        have s46 := (hg 46).trans (en rfl (en rfl (en rfl (en rfl (en rfl (en rfl (en rfl (en rfl s46))))))))
        have s47 := (hg 47).trans (en rfl (en rfl (en rfl (en rfl (en rfl (en rfl (en rfl (en rfl s47))))))))
        have s102 := (hg 102).trans (en rfl (en rfl (en rfl (en rfl (en rfl (en rfl (en rfl (en rfl s102))))))))
        have s107 := (hg 107).trans (en rfl (en rfl (en rfl (en rfl (en rfl (en rfl (en rfl (en rfl s107))))))))
        have s136 := (hg 136).trans (en rfl (en rfl (en rfl (en rfl (en rfl (en rfl (en rfl (en rfl s136))))))))
        have s154 := (hg 154).trans (en rfl (en rfl (en rfl (en rfl (en rfl (en rfl (en rfl (en rfl s154))))))))
        have s169 := (hg 169).trans (en rfl (en rfl (en rfl (en rfl (en rfl (en rfl (en rfl (en rfl s169))))))))
        have s181 := (hg 181).trans (en rfl (en rfl (en rfl (en rfl (en rfl (en rfl (en rfl (en rfl s181))))))))
        clear hg
        refine xc_seq (fun K hK40 => ?_)
        refine xc_region ?_
        refine x_val (r_move s7) (nd_of rfl) rfl ?_
        refine x_val (r_move (en rfl s20)) (nd_of rfl) rfl ?_
        have h := h.f1
        refine x_enter (r_call Try.call20 (.cons (en rfl es) (.cons es .nil))) (nd_of rfl) rfl (offset0' (by omega) h) ?_
        rintro _ w ⟨rfl, h⟩
        refine x_val (r_move es) (nd_of rfl) rfl ?_
        refine x_val (r_extract es gc0) (nd_of rfl) rfl ?_
        refine x_val (r_extract (en rfl es) gc1) (nd_of rfl) rfl ?_
        refine x_val (r_assign (en rfl es)) (nd_of rfl) rfl ?_
        refine x_val (r_assign (en rfl es)) (nd_of rfl) rfl ?_
        refine xw_nil ?_
        refine hK40 _ _ ?_
        refine xc_gen (fun g hg => ?_)
        have s0 := (hg 0).trans (en rfl (en rfl (en rfl (en rfl (en rfl (en rfl (en rfl (en rfl s0))))))))
        have s1 := (hg 1).trans (en rfl (en rfl (en rfl (en rfl (en rfl (en rfl (en rfl (en rfl s1))))))))
        have s2 := (hg 2).trans (en rfl (en rfl (en rfl (en rfl (en rfl (en rfl (en rfl (en rfl s2))))))))
        have s6 := (hg 6).trans (en rfl (en rfl (en rfl (en rfl (en rfl (en rfl (en rfl (en rfl s6))))))))
        have s7 := (hg 7).trans (en rfl (en rfl (en rfl (en rfl (en rfl (en rfl (en rfl (en rfl s7))))))))
        have s9 := (hg 9).trans (en rfl (en rfl (en rfl (en rfl (en rfl (en rfl (en rfl (en rfl s9))))))))
        have s10 := (hg 10).trans (en rfl (en rfl (en rfl (en rfl (en rfl (en rfl (en rfl (en rfl s10))))))))
        have s11 := (hg 11).trans (en rfl (en rfl (en rfl (en rfl (en rfl (en rfl (en rfl (en rfl s11))))))))
        have s12 := (hg 12).trans (en rfl (en rfl (en rfl (en rfl (en rfl (en rfl (en rfl (en rfl s12))))))))
        have s13 := (hg 13).trans (en rfl (en rfl (en rfl (en rfl (en rfl (en rfl (en rfl (en rfl s13))))))))
        have s14 := (hg 14).trans (en rfl (en rfl (en rfl (en rfl (en rfl (en rfl (en rfl (en rfl s14))))))))
        have s15 := (hg 15).trans (en rfl (en rfl (en rfl (en rfl (en rfl (en rfl (en rfl (en rfl s15))))))))
        have s16 := (hg 16).trans (en rfl (en rfl (en rfl (en rfl (en rfl (en rfl (en rfl (en rfl s16))))))))
        have s17 := (hg 17).trans (en rfl (en rfl (en rfl (en rfl (en rfl (en rfl (en rfl (en rfl s17))))))))
        have s18 := (hg 18).trans (en rfl (en rfl (en rfl (en rfl (en rfl (en rfl (en rfl (en rfl s18))))))))
        have s20 := (hg 20).trans (en rfl (en rfl (en rfl (en rfl (en rfl (en rfl (en rfl (en rfl s20))))))))
        have s22 := (hg 22).trans (en rfl (en rfl (en rfl (en rfl (en rfl (en rfl (en rfl (en rfl s22))))))))
        have s24 := (hg 24).trans (en rfl es)
        have s38 := (hg 38).trans (en rfl (en rfl (en rfl (en rfl (en rfl (en rfl (en rfl (en rfl s38))))))))
        have s45 := (hg 45).trans (en rfl (en rfl (en rfl (en rfl (en rfl (en rfl (en rfl (en rfl s45))))))))
        have s46 := (hg 46).trans (en rfl (en rfl (en rfl (en rfl (en rfl (en rfl (en rfl (en rfl s46))))))))
        have s47 := (hg 47).trans (en rfl (en rfl (en rfl (en rfl (en rfl (en rfl (en rfl (en rfl s47))))))))
        have s102 := (hg 102).trans (en rfl (en rfl (en rfl (en rfl (en rfl (en rfl (en rfl (en rfl s102))))))))
        have s107 := (hg 107).trans (en rfl (en rfl (en rfl (en rfl (en rfl (en rfl (en rfl (en rfl s107))))))))
        have s136 := (hg 136).trans (en rfl (en rfl (en rfl (en rfl (en rfl (en rfl (en rfl (en rfl s136))))))))
        have s154 := (hg 154).trans (en rfl (en rfl (en rfl (en rfl (en rfl (en rfl (en rfl (en rfl s154))))))))
        have s169 := (hg 169).trans (en rfl (en rfl (en rfl (en rfl (en rfl (en rfl (en rfl (en rfl s169))))))))
        have s181 := (hg 181).trans (en rfl (en rfl (en rfl (en rfl (en rfl (en rfl (en rfl (en rfl s181))))))))
        clear hg
        refine xc_seq (fun K hK41 => ?_)
        refine xc_region ?_
        refine x_val (r_move s18) (nd_of rfl) rfl ?_
        refine x_val (r_move (en rfl s20)) (nd_of rfl) rfl ?_
        refine x_val (r_eql (en rfl es) es (decide_eq_true (by omega))) (nd_of rfl) rfl ?_
        refine x_val (r_move es) (nd_of rfl) rfl ?_
        refine x_take (d := 209) rfl rfl es ?_
        refine x_val (r_move (en rfl (en rfl (en rfl (en rfl s22))))) (nd_of rfl) rfl ?_
        refine x_take (d := 209) rfl rfl (en rfl es) ?_
        refine x_val (r_move (en rfl (en rfl (en rfl (en rfl (en rfl s24)))))) (nd_of rfl) rfl ?_
        refine x_take (d := 209) rfl rfl (en rfl (en rfl es)) ?_
        refine x_val (r_eql (en rfl es) es (decide_eq_true (by omega))) (nd_of rfl) rfl ?_
        refine x_val (r_pick_t (en rfl (en rfl (en rfl es))) es) (nd_of rfl) rfl ?_
        refine x_val (r_move es) (nd_of rfl) rfl ?_
        refine x_take (d := 214) rfl rfl es ?_
        refine x_enter (r_call Try.call10 .nil) (nd_of rfl) rfl (known_ok h) ?_
        rintro _ w ⟨rfl, h⟩
        refine x_val (r_pick_t (en rfl es) es) (nd_of rfl) rfl ?_
        refine x_val (r_assign es) (nd_of rfl) rfl ?_
        refine xw_nil ?_
        refine hK41 _ _ ?_
        refine xc_gen (fun g hg => ?_)
        have s0 := (hg 0).trans (en rfl (en rfl (en rfl (en rfl (en rfl (en rfl (en rfl (en rfl (en rfl (en rfl (en rfl (en rfl s0))))))))))))
        have s1 := (hg 1).trans (en rfl (en rfl (en rfl (en rfl (en rfl (en rfl (en rfl (en rfl (en rfl (en rfl (en rfl (en rfl s1))))))))))))
        have s2 := (hg 2).trans (en rfl (en rfl (en rfl (en rfl (en rfl (en rfl (en rfl (en rfl (en rfl (en rfl (en rfl (en rfl s2))))))))))))
        have s6 := (hg 6).trans es
        have s7 := (hg 7).trans (en rfl (en rfl (en rfl (en rfl (en rfl (en rfl (en rfl (en rfl (en rfl (en rfl (en rfl (en rfl s7))))))))))))
        have s9 := (hg 9).trans (en rfl (en rfl (en rfl (en rfl (en rfl (en rfl (en rfl (en rfl (en rfl (en rfl (en rfl (en rfl s9))))))))))))
        have s10 := (hg 10).trans (en rfl (en rfl (en rfl (en rfl (en rfl (en rfl (en rfl (en rfl (en rfl (en rfl (en rfl (en rfl s10))))))))))))
        have s11 := (hg 11).trans (en rfl (en rfl (en rfl (en rfl (en rfl (en rfl (en rfl (en rfl (en rfl (en rfl (en rfl (en rfl s11))))))))))))
        have s12 := (hg 12).trans (en rfl (en rfl (en rfl (en rfl (en rfl (en rfl (en rfl (en rfl (en rfl (en rfl (en rfl (en rfl s12))))))))))))
        have s13 := (hg 13).trans (en rfl (en rfl (en rfl (en rfl (en rfl (en rfl (en rfl (en rfl (en rfl (en rfl (en rfl (en rfl s13))))))))))))
        have s14 := (hg 14).trans (en rfl (en rfl (en rfl (en rfl (en rfl (en rfl (en rfl (en rfl (en rfl (en rfl (en rfl (en rfl s14))))))))))))
        have s15 := (hg 15).trans (en rfl (en rfl (en rfl (en rfl (en rfl (en rfl (en rfl (en rfl (en rfl (en rfl (en rfl (en rfl s15))))))))))))
        have s16 := (hg 16).trans (en rfl (en rfl (en rfl (en rfl (en rfl (en rfl (en rfl (en rfl (en rfl (en rfl (en rfl (en rfl s16))))))))))))
        have s17 := (hg 17).trans (en rfl (en rfl (en rfl (en rfl (en rfl (en rfl (en rfl (en rfl (en rfl (en rfl (en rfl (en rfl s17))))))))))))
        have s18 := (hg 18).trans (en rfl (en rfl (en rfl (en rfl (en rfl (en rfl (en rfl (en rfl (en rfl (en rfl (en rfl (en rfl s18))))))))))))
        have s20 := (hg 20).trans (en rfl (en rfl (en rfl (en rfl (en rfl (en rfl (en rfl (en rfl (en rfl (en rfl (en rfl (en rfl s20))))))))))))
        have s22 := (hg 22).trans (en rfl (en rfl (en rfl (en rfl (en rfl (en rfl (en rfl (en rfl (en rfl (en rfl (en rfl (en rfl s22))))))))))))
        have s24 := (hg 24).trans (en rfl (en rfl (en rfl (en rfl (en rfl (en rfl (en rfl (en rfl (en rfl (en rfl (en rfl (en rfl s24))))))))))))
        have s38 := (hg 38).trans (en rfl (en rfl (en rfl (en rfl (en rfl (en rfl (en rfl (en rfl (en rfl (en rfl (en rfl (en rfl s38))))))))))))
        have s45 := (hg 45).trans (en rfl (en rfl (en rfl (en rfl (en rfl (en rfl (en rfl (en rfl (en rfl (en rfl (en rfl (en rfl s45))))))))))))
        have s46 := (hg 46).trans (en rfl (en rfl (en rfl (en rfl (en rfl (en rfl (en rfl (en rfl (en rfl (en rfl (en rfl (en rfl s46))))))))))))
        have s47 := (hg 47).trans (en rfl (en rfl (en rfl (en rfl (en rfl (en rfl (en rfl (en rfl (en rfl (en rfl (en rfl (en rfl s47))))))))))))
        have s102 := (hg 102).trans (en rfl (en rfl (en rfl (en rfl (en rfl (en rfl (en rfl (en rfl (en rfl (en rfl (en rfl (en rfl s102))))))))))))
        have s107 := (hg 107).trans (en rfl (en rfl (en rfl (en rfl (en rfl (en rfl (en rfl (en rfl (en rfl (en rfl (en rfl (en rfl s107))))))))))))
        have s136 := (hg 136).trans (en rfl (en rfl (en rfl (en rfl (en rfl (en rfl (en rfl (en rfl (en rfl (en rfl (en rfl (en rfl s136))))))))))))
        have s154 := (hg 154).trans (en rfl (en rfl (en rfl (en rfl (en rfl (en rfl (en rfl (en rfl (en rfl (en rfl (en rfl (en rfl s154))))))))))))
        have s169 := (hg 169).trans (en rfl (en rfl (en rfl (en rfl (en rfl (en rfl (en rfl (en rfl (en rfl (en rfl (en rfl (en rfl s169))))))))))))
        have s181 := (hg 181).trans (en rfl (en rfl (en rfl (en rfl (en rfl (en rfl (en rfl (en rfl (en rfl (en rfl (en rfl (en rfl s181))))))))))))
        clear hg
        refine xc_ret ?_
        refine bodyR_1 rfl s6 ?_
        exact ⟨rfl, h.drop.drop.drop.drop.drop.drop⟩
      ·
        skip
        refine xc_cond s181 (fun hc => by cases hc) (fun _ => ?_)
        refine xc_skip ?_
        refine hK35 _ _ ?_
        refine xc_seq (fun K hK42 => ?_)
        obtain ⟨p4, hp4⟩ := nlAt_some (l := t) (k := (V : Int) - 1) (by omega) (by omega)
        refine xc_region ?_
        refine x_val (r_move s17) (nd_of rfl) rfl ?_
        refine x_val (r_move (en rfl s1)) (nd_of rfl) rfl ?_
        have h := h.f1
        refine x_enter (r_call Try.call19 (.cons (en rfl es) (.cons es .nil))) (nd_of rfl) rfl (lineOfR (V := V) ⟨by omega, by omega, by omega⟩ (by rw [Int.toNat_natCast]; exact hV) h) ?_
        rintro _ w ⟨rfl, h⟩
        refine x_val (r_move es) (nd_of rfl) rfl ?_
        refine x_val (r_extract es gc0) (nd_of rfl) rfl ?_
        refine x_val (r_extract (en rfl es) gc1) (nd_of rfl) rfl ?_
        refine x_val (r_assign (en rfl es)) (nd_of rfl) rfl ?_
        refine x_val (r_assign (en rfl es)) (nd_of rfl) rfl ?_
        refine xw_nil ?_
        refine hK42 _ _ ?_
        refine xc_gen (fun g hg => ?_)
        have s0 := (hg 0).trans (en rfl (en rfl (en rfl (en rfl (en rfl (en rfl (en rfl (en rfl s0))))))))
        have s1 := (hg 1).trans (en rfl (en rfl (en rfl (en rfl (en rfl (en rfl (en rfl (en rfl s1))))))))
        have s2 := (hg 2).trans (en rfl (en rfl (en rfl (en rfl (en rfl (en rfl (en rfl (en rfl s2))))))))
        have s6 := (hg 6).trans (en rfl (en rfl (en rfl (en rfl (en rfl (en rfl (en rfl (en rfl s6))))))))
        have s7 := (hg 7).trans (en rfl (en rfl (en rfl (en rfl (en rfl (en rfl (en rfl (en rfl s7))))))))
        have s9 := (hg 9).trans (en rfl (en rfl (en rfl (en rfl (en rfl (en rfl (en rfl (en rfl s9))))))))
        have s10 := (hg 10).trans (en rfl (en rfl (en rfl (en rfl (en rfl (en rfl (en rfl (en rfl s10))))))))
        have s11 := (hg 11).trans (en rfl (en rfl (en rfl (en rfl (en rfl (en rfl (en rfl (en rfl s11))))))))
        have s12 := (hg 12).trans (en rfl (en rfl (en rfl (en rfl (en rfl (en rfl (en rfl (en rfl s12))))))))
        have s13 := (hg 13).trans (en rfl (en rfl (en rfl (en rfl (en rfl (en rfl (en rfl (en rfl s13))))))))
        have s14 := (hg 14).trans (en rfl (en rfl (en rfl (en rfl (en rfl (en rfl (en rfl (en rfl s14))))))))
        have s15 := (hg 15).trans (en rfl (en rfl (en rfl (en rfl (en rfl (en rfl (en rfl (en rfl s15))))))))
        have s16 := (hg 16).trans (en rfl (en rfl (en rfl (en rfl (en rfl (en rfl (en rfl (en rfl s16))))))))
        have s17 := (hg 17).trans (en rfl (en rfl (en rfl (en rfl (en rfl (en rfl (en rfl (en rfl s17))))))))
        have s18 := (hg 18).trans (en rfl es)
        have s38 := (hg 38).trans (en rfl (en rfl (en rfl (en rfl (en rfl (en rfl (en rfl (en rfl s38))))))))
        have s45 := (hg 45).trans (en rfl (en rfl (en rfl (en rfl (en rfl (en rfl (en rfl (en rfl s45))))))))
        have s46 := (hg 46).trans (en rfl (en rfl (en rfl (en rfl (en rfl (en rfl (en rfl (en rfl s46))))))))
        have s47 := (hg 47).trans (en rfl (en rfl (en rfl (en rfl (en rfl (en rfl (en rfl (en rfl s47))))))))
        have s102 := (hg 102).trans (en rfl (en rfl (en rfl (en rfl (en rfl (en rfl (en rfl (en rfl s102))))))))
        have s107 := (hg 107).trans (en rfl (en rfl (en rfl (en rfl (en rfl (en rfl (en rfl (en rfl s107))))))))
        have s136 := (hg 136).trans (en rfl (en rfl (en rfl (en rfl (en rfl (en rfl (en rfl (en rfl s136))))))))
        have s154 := (hg 154).trans (en rfl (en rfl (en rfl (en rfl (en rfl (en rfl (en rfl (en rfl s154))))))))
        have s169 := (hg 169).trans (en rfl (en rfl (en rfl (en rfl (en rfl (en rfl (en rfl (en rfl s169))))))))
        have s181 := (hg 181).trans (en rfl (en rfl (en rfl (en rfl (en rfl (en rfl (en rfl (en rfl s181))))))))
        clear hg
        refine xc_seq (fun K hK43 => ?_)
        refine xc_region ?_
        refine x_val (r_move s7) (nd_of rfl) rfl ?_
        refine x_val (r_move (en rfl s1)) (nd_of rfl) rfl ?_
        have h := h.f1
        refine x_enter (r_call Try.call19 (.cons (en rfl es) (.cons es .nil))) (nd_of rfl) rfl (lineOfR (V := V) ⟨by omega, by omega, by omega⟩ (by rw [Int.toNat_natCast]; exact hV) h) ?_
        rintro _ w ⟨rfl, h⟩
        refine x_val (r_move es) (nd_of rfl) rfl ?_
        refine x_val (r_extract es gc0) (nd_of rfl) rfl ?_
        refine x_val (r_extract (en rfl es) gc1) (nd_of rfl) rfl ?_
        refine x_val (r_assign (en rfl es)) (nd_of rfl) rfl ?_
        refine x_val (r_assign (en rfl es)) (nd_of rfl) rfl ?_
        refine xw_nil ?_
        refine hK43 _ _ ?_
        refine xc_gen (fun g hg => ?_)
        have s0 := (hg 0).trans (en rfl (en rfl (en rfl (en rfl (en rfl (en rfl (en rfl (en rfl s0))))))))
        have s1 := (hg 1).trans (en rfl (en rfl (en rfl (en rfl (en rfl (en rfl (en rfl (en rfl s1))))))))
        have s2 := (hg 2).trans (en rfl (en rfl (en rfl (en rfl (en rfl (en rfl (en rfl (en rfl s2))))))))
        have s6 := (hg 6).trans (en rfl (en rfl (en rfl (en rfl (en rfl (en rfl (en rfl (en rfl s6))))))))
        have s7 := (hg 7).trans (en rfl (en rfl (en rfl (en rfl (en rfl (en rfl (en rfl (en rfl s7))))))))
        have s9 := (hg 9).trans (en rfl (en rfl (en rfl (en rfl (en rfl (en rfl (en rfl (en rfl s9))))))))
        have s10 := (hg 10).trans (en rfl (en rfl (en rfl (en rfl (en rfl (en rfl (en rfl (en rfl s10))))))))
        have s11 := (hg 11).trans (en rfl (en rfl (en rfl (en rfl (en rfl (en rfl (en rfl (en rfl s11))))))))
        have s12 := (hg 12).trans (en rfl (en rfl (en rfl (en rfl (en rfl (en rfl (en rfl (en rfl s12))))))))
        have s13 := (hg 13).trans (en rfl (en rfl (en rfl (en rfl (en rfl (en rfl (en rfl (en rfl s13))))))))
        have s14 := (hg 14).trans (en rfl (en rfl (en rfl (en rfl (en rfl (en rfl (en rfl (en rfl s14))))))))
        have s15 := (hg 15).trans (en rfl (en rfl (en rfl (en rfl (en rfl (en rfl (en rfl (en rfl s15))))))))
        have s16 := (hg 16).trans (en rfl (en rfl (en rfl (en rfl (en rfl (en rfl (en rfl (en rfl s16))))))))
        have s17 := (hg 17).trans (en rfl (en rfl (en rfl (en rfl (en rfl (en rfl (en rfl (en rfl s17))))))))
        have s18 := (hg 18).trans (en rfl (en rfl (en rfl (en rfl (en rfl (en rfl (en rfl (en rfl s18))))))))
        have s20 := (hg 20).trans (en rfl es)
        have s38 := (hg 38).trans (en rfl (en rfl (en rfl (en rfl (en rfl (en rfl (en rfl (en rfl s38))))))))
        have s45 := (hg 45).trans (en rfl (en rfl (en rfl (en rfl (en rfl (en rfl (en rfl (en rfl s45))))))))
        have s46 := (hg 46).trans (en rfl (en rfl (en rfl (en rfl (en rfl (en rfl (en rfl (en rfl s46))))))))
        have s47 := (hg 47).trans (en rfl (en rfl (en rfl (en rfl (en rfl (en rfl (en rfl (en rfl s47))))))))
        have s102 := (hg 102).trans (en rfl (en rfl (en rfl (en rfl (en rfl (en rfl (en rfl (en rfl s102))))))))
        have s107 := (hg 107).trans (en rfl (en rfl (en rfl (en rfl (en rfl (en rfl (en rfl (en rfl s107))))))))
        have s136 := (hg 136).trans (en rfl (en rfl (en rfl (en rfl (en rfl (en rfl (en rfl (en rfl s136))))))))
        have s154 := (hg 154).trans (en rfl (en rfl (en rfl (en rfl (en rfl (en rfl (en rfl (en rfl s154))))))))
        have s169 := (hg 169).trans (en rfl (en rfl (en rfl (en rfl (en rfl (en rfl (en rfl (en rfl s169))))))))
        have s181 := (hg 181).trans (en rfl (en rfl (en rfl (en rfl (en rfl (en rfl (en rfl (en rfl s181))))))))
        clear hg
        refine xc_seq (fun K hK44 => ?_)
        refine xc_region ?_
        refine x_val (r_move s17) (nd_of rfl) rfl ?_
        refine x_val (r_move (en rfl s18)) (nd_of rfl) rfl ?_
        have h := h.f1
        refine x_enter (r_call Try.call20 (.cons (en rfl es) (.cons es .nil))) (nd_of rfl) rfl (offsetOfR (p := p4) (by omega) hp4 (by omega) h) ?_
        rintro _ w ⟨rfl, h⟩
        refine x_val (r_move es) (nd_of rfl) rfl ?_
        refine x_val (r_extract es gc0) (nd_of rfl) rfl ?_
        refine x_val (r_extract (en rfl es) gc1) (nd_of rfl) rfl ?_
        refine x_val (r_assign (en rfl es)) (nd_of rfl) rfl ?_
        refine x_val (r_assign (en rfl es)) (nd_of rfl) rfl ?_
        refine xw_nil ?_
        refine hK44 _ _ ?_
        refine xc_gen (fun g hg => ?_)
        have s0 := (hg 0).trans (en rfl (en rfl (en rfl (en rfl (en rfl (en rfl (en rfl (en rfl s0))))))))
        have s1 := (hg 1).trans (en rfl (en rfl (en rfl (en rfl (en rfl (en rfl (en rfl (en rfl s1))))))))
        have s2 := (hg 2).trans (en rfl (en rfl (en rfl (en rfl (en rfl (en rfl (en rfl (en rfl s2))))))))
        have s6 := (hg 6).trans (en rfl (en rfl (en rfl (en rfl (en rfl (en rfl (en rfl (en rfl s6))))))))
        have s7 := (hg 7).trans (en rfl (en rfl (en rfl (en rfl (en rfl (en rfl (en rfl (en rfl s7))))))))
        have s9 := (hg 9).trans (en rfl (en rfl (en rfl (en rfl (en rfl (en rfl (en rfl (en rfl s9))))))))
        have s10 := (hg 10).trans (en rfl (en rfl (en rfl (en rfl (en rfl (en rfl (en rfl (en rfl s10))))))))
        have s11 := (hg 11).trans (en rfl (en rfl (en rfl (en rfl (en rfl (en rfl (en rfl (en rfl s11))))))))
        have s12 := (hg 12).trans (en rfl (en rfl (en rfl (en rfl (en rfl (en rfl (en rfl (en rfl s12))))))))
        have s13 := (hg 13).trans (en rfl (en rfl (en rfl (en rfl (en rfl (en rfl (en rfl (en rfl s13))))))))
        have s14 := (hg 14).trans (en rfl (en rfl (en rfl (en rfl (en rfl (en rfl (en rfl (en rfl s14))))))))
        have s15 := (hg 15).trans (en rfl (en rfl (en rfl (en rfl (en rfl (en rfl (en rfl (en rfl s15))))))))
        have s16 := (hg 16).trans (en rfl (en rfl (en rfl (en rfl (en rfl (en rfl (en rfl (en rfl s16))))))))
        have s17 := (hg 17).trans (en rfl (en rfl (en rfl (en rfl (en rfl (en rfl (en rfl (en rfl s17))))))))
        have s18 := (hg 18).trans (en rfl (en rfl (en rfl (en rfl (en rfl (en rfl (en rfl (en rfl s18))))))))
        have s20 := (hg 20).trans (en rfl (en rfl (en rfl (en rfl (en rfl (en rfl (en rfl (en rfl s20))))))))
        have s22 := (hg 22).trans (en rfl es)
        have s38 := (hg 38).trans (en rfl (en rfl (en rfl (en rfl (en rfl (en rfl (en rfl (en rfl s38))))))))
        have s45 := (hg 45).trans (en rfl (en rfl (en rfl (en rfl (en rfl (en rfl (en rfl (en rfl s45))))))))
        have s46 := (hg 46).trans (en rfl (en rfl (en rfl (en rfl (en rfl (en rfl (en rfl (en rfl s46))))))))
        have s47 := (hg 47).trans (en rfl (en rfl (en rfl (en rfl (en rfl (en rfl (en rfl (en rfl s47))))))))
        have s102 := (hg 102).trans (en rfl (en rfl (en rfl (en rfl (en rfl (en rfl (en rfl (en rfl s102))))))))
        have s107 := (hg 107).trans (en rfl (en rfl (en rfl (en rfl (en rfl (en rfl (en rfl (en rfl s107))))))))
        have s136 := (hg 136).trans (en rfl (en rfl (en rfl (en rfl (en rfl (en rfl (en rfl (en rfl s136))))))))
        have s154 := (hg 154).trans (en rfl (en rfl (en rfl (en rfl (en rfl (en rfl (en rfl (en rfl s154))))))))
        have s169 := (hg 169).trans (en rfl (en rfl (en rfl (en rfl (en rfl (en rfl (en rfl (en rfl s169))))))))
        have s181 := (hg 181).trans (en rfl (en rfl (en rfl (en rfl (en rfl (en rfl (en rfl (en rfl s181))))))))
        clear hg
        refine xc_seq (fun K hK45 => ?_)
        refine xc_region ?_
        refine x_val (r_move s7) (nd_of rfl) rfl ?_
        refine x_val (r_move (en rfl s20)) (nd_of rfl) rfl ?_
        have h := h.f1
        refine x_enter (r_call Try.call20 (.cons (en rfl es) (.cons es .nil))) (nd_of rfl) rfl (offsetOfR (p := p4) (by omega) hp4 (by omega) h) ?_
        rintro _ w ⟨rfl, h⟩
        refine x_val (r_move es) (nd_of rfl) rfl ?_
        refine x_val (r_extract es gc0) (nd_of rfl) rfl ?_
        refine x_val (r_extract (en rfl es) gc1) (nd_of rfl) rfl ?_
        refine x_val (r_assign (en rfl es)) (nd_of rfl) rfl ?_
        refine x_val (r_assign (en rfl es)) (nd_of rfl) rfl ?_
        refine xw_nil ?_
        refine hK45 _ _ ?_
        refine xc_gen (fun g hg => ?_)
        have s0 := (hg 0).trans (en rfl (en rfl (en rfl (en rfl (en rfl (en rfl (en rfl (en rfl s0))))))))
        have s1 := (hg 1).trans (en rfl (en rfl (en rfl (en rfl (en rfl (en rfl (en rfl (en rfl s1))))))))
        have s2 := (hg 2).trans (en rfl (en rfl (en rfl (en rfl (en rfl (en rfl (en rfl (en rfl s2))))))))
        have s6 := (hg 6).trans (en rfl (en rfl (en rfl (en rfl (en rfl (en rfl (en rfl (en rfl s6))))))))
        have s7 := (hg 7).trans (en rfl (en rfl (en rfl (en rfl (en rfl (en rfl (en rfl (en rfl s7))))))))
        have s9 := (hg 9).trans (en rfl (en rfl (en rfl (en rfl (en rfl (en rfl (en rfl (en rfl s9))))))))
        have s10 := (hg 10).trans (en rfl (en rfl (en rfl (en rfl (en rfl (en rfl (en rfl (en rfl s10))))))))
        have s11 := (hg 11).trans (en rfl (en rfl (en rfl (en rfl (en rfl (en rfl (en rfl (en rfl s11))))))))
        have s12 := (hg 12).trans (en rfl (en rfl (en rfl (en rfl (en rfl (en rfl (en rfl (en rfl s12))))))))
        have s13 := (hg 13).trans (en rfl (en rfl (en rfl (en rfl (en rfl (en rfl (en rfl (en rfl s13))))))))
        have s14 := (hg 14).trans (en rfl (en rfl (en rfl (en rfl (en rfl (en rfl (en rfl (en rfl s14))))))))
        have s15 := (hg 15).trans (en rfl (en rfl (en rfl (en rfl (en rfl (en rfl (en rfl (en rfl s15))))))))
        have s16 := (hg 16).trans (en rfl (en rfl (en rfl (en rfl (en rfl (en rfl (en rfl (en rfl s16))))))))
        have s17 := (hg 17).trans (en rfl (en rfl (en rfl (en rfl (en rfl (en rfl (en rfl (en rfl s17))))))))
        have s18 := (hg 18).trans (en rfl (en rfl (en rfl (en rfl (en rfl (en rfl (en rfl (en rfl s18))))))))
        have s20 := (hg 20).trans (en rfl (en rfl (en rfl (en rfl (en rfl (en rfl (en rfl (en rfl s20))))))))
        have s22 := (hg 22).trans (en rfl (en rfl (en rfl (en rfl (en rfl (en rfl (en rfl (en rfl s22))))))))
        have s24 := (hg 24).trans (en rfl es)
        have s38 := (hg 38).trans (en rfl (en rfl (en rfl (en rfl (en rfl (en rfl (en rfl (en rfl s38))))))))
        have s45 := (hg 45).trans (en rfl (en rfl (en rfl (en rfl (en rfl (en rfl (en rfl (en rfl s45))))))))
        have s46 := (hg 46).trans (en rfl (en rfl (en rfl (en rfl (en rfl (en rfl (en rfl (en rfl s46))))))))
        have s47 := (hg 47).trans (en rfl (en rfl (en rfl (en rfl (en rfl (en rfl (en rfl (en rfl s47))))))))
        have s102 := (hg 102).trans (en rfl (en rfl (en rfl (en rfl (en rfl (en rfl (en rfl (en rfl s102))))))))
        have s107 := (hg 107).trans (en rfl (en rfl (en rfl (en rfl (en rfl (en rfl (en rfl (en rfl s107))))))))
        have s136 := (hg 136).trans (en rfl (en rfl (en rfl (en rfl (en rfl (en rfl (en rfl (en rfl s136))))))))
        have s154 := (hg 154).trans (en rfl (en rfl (en rfl (en rfl (en rfl (en rfl (en rfl (en rfl s154))))))))
        have s169 := (hg 169).trans (en rfl (en rfl (en rfl (en rfl (en rfl (en rfl (en rfl (en rfl s169))))))))
        have s181 := (hg 181).trans (en rfl (en rfl (en rfl (en rfl (en rfl (en rfl (en rfl (en rfl s181))))))))
        clear hg
        refine xc_seq (fun K hK46 => ?_)
        refine xc_region ?_
        refine x_val (r_move s18) (nd_of rfl) rfl ?_
        refine x_val (r_move (en rfl s20)) (nd_of rfl) rfl ?_
        refine x_val (r_eql (en rfl es) es (decide_eq_true (by omega))) (nd_of rfl) rfl ?_
        refine x_val (r_move es) (nd_of rfl) rfl ?_
        refine x_take (d := 209) rfl rfl es ?_
        refine x_val (r_move (en rfl (en rfl (en rfl (en rfl s22))))) (nd_of rfl) rfl ?_
        refine x_take (d := 209) rfl rfl (en rfl es) ?_
        refine x_val (r_move (en rfl (en rfl (en rfl (en rfl (en rfl s24)))))) (nd_of rfl) rfl ?_
        refine x_take (d := 209) rfl rfl (en rfl (en rfl es)) ?_
        refine x_val (r_eql (en rfl es) es (decide_eq_true (by omega))) (nd_of rfl) rfl ?_
        refine x_val (r_pick_t (en rfl (en rfl (en rfl es))) es) (nd_of rfl) rfl ?_
        refine x_val (r_move es) (nd_of rfl) rfl ?_
        refine x_take (d := 214) rfl rfl es ?_
        refine x_enter (r_call Try.call10 .nil) (nd_of rfl) rfl (known_ok h) ?_
        rintro _ w ⟨rfl, h⟩
        refine x_val (r_pick_t (en rfl es) es) (nd_of rfl) rfl ?_
        refine x_val (r_assign es) (nd_of rfl) rfl ?_
        refine xw_nil ?_
        refine hK46 _ _ ?_
        refine xc_gen (fun g hg => ?_)
        have s0 := (hg 0).trans (en rfl (en rfl (en rfl (en rfl (en rfl (en rfl (en rfl (en rfl (en rfl (en rfl (en rfl (en rfl s0))))))))))))
        have s1 := (hg 1).trans (en rfl (en rfl (en rfl (en rfl (en rfl (en rfl (en rfl (en rfl (en rfl (en rfl (en rfl (en rfl s1))))))))))))
        have s2 := (hg 2).trans (en rfl (en rfl (en rfl (en rfl (en rfl (en rfl (en rfl (en rfl (en rfl (en rfl (en rfl (en rfl s2))))))))))))
        have s6 := (hg 6).trans es
        have s7 := (hg 7).trans (en rfl (en rfl (en rfl (en rfl (en rfl (en rfl (en rfl (en rfl (en rfl (en rfl (en rfl (en rfl s7))))))))))))
        have s9 := (hg 9).trans (en rfl (en rfl (en rfl (en rfl (en rfl (en rfl (en rfl (en rfl (en rfl (en rfl (en rfl (en rfl s9))))))))))))
        have s10 := (hg 10).trans (en rfl (en rfl (en rfl (en rfl (en rfl (en rfl (en rfl (en rfl (en rfl (en rfl (en rfl (en rfl s10))))))))))))
        have s11 := (hg 11).trans (en rfl (en rfl (en rfl (en rfl (en rfl (en rfl (en rfl (en rfl (en rfl (en rfl (en rfl (en rfl s11))))))))))))
        have s12 := (hg 12).trans (en rfl (en rfl (en rfl (en rfl (en rfl (en rfl (en rfl (en rfl (en rfl (en rfl (en rfl (en rfl s12))))))))))))
        have s13 := (hg 13).trans (en rfl (en rfl (en rfl (en rfl (en rfl (en rfl (en rfl (en rfl (en rfl (en rfl (en rfl (en rfl s13))))))))))))
        have s14 := (hg 14).trans (en rfl (en rfl (en rfl (en rfl (en rfl (en rfl (en rfl (en rfl (en rfl (en rfl (en rfl (en rfl s14))))))))))))
        have s15 := (hg 15).trans (en rfl (en rfl (en rfl (en rfl (en rfl (en rfl (en rfl (en rfl (en rfl (en rfl (en rfl (en rfl s15))))))))))))
        have s16 := (hg 16).trans (en rfl (en rfl (en rfl (en rfl (en rfl (en rfl (en rfl (en rfl (en rfl (en rfl (en rfl (en rfl s16))))))))))))
        have s17 := (hg 17).trans (en rfl (en rfl (en rfl (en rfl (en rfl (en rfl (en rfl (en rfl (en rfl (en rfl (en rfl (en rfl s17))))))))))))
        have s18 := (hg 18).trans (en rfl (en rfl (en rfl (en rfl (en rfl (en rfl (en rfl (en rfl (en rfl (en rfl (en rfl (en rfl s18))))))))))))
        have s20 := (hg 20).trans (en rfl (en rfl (en rfl (en rfl (en rfl (en rfl (en rfl (en rfl (en rfl (en rfl (en rfl (en rfl s20))))))))))))
        have s22 := (hg 22).trans (en rfl (en rfl (en rfl (en rfl (en rfl (en rfl (en rfl (en rfl (en rfl (en rfl (en rfl (en rfl s22))))))))))))
        have s24 := (hg 24).trans (en rfl (en rfl (en rfl (en rfl (en rfl (en rfl (en rfl (en rfl (en rfl (en rfl (en rfl (en rfl s24))))))))))))
        have s38 := (hg 38).trans (en rfl (en rfl (en rfl (en rfl (en rfl (en rfl (en rfl (en rfl (en rfl (en rfl (en rfl (en rfl s38))))))))))))
        have s45 := (hg 45).trans (en rfl (en rfl (en rfl (en rfl (en rfl (en rfl (en rfl (en rfl (en rfl (en rfl (en rfl (en rfl s45))))))))))))
        have s46 := (hg 46).trans (en rfl (en rfl (en rfl (en rfl (en rfl (en rfl (en rfl (en rfl (en rfl (en rfl (en rfl (en rfl s46))))))))))))
        have s47 := (hg 47).trans (en rfl (en rfl (en rfl (en rfl (en rfl (en rfl (en rfl (en rfl (en rfl (en rfl (en rfl (en rfl s47))))))))))))
        have s102 := (hg 102).trans (en rfl (en rfl (en rfl (en rfl (en rfl (en rfl (en rfl (en rfl (en rfl (en rfl (en rfl (en rfl s102))))))))))))
        have s107 := (hg 107).trans (en rfl (en rfl (en rfl (en rfl (en rfl (en rfl (en rfl (en rfl (en rfl (en rfl (en rfl (en rfl s107))))))))))))
        have s136 := (hg 136).trans (en rfl (en rfl (en rfl (en rfl (en rfl (en rfl (en rfl (en rfl (en rfl (en rfl (en rfl (en rfl s136))))))))))))
        have s154 := (hg 154).trans (en rfl (en rfl (en rfl (en rfl (en rfl (en rfl (en rfl (en rfl (en rfl (en rfl (en rfl (en rfl s154))))))))))))
        have s169 := (hg 169).trans (en rfl (en rfl (en rfl (en rfl (en rfl (en rfl (en rfl (en rfl (en rfl (en rfl (en rfl (en rfl s169))))))))))))
        have s181 := (hg 181).trans (en rfl (en rfl (en rfl (en rfl (en rfl (en rfl (en rfl (en rfl (en rfl (en rfl (en rfl (en rfl s181))))))))))))
        clear hg
        refine xc_ret ?_
        refine bodyR_1 rfl s6 ?_
        exact ⟨rfl, h.drop.drop.drop.drop.drop.drop⟩
    ·
      skip
      refine xc_seq (fun K hK47 => ?_)
      refine xc_seq (fun K hK48 => ?_)
      refine xc_region ?_
      refine x_val (r_move s10) (nd_of rfl) rfl ?_
      refine x_val (r_neq es ec (r := false) rfl) (nd_of rfl) rfl ?_
      refine xw_nil ?_
      refine hK48 _ _ ?_
      refine xc_gen (fun g hg => ?_)
      have s0 := (hg 0).trans (en rfl (en rfl s0))
      have s1 := (hg 1).trans (en rfl (en rfl s1))
      have s2 := (hg 2).trans (en rfl (en rfl s2))
      have s6 := (hg 6).trans (en rfl (en rfl s6))
      have s7 := (hg 7).trans (en rfl (en rfl s7))
      have s9 := (hg 9).trans (en rfl (en rfl s9))
      have s10 := (hg 10).trans (en rfl (en rfl s10))
      have s38 := (hg 38).trans (en rfl (en rfl s38))
      have s45 := (hg 45).trans (en rfl (en rfl s45))
      have s46 := (hg 46).trans (en rfl (en rfl s46))
      have s47 := (hg 47).trans (en rfl (en rfl s47))
      have s102 := (hg 102).trans es
      clear hg
      refine xc_cond s102 (fun hc => by cases hc) (fun _ => ?_)
      refine xc_skip ?_
      refine hK47 _ _ ?_
      refine xc_seq (fun K hK49 => ?_)
      refine xc_seq (fun K hK50 => ?_)
      refine xc_region ?_
      refine x_val (r_move s7) (nd_of rfl) rfl ?_
      refine x_val (r_move (en rfl s1)) (nd_of rfl) rfl ?_
      refine x_val (r_move (en rfl (en rfl s2))) (nd_of rfl) rfl ?_
      have h := h.f1
      refine x_enter (r_call Try.call13 (.cons (en rfl (en rfl es)) (.cons (en rfl es) (.cons es .nil)))) (nd_of rfl) rfl (insert_fail he ((hrm E R).up) (B' := 6000) (by omega) (by omega) (by omega) h) ?_
      rintro _ w ⟨rfl, h⟩
      refine x_val (r_neq es ec (decide_eq_true (by exact he))) (nd_of rfl) rfl ?_
      refine xw_nil ?_
      refine hK50 _ _ ?_
      refine xc_gen (fun g hg => ?_)
      have s0 := (hg 0).trans (en rfl (en rfl (en rfl (en rfl (en rfl s0)))))
      have s1 := (hg 1).trans (en rfl (en rfl (en rfl (en rfl (en rfl s1)))))
      have s2 := (hg 2).trans (en rfl (en rfl (en rfl (en rfl (en rfl s2)))))
      have s6 := (hg 6).trans (en rfl (en rfl (en rfl (en rfl (en rfl s6)))))
      have s7 := (hg 7).trans (en rfl (en rfl (en rfl (en rfl (en rfl s7)))))
      have s9 := (hg 9).trans (en rfl (en rfl (en rfl (en rfl (en rfl s9)))))
      have s10 := (hg 10).trans (en rfl (en rfl (en rfl (en rfl (en rfl s10)))))
      have s38 := (hg 38).trans (en rfl (en rfl (en rfl (en rfl (en rfl s38)))))
      have s45 := (hg 45).trans (en rfl (en rfl (en rfl (en rfl (en rfl s45)))))
      have s46 := (hg 46).trans (en rfl (en rfl (en rfl (en rfl (en rfl s46)))))
      have s47 := (hg 47).trans (en rfl (en rfl (en rfl (en rfl (en rfl s47)))))
      have s102 := (hg 102).trans (en rfl (en rfl (en rfl (en rfl (en rfl s102)))))
      have s107 := (hg 107).trans es
      clear hg
      refine xc_cond s107 (fun _ => ?_) (fun hc => by cases hc)
      refine xc_seq (fun K hK51 => ?_)
      refine xc_region ?_
      refine x_enter (r_call Try.call10 .nil) (nd_of rfl) rfl (known_ok h) ?_
      rintro _ w ⟨rfl, h⟩
      refine x_val (r_assign es) (nd_of rfl) rfl ?_
      refine xw_nil ?_
      refine hK51 _ _ ?_
      refine xc_gen (fun g hg => ?_)
      have s0 := (hg 0).trans (en rfl (en rfl s0))
      have s1 := (hg 1).trans (en rfl (en rfl s1))
      have s2 := (hg 2).trans (en rfl (en rfl s2))
      have s6 := (hg 6).trans es
      have s7 := (hg 7).trans (en rfl (en rfl s7))
      have s9 := (hg 9).trans (en rfl (en rfl s9))
      have s10 := (hg 10).trans (en rfl (en rfl s10))
      have s38 := (hg 38).trans (en rfl (en rfl s38))
      have s45 := (hg 45).trans (en rfl (en rfl s45))
      have s46 := (hg 46).trans (en rfl (en rfl s46))
      have s47 := (hg 47).trans (en rfl (en rfl s47))
      have s102 := (hg 102).trans (en rfl (en rfl s102))
      have s107 := (hg 107).trans (en rfl (en rfl s107))
      clear hg
      refine xc_ret ?_
      refine bodyR_1 rfl s6 ?_
      exact ⟨rfl, h.drop.drop⟩
theorem rback_all {i : Int} (hi : I64 i) (hv : OpsAt W v os) (hrm : ∀ E R, Reads E (Old W :: R) vm .i32 zs) (h : SatL E w (Old W :: R)) : Calls Try.prog 3 #[v, .int .i64 i, vm] w (Ret fun u w' => u = .bool true ∧ SatL E w' (Old W :: R)) := by
  rcases Nat.lt_or_ge 40 os.length with h1 | h1
  · exact rback_long hv hrm (.inl h1) h
  · rcases Nat.lt_or_ge 1000 zs.length with h2 | h2
    · exact rback_long hv hrm (.inr h2) h
    · exact rback_ok hi hv hrm h1 h2 h
end
end Go.Proofs.Ytmfkhfmidnojhaa
