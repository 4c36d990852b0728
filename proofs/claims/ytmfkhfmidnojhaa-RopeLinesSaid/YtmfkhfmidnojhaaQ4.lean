/-
RopeLines: the walk.
-/
import Derived.Test.YtmfkhfmidnojhaaR10
namespace Go.Proofs.Ytmfkhfmidnojhaa
open Go Go.RowKit
theorem nlAt_cnt : ∀ {l : List Int} {k : Int} {p : Nat}, 0 ≤ k → nlAt l k = some p → ((l.take p).count 10 : Int) = k ∧ l[p]? = some 10
  | [], _, _, _, h => by simp [nlAt] at h
  | r :: l, k, p, h0, h => by
    simp only [nlAt] at h
    by_cases h10 : r = 10
    · subst h10
      rw [if_pos rfl] at h
      by_cases hk : k = 0
      · rw [if_pos hk] at h; cases h; simp [hk]
      · rw [if_neg hk] at h
        obtain ⟨q, hq, rfl⟩ := Option.map_eq_some_iff.1 h
        obtain ⟨h1, h2⟩ := nlAt_cnt (by omega) hq
        refine ⟨?_, by simpa using h2⟩
        rw [List.take_succ_cons, List.count_cons_self]; omega
    · rw [if_neg h10] at h
      obtain ⟨q, hq, rfl⟩ := Option.map_eq_some_iff.1 h
      obtain ⟨h1, h2⟩ := nlAt_cnt h0 hq
      refine ⟨?_, by simpa using h2⟩
      rw [List.take_succ_cons, List.count_cons_of_ne h10]; exact h1
theorem cnt_mono {l : List Int} {a b : Nat} (h : a ≤ b) : (l.take a).count 10 ≤ (l.take b).count 10 := by
  rw [show l.take a = (l.take b).take a by rw [List.take_take, Nat.min_eq_left h]]
  exact (List.take_sublist a _).count_le 10
theorem nlAt_before {l : List Int} {k : Int} {p n : Nat} (h0 : 0 ≤ k) (h : nlAt l k = some p) (hn : k < ((l.take n).count 10 : Int)) : p < n := by
  rcases Nat.lt_or_ge p n with h1 | h1
  · exact h1
  · have := cnt_mono (l := l) h1
    have := (nlAt_cnt h0 h).1
    omega
theorem nlAt_behind {l : List Int} {k : Int} {p n : Nat} (h0 : 0 ≤ k) (h : nlAt l k = some p) (hn : ((l.take n).count 10 : Int) ≤ k) : n ≤ p := by
  rcases Nat.lt_or_ge p n with h1 | h1
  · have h2 := cnt_mono (l := l) (a := p + 1) (b := n) h1
    obtain ⟨h3, h4⟩ := nlAt_cnt h0 h
    have h5 := count_step h4
    rw [if_pos rfl] at h5
    omega
  · exact h1
section
variable {E : Env} {R : List SProp} {w : World} {W : World} {v : Value} {os : List OpV}
theorem offsetOf0' {b B : Nat} {t : List Int} {i : Int} (hi : i = 0) (h : SatL E w (Rp b t B :: R)) : Calls Try.prog 20 #[pT b, .int .i64 i] w (Ret fun v w' => v = .tuple #[.int .i64 0, .int .i64 0] ∧ SatL E w' (Rp b t B :: R)) := by
  subst hi; exact offsetOf0 h
theorem lines_long {i : Int} (hv : OpsAt W v os) (hl : 40 < os.length) (h : SatL E w (Old W :: R)) : Calls Try.prog 5 #[v, .int .i64 i] w (Ret fun u w' => u = .bool true ∧ SatL E w' (Old W :: R)) := by
  obtain ⟨a, cap, rfl, _⟩ := hv
  refine calls_x Try.func5 rfl Try.ntmps5 rfl ?_
  refine xc_gen (fun g hg => ?_)
  have s0 := (hg 0).trans arg0
  have s1 := (hg 1).trans arg1
  clear hg
  refine xc_seq (fun K hK1 => ?_)
  refine xc_region ?_
  refine x_val (r_assign ec) (nd_of rfl) rfl ?_
  refine xw_nil ?_
  refine hK1 _ _ ?_
  refine xc_gen (fun g hg => ?_)
  have s0 := (hg 0).trans (en rfl s0)
  have s1 := (hg 1).trans (en rfl s1)
  have s4 := (hg 4).trans es
  clear hg
  refine xc_seq (fun K hK2 => ?_)
  refine xc_region ?_
  refine x_enter (r_call Try.call9 .nil) (nd_of rfl) rfl (newR h) ?_
  rintro _ w ⟨b, rfl, h⟩
  refine x_val (r_assign es) (nd_of rfl) rfl ?_
  refine xw_nil ?_
  refine hK2 _ _ ?_
  refine xc_gen (fun g hg => ?_)
  have s0 := (hg 0).trans (en rfl (en rfl s0))
  have s1 := (hg 1).trans (en rfl (en rfl s1))
  have s4 := (hg 4).trans (en rfl (en rfl s4))
  have s5 := (hg 5).trans es
  clear hg
  refine xc_seq (fun K hK3 => ?_)
  refine xc_seq (fun K hK4 => ?_)
  refine xc_region ?_
  refine x_val (r_move s5) (nd_of rfl) rfl ?_
  refine x_val (r_eqnil Try.underlying24 es ec (r := false) rfl) (nd_of rfl) rfl ?_
  refine x_val (r_move es) (nd_of rfl) rfl ?_
  refine x_take (d := 23) rfl rfl es ?_
  refine x_val (r_move (en rfl (en rfl (en rfl s0)))) (nd_of rfl) rfl ?_
  refine x_take (d := 23) rfl rfl (en rfl es) ?_
  refine x_val (r_len Try.underlying22 es) (nd_of rfl) rfl ?_
  refine x_take (d := 23) rfl rfl (en rfl (en rfl es)) ?_
  refine x_val (r_gtr es ec (decide_eq_true (by omega))) (nd_of rfl) rfl ?_
  refine x_val (r_pick_f (en rfl (en rfl (en rfl es))) es) (nd_of rfl) rfl ?_
  refine xw_nil ?_
  refine hK4 _ _ ?_
  refine xc_gen (fun g hg => ?_)
  have s0 := (hg 0).trans (en rfl (en rfl (en rfl (en rfl (en rfl (en rfl (en rfl s0)))))))
  have s1 := (hg 1).trans (en rfl (en rfl (en rfl (en rfl (en rfl (en rfl (en rfl s1)))))))
  have s4 := (hg 4).trans (en rfl (en rfl (en rfl (en rfl (en rfl (en rfl (en rfl s4)))))))
  have s5 := (hg 5).trans (en rfl (en rfl (en rfl (en rfl (en rfl (en rfl (en rfl s5)))))))
  have s27 := (hg 27).trans es
  clear hg
  refine xc_cond s27 (fun _ => ?_) (fun hc => by cases hc)
  refine xc_seq (fun K hK5 => ?_)
  refine xc_region ?_
  refine x_val (r_move s5) (nd_of rfl) rfl ?_
  refine x_val (r_nenil Try.underlying24 es ec (r := true) rfl) (nd_of rfl) rfl ?_
  refine x_val (r_move es) (nd_of rfl) rfl ?_
  refine x_take (d := 30) rfl rfl es ?_
  refine x_enter (r_call Try.call10 .nil) (nd_of rfl) rfl (known_ok h) ?_
  rintro _ w ⟨rfl, h⟩
  refine x_val (r_pick_t (en rfl es) es) (nd_of rfl) rfl ?_
  refine x_val (r_assign es) (nd_of rfl) rfl ?_
  refine xw_nil ?_
  refine hK5 _ _ ?_
  refine xc_gen (fun g hg => ?_)
  have s0 := (hg 0).trans (en rfl (en rfl (en rfl (en rfl (en rfl (en rfl s0))))))
  have s1 := (hg 1).trans (en rfl (en rfl (en rfl (en rfl (en rfl (en rfl s1))))))
  have s4 := (hg 4).trans es
  have s5 := (hg 5).trans (en rfl (en rfl (en rfl (en rfl (en rfl (en rfl s5))))))
  have s27 := (hg 27).trans (en rfl (en rfl (en rfl (en rfl (en rfl (en rfl s27))))))
  clear hg
  refine xc_ret ?_
  refine bodyR_1 rfl s4 ?_
  exact ⟨rfl, h.drop⟩
theorem lines_ok {i : Int} (hi : I64 i) (hv : OpsAt W v os) (hl : os.length ≤ 40) (h : SatL E w (Old W :: R)) : Calls Try.prog 5 #[v, .int .i64 i] w (Ret fun u w' => u = .bool true ∧ SatL E w' (Old W :: R)) := by
  obtain ⟨a, cap, rfl, hread⟩ := hv
  unfold I64 at hi
  refine calls_x Try.func5 rfl Try.ntmps5 rfl ?_
  refine xc_gen (fun g hg => ?_)
  have s0 := (hg 0).trans arg0
  have s1 := (hg 1).trans arg1
  clear hg
  refine xc_seq (fun K hK1 => ?_)
  refine xc_region ?_
  refine x_val (r_assign ec) (nd_of rfl) rfl ?_
  refine xw_nil ?_
  refine hK1 _ _ ?_
  refine xc_gen (fun g hg => ?_)
  have s0 := (hg 0).trans (en rfl s0)
  have s1 := (hg 1).trans (en rfl s1)
  have s4 := (hg 4).trans es
  clear hg
  refine xc_seq (fun K hK2 => ?_)
  refine xc_region ?_
  refine x_enter (r_call Try.call9 .nil) (nd_of rfl) rfl (newR h) ?_
  rintro _ w ⟨b, rfl, h⟩
  refine x_val (r_assign es) (nd_of rfl) rfl ?_
  refine xw_nil ?_
  refine hK2 _ _ ?_
  refine xc_gen (fun g hg => ?_)
  have s0 := (hg 0).trans (en rfl (en rfl s0))
  have s1 := (hg 1).trans (en rfl (en rfl s1))
  have s4 := (hg 4).trans (en rfl (en rfl s4))
  have s5 := (hg 5).trans es
  clear hg
  refine xc_seq (fun K hK3 => ?_)
  refine xc_seq (fun K hK4 => ?_)
  refine xc_region ?_
  refine x_val (r_move s5) (nd_of rfl) rfl ?_
  refine x_val (r_eqnil Try.underlying24 es ec (r := false) rfl) (nd_of rfl) rfl ?_
  refine x_val (r_move es) (nd_of rfl) rfl ?_
  refine x_take (d := 23) rfl rfl es ?_
  refine x_val (r_move (en rfl (en rfl (en rfl s0)))) (nd_of rfl) rfl ?_
  refine x_take (d := 23) rfl rfl (en rfl es) ?_
  refine x_val (r_len Try.underlying22 es) (nd_of rfl) rfl ?_
  refine x_take (d := 23) rfl rfl (en rfl (en rfl es)) ?_
  refine x_val (r_gtr es ec (decide_eq_false (by omega))) (nd_of rfl) rfl ?_
  refine x_val (r_pick_f (en rfl (en rfl (en rfl es))) es) (nd_of rfl) rfl ?_
  refine xw_nil ?_
  refine hK4 _ _ ?_
  refine xc_gen (fun g hg => ?_)
  have s0 := (hg 0).trans (en rfl (en rfl (en rfl (en rfl (en rfl (en rfl (en rfl s0)))))))
  have s1 := (hg 1).trans (en rfl (en rfl (en rfl (en rfl (en rfl (en rfl (en rfl s1)))))))
  have s4 := (hg 4).trans (en rfl (en rfl (en rfl (en rfl (en rfl (en rfl (en rfl s4)))))))
  have s5 := (hg 5).trans (en rfl (en rfl (en rfl (en rfl (en rfl (en rfl (en rfl s5)))))))
  have s27 := (hg 27).trans es
  clear hg
  refine xc_cond s27 (fun hc => by cases hc) (fun _ => ?_)
  refine xc_skip ?_
  refine hK3 _ _ ?_
  refine xc_seq (fun K hK5 => ?_)
  refine xc_seq (fun K hK6 => ?_)
  refine xc_region ?_
  refine x_val (r_move s0) (nd_of rfl) rfl ?_
  refine x_val (r_len Try.underlying22 es) (nd_of rfl) rfl ?_
  refine x_val (r_move ec) (nd_of rfl) rfl ?_
  refine xw_nil ?_
  refine hK6 _ _ ?_
  refine xc_gen (fun g hg => ?_)
  have s0 := (hg 0).trans (en rfl (en rfl (en rfl s0)))
  have s1 := (hg 1).trans (en rfl (en rfl (en rfl s1)))
  have s4 := (hg 4).trans (en rfl (en rfl (en rfl s4)))
  have s5 := (hg 5).trans (en rfl (en rfl (en rfl s5)))
  have s27 := (hg 27).trans (en rfl (en rfl (en rfl s27)))
  have s34 := (hg 34).trans (en rfl es)
  have s35 := (hg 35).trans es
  clear hg
  refine xc_block ?_
  obtain ⟨G7, hG7⟩ : ∃ g0 : Nat → Value, g0 = g := ⟨_, rfl⟩
  have zG7_0 : G7 0 = _ := (congrFun hG7 0).trans s0
  have zG7_1 : G7 1 = _ := (congrFun hG7 1).trans s1
  have zG7_4 : G7 4 = _ := (congrFun hG7 4).trans s4
  have zG7_5 : G7 5 = _ := (congrFun hG7 5).trans s5
  have zG7_27 : G7 27 = _ := (congrFun hG7 27).trans s27
  have zG7_34 : G7 34 = _ := (congrFun hG7 34).trans s34
  refine xc_loop (fun m f w => (∃ (k : Nat) (t : List Int), m = os.length - k ∧ k ≤ os.length ∧ t.length ≤ 3300 ∧ f 35 = .int .i64 (k : Int) ∧ SatL E w (Rp b t 4000 :: Old W :: R)) ∧ (f 0 = G7 0 ∧ f 1 = G7 1 ∧ f 4 = G7 4 ∧ f 5 = G7 5 ∧ f 27 = G7 27 ∧ f 34 = G7 34)) (os.length) ⟨⟨0, [], by omega, by omega, by simp, s35, h.rpMono (by omega)⟩, ⟨congrFun hG7.symm 0, congrFun hG7.symm 1, congrFun hG7.symm 4, congrFun hG7.symm 5, congrFun hG7.symm 27, congrFun hG7.symm 34⟩⟩ ?_
  rintro m g w ⟨⟨k, t, hm, hk, ht, s35, h⟩, ⟨y0, y1, y4, y5, y27, y34⟩⟩
  have s0 := y0.trans zG7_0
  have s1 := y1.trans zG7_1
  have s4 := y4.trans zG7_4
  have s5 := y5.trans zG7_5
  have s27 := y27.trans zG7_27
  have s34 := y34.trans zG7_34
  refine xc_seq (fun K hK8 => ?_)
  refine xc_region ?_
  refine x_val (r_lss s35 s34 rfl) (nd_of rfl) rfl ?_
  refine xw_nil ?_
  refine hK8 _ _ ?_
  refine xc_gen (fun g hg => ?_)
  have s0 := (hg 0).trans (en rfl s0)
  have s1 := (hg 1).trans (en rfl s1)
  have s4 := (hg 4).trans (en rfl s4)
  have s5 := (hg 5).trans (en rfl s5)
  have s27 := (hg 27).trans (en rfl s27)
  have s34 := (hg 34).trans (en rfl s34)
  have s35 := (hg 35).trans (en rfl s35)
  have s36 := (hg 36).trans es
  clear hg
  refine xc_seq (fun K hK9 => ?_)
  refine xc_cond s36 (fun hc => ?_) (fun hc => ?_)
  ·
    have hk2 : k < os.length := by have := of_decide_eq_true hc; omega
    obtain ⟨o, ho⟩ : ∃ o, os[k]? = some o := ⟨_, List.getElem?_eq_getElem hk2⟩
    obtain ⟨hwf, ad, rfl, hcell⟩ := hread k o ho
    have hsp := hwf.sp
    obtain ⟨al, cl, hlv, _, _, _⟩ := hwf.sp
    rw [hlv] at hsp
    have c4 : W.cell? ((ad.add (k * 5)).add 4) = some (.slice al o.ls.length cl) := by rw [← hlv]; exact hcell 4 _ rfl
    rcases Nat.lt_or_ge 300 o.ls.length with hls | hls
    ·
      skip
      refine xc_skip ?_
      refine hK9 _ _ ?_
      refine xc_seq (fun K hK10 => ?_)
      refine xc_block ?_
      refine xc_seq (fun K hK11 => ?_)
      refine xc_region ?_
      refine x_val (r_move s35) (nd_of rfl) rfl ?_
      refine x_val (r_assign es) (nd_of rfl) rfl ?_
      refine xw_nil ?_
      refine hK11 _ _ ?_
      refine xc_gen (fun g hg => ?_)
      have s0 := (hg 0).trans (en rfl (en rfl s0))
      have s1 := (hg 1).trans (en rfl (en rfl s1))
      have s4 := (hg 4).trans (en rfl (en rfl s4))
      have s5 := (hg 5).trans (en rfl (en rfl s5))
      have s6 := (hg 6).trans es
      have s27 := (hg 27).trans (en rfl (en rfl s27))
      have s34 := (hg 34).trans (en rfl (en rfl s34))
      have s35 := (hg 35).trans (en rfl (en rfl s35))
      have s36 := (hg 36).trans (en rfl (en rfl s36))
      clear hg
      refine xc_block ?_
      refine xc_seq (fun K hK12 => ?_)
      refine xc_region ?_
      refine x_val (r_move s0) (nd_of rfl) rfl ?_
      refine x_val (r_move (en rfl s6)) (nd_of rfl) rfl ?_
      refine x_val (r_indexAny Try.underlying22 Try.sizeOf28 (en rfl es) es (by omega) (by omega)) (nd_of rfl) rfl ?_
      refine x_val (r_fieldAddrA Try.underlying28 rfl Try.sizeOf23 rfl es) (nd_of rfl) rfl ?_
      refine x_val (r_loadCell Try.isAgg23 es (h.oldCell 1 rfl c4)) (nd_of rfl) rfl ?_
      refine x_val (r_len Try.underlying23 es) (nd_of rfl) rfl ?_
      refine x_val (r_gtr es ec (decide_eq_true (by omega))) (nd_of rfl) rfl ?_
      refine x_val (r_move es) (nd_of rfl) rfl ?_
      refine x_pass (d := 58) rfl rfl es rfl ?_
      refine x_pass (d := 58) rfl rfl (en rfl es) rfl ?_
      refine x_pass (d := 58) rfl rfl (en rfl (en rfl es)) rfl ?_
      refine x_val (r_pick_t (en rfl (en rfl (en rfl es))) ec) (nd_of rfl) rfl ?_
      refine x_val (r_assign es) (nd_of rfl) rfl ?_
      refine xw_nil ?_
      refine hK12 _ _ ?_
      refine xc_gen (fun g hg => ?_)
      have s0 := (hg 0).trans (en rfl (en rfl (en rfl (en rfl (en rfl (en rfl (en rfl (en rfl (en rfl (en rfl (en rfl (en rfl (en rfl s0)))))))))))))
      have s1 := (hg 1).trans (en rfl (en rfl (en rfl (en rfl (en rfl (en rfl (en rfl (en rfl (en rfl (en rfl (en rfl (en rfl (en rfl s1)))))))))))))
      have s4 := (hg 4).trans (en rfl (en rfl (en rfl (en rfl (en rfl (en rfl (en rfl (en rfl (en rfl (en rfl (en rfl (en rfl (en rfl s4)))))))))))))
      have s5 := (hg 5).trans (en rfl (en rfl (en rfl (en rfl (en rfl (en rfl (en rfl (en rfl (en rfl (en rfl (en rfl (en rfl (en rfl s5)))))))))))))
      have s6 := (hg 6).trans (en rfl (en rfl (en rfl (en rfl (en rfl (en rfl (en rfl (en rfl (en rfl (en rfl (en rfl (en rfl (en rfl s6)))))))))))))
      have s27 := (hg 27).trans (en rfl (en rfl (en rfl (en rfl (en rfl (en rfl (en rfl (en rfl (en rfl (en rfl (en rfl (en rfl (en rfl s27)))))))))))))
      have s34 := (hg 34).trans (en rfl (en rfl (en rfl (en rfl (en rfl (en rfl (en rfl (en rfl (en rfl (en rfl (en rfl (en rfl (en rfl s34)))))))))))))
      have s35 := (hg 35).trans (en rfl (en rfl (en rfl (en rfl (en rfl (en rfl (en rfl (en rfl (en rfl (en rfl (en rfl (en rfl (en rfl s35)))))))))))))
      have s36 := (hg 36).trans (en rfl (en rfl (en rfl (en rfl (en rfl (en rfl (en rfl (en rfl (en rfl (en rfl (en rfl (en rfl (en rfl s36)))))))))))))
      have s50 := (hg 50).trans es
      clear hg
      refine xc_cond s50 (fun _ => ?_) (fun hc => by cases hc)
      refine xc_exit ?_
      refine hK10 _ _ ?_
      refine xc_region ?_
      refine x_val (r_add s35 ec (show _ = (((k + 1 : Nat) : Int) : Int) from by omega) (by unfold I64; omega)) (nd_of rfl) rfl ?_
      refine x_val (r_move es) (nd_of rfl) rfl ?_
      refine xw_nil ?_
      exact ⟨os.length - (k + 1), by omega, ⟨k + 1, t, rfl, by omega, ht, es, h⟩, ⟨((en rfl (en rfl s0))).trans zG7_0.symm, ((en rfl (en rfl s1))).trans zG7_1.symm, ((en rfl (en rfl s4))).trans zG7_4.symm, ((en rfl (en rfl s5))).trans zG7_5.symm, ((en rfl (en rfl s27))).trans zG7_27.symm, ((en rfl (en rfl s34))).trans zG7_34.symm⟩⟩
    ·
      skip
      rcases Nat.lt_or_ge 3000 t.length with hts | hts
      ·
        skip
        refine xc_skip ?_
        refine hK9 _ _ ?_
        refine xc_seq (fun K hK13 => ?_)
        refine xc_block ?_
        refine xc_seq (fun K hK14 => ?_)
        refine xc_region ?_
        refine x_val (r_move s35) (nd_of rfl) rfl ?_
        refine x_val (r_assign es) (nd_of rfl) rfl ?_
        refine xw_nil ?_
        refine hK14 _ _ ?_
        refine xc_gen (fun g hg => ?_)
        have s0 := (hg 0).trans (en rfl (en rfl s0))
        have s1 := (hg 1).trans (en rfl (en rfl s1))
        have s4 := (hg 4).trans (en rfl (en rfl s4))
        have s5 := (hg 5).trans (en rfl (en rfl s5))
        have s6 := (hg 6).trans es
        have s27 := (hg 27).trans (en rfl (en rfl s27))
        have s34 := (hg 34).trans (en rfl (en rfl s34))
        have s35 := (hg 35).trans (en rfl (en rfl s35))
        have s36 := (hg 36).trans (en rfl (en rfl s36))
        clear hg
        refine xc_block ?_
        refine xc_seq (fun K hK15 => ?_)
        refine xc_region ?_
        refine x_val (r_move s0) (nd_of rfl) rfl ?_
        refine x_val (r_move (en rfl s6)) (nd_of rfl) rfl ?_
        refine x_val (r_indexAny Try.underlying22 Try.sizeOf28 (en rfl es) es (by omega) (by omega)) (nd_of rfl) rfl ?_
        refine x_val (r_fieldAddrA Try.underlying28 rfl Try.sizeOf23 rfl es) (nd_of rfl) rfl ?_
        refine x_val (r_loadCell Try.isAgg23 es (h.oldCell 1 rfl c4)) (nd_of rfl) rfl ?_
        refine x_val (r_len Try.underlying23 es) (nd_of rfl) rfl ?_
        refine x_val (r_gtr es ec (decide_eq_false (by omega))) (nd_of rfl) rfl ?_
        refine x_val (r_move es) (nd_of rfl) rfl ?_
        refine x_take (d := 58) rfl rfl es ?_
        refine x_val (r_move (en rfl (en rfl (en rfl (en rfl (en rfl (en rfl (en rfl (en rfl s5))))))))) (nd_of rfl) rfl ?_
        refine x_take (d := 58) rfl rfl (en rfl es) ?_
        refine x_enter (r_call Try.call11 (.cons es .nil)) (nd_of rfl) rfl (lenR h) ?_
        rintro _ w ⟨rfl, h⟩
        refine x_take (d := 58) rfl rfl (en rfl (en rfl es)) ?_
        refine x_val (r_gtr es ec (decide_eq_true (by omega))) (nd_of rfl) rfl ?_
        refine x_val (r_pick_f (en rfl (en rfl (en rfl es))) es) (nd_of rfl) rfl ?_
        refine x_val (r_assign es) (nd_of rfl) rfl ?_
        refine xw_nil ?_
        refine hK15 _ _ ?_
        refine xc_gen (fun g hg => ?_)
        have s0 := (hg 0).trans (en rfl (en rfl (en rfl (en rfl (en rfl (en rfl (en rfl (en rfl (en rfl (en rfl (en rfl (en rfl (en rfl s0)))))))))))))
        have s1 := (hg 1).trans (en rfl (en rfl (en rfl (en rfl (en rfl (en rfl (en rfl (en rfl (en rfl (en rfl (en rfl (en rfl (en rfl s1)))))))))))))
        have s4 := (hg 4).trans (en rfl (en rfl (en rfl (en rfl (en rfl (en rfl (en rfl (en rfl (en rfl (en rfl (en rfl (en rfl (en rfl s4)))))))))))))
        have s5 := (hg 5).trans (en rfl (en rfl (en rfl (en rfl (en rfl (en rfl (en rfl (en rfl (en rfl (en rfl (en rfl (en rfl (en rfl s5)))))))))))))
        have s6 := (hg 6).trans (en rfl (en rfl (en rfl (en rfl (en rfl (en rfl (en rfl (en rfl (en rfl (en rfl (en rfl (en rfl (en rfl s6)))))))))))))
        have s27 := (hg 27).trans (en rfl (en rfl (en rfl (en rfl (en rfl (en rfl (en rfl (en rfl (en rfl (en rfl (en rfl (en rfl (en rfl s27)))))))))))))
        have s34 := (hg 34).trans (en rfl (en rfl (en rfl (en rfl (en rfl (en rfl (en rfl (en rfl (en rfl (en rfl (en rfl (en rfl (en rfl s34)))))))))))))
        have s35 := (hg 35).trans (en rfl (en rfl (en rfl (en rfl (en rfl (en rfl (en rfl (en rfl (en rfl (en rfl (en rfl (en rfl (en rfl s35)))))))))))))
        have s36 := (hg 36).trans (en rfl (en rfl (en rfl (en rfl (en rfl (en rfl (en rfl (en rfl (en rfl (en rfl (en rfl (en rfl (en rfl s36)))))))))))))
        have s50 := (hg 50).trans es
        clear hg
        refine xc_cond s50 (fun _ => ?_) (fun hc => by cases hc)
        refine xc_exit ?_
        refine hK13 _ _ ?_
        refine xc_region ?_
        refine x_val (r_add s35 ec (show _ = (((k + 1 : Nat) : Int) : Int) from by omega) (by unfold I64; omega)) (nd_of rfl) rfl ?_
        refine x_val (r_move es) (nd_of rfl) rfl ?_
        refine xw_nil ?_
        exact ⟨os.length - (k + 1), by omega, ⟨k + 1, t, rfl, by omega, ht, es, h⟩, ⟨((en rfl (en rfl s0))).trans zG7_0.symm, ((en rfl (en rfl s1))).trans zG7_1.symm, ((en rfl (en rfl s4))).trans zG7_4.symm, ((en rfl (en rfl s5))).trans zG7_5.symm, ((en rfl (en rfl s27))).trans zG7_27.symm, ((en rfl (en rfl s34))).trans zG7_34.symm⟩⟩
      ·
        skip
        refine xc_skip ?_
        refine hK9 _ _ ?_
        refine xc_seq (fun K hK16 => ?_)
        refine xc_block ?_
        refine xc_seq (fun K hK17 => ?_)
        refine xc_region ?_
        refine x_val (r_move s35) (nd_of rfl) rfl ?_
        refine x_val (r_assign es) (nd_of rfl) rfl ?_
        refine xw_nil ?_
        refine hK17 _ _ ?_
        refine xc_gen (fun g hg => ?_)
        have s0 := (hg 0).trans (en rfl (en rfl s0))
        have s1 := (hg 1).trans (en rfl (en rfl s1))
        have s4 := (hg 4).trans (en rfl (en rfl s4))
        have s5 := (hg 5).trans (en rfl (en rfl s5))
        have s6 := (hg 6).trans es
        have s27 := (hg 27).trans (en rfl (en rfl s27))
        have s34 := (hg 34).trans (en rfl (en rfl s34))
        have s35 := (hg 35).trans (en rfl (en rfl s35))
        have s36 := (hg 36).trans (en rfl (en rfl s36))
        clear hg
        refine xc_block ?_
        refine xc_seq (fun K hK18 => ?_)
        refine xc_region ?_
        refine x_val (r_move s0) (nd_of rfl) rfl ?_
        refine x_val (r_move (en rfl s6)) (nd_of rfl) rfl ?_
        refine x_val (r_indexAny Try.underlying22 Try.sizeOf28 (en rfl es) es (by omega) (by omega)) (nd_of rfl) rfl ?_
        refine x_val (r_fieldAddrA Try.underlying28 rfl Try.sizeOf23 rfl es) (nd_of rfl) rfl ?_
        refine x_val (r_loadCell Try.isAgg23 es (h.oldCell 1 rfl c4)) (nd_of rfl) rfl ?_
        refine x_val (r_len Try.underlying23 es) (nd_of rfl) rfl ?_
        refine x_val (r_gtr es ec (decide_eq_false (by omega))) (nd_of rfl) rfl ?_
        refine x_val (r_move es) (nd_of rfl) rfl ?_
        refine x_take (d := 58) rfl rfl es ?_
        refine x_val (r_move (en rfl (en rfl (en rfl (en rfl (en rfl (en rfl (en rfl (en rfl s5))))))))) (nd_of rfl) rfl ?_
        refine x_take (d := 58) rfl rfl (en rfl es) ?_
        refine x_enter (r_call Try.call11 (.cons es .nil)) (nd_of rfl) rfl (lenR h) ?_
        rintro _ w ⟨rfl, h⟩
        refine x_take (d := 58) rfl rfl (en rfl (en rfl es)) ?_
        refine x_val (r_gtr es ec (decide_eq_false (by omega))) (nd_of rfl) rfl ?_
        refine x_val (r_pick_f (en rfl (en rfl (en rfl es))) es) (nd_of rfl) rfl ?_
        refine x_val (r_assign es) (nd_of rfl) rfl ?_
        refine xw_nil ?_
        refine hK18 _ _ ?_
        refine xc_gen (fun g hg => ?_)
        have s0 := (hg 0).trans (en rfl (en rfl (en rfl (en rfl (en rfl (en rfl (en rfl (en rfl (en rfl (en rfl (en rfl (en rfl (en rfl s0)))))))))))))
        have s1 := (hg 1).trans (en rfl (en rfl (en rfl (en rfl (en rfl (en rfl (en rfl (en rfl (en rfl (en rfl (en rfl (en rfl (en rfl s1)))))))))))))
        have s4 := (hg 4).trans (en rfl (en rfl (en rfl (en rfl (en rfl (en rfl (en rfl (en rfl (en rfl (en rfl (en rfl (en rfl (en rfl s4)))))))))))))
        have s5 := (hg 5).trans (en rfl (en rfl (en rfl (en rfl (en rfl (en rfl (en rfl (en rfl (en rfl (en rfl (en rfl (en rfl (en rfl s5)))))))))))))
        have s6 := (hg 6).trans (en rfl (en rfl (en rfl (en rfl (en rfl (en rfl (en rfl (en rfl (en rfl (en rfl (en rfl (en rfl (en rfl s6)))))))))))))
        have s27 := (hg 27).trans (en rfl (en rfl (en rfl (en rfl (en rfl (en rfl (en rfl (en rfl (en rfl (en rfl (en rfl (en rfl (en rfl s27)))))))))))))
        have s34 := (hg 34).trans (en rfl (en rfl (en rfl (en rfl (en rfl (en rfl (en rfl (en rfl (en rfl (en rfl (en rfl (en rfl (en rfl s34)))))))))))))
        have s35 := (hg 35).trans (en rfl (en rfl (en rfl (en rfl (en rfl (en rfl (en rfl (en rfl (en rfl (en rfl (en rfl (en rfl (en rfl s35)))))))))))))
        have s36 := (hg 36).trans (en rfl (en rfl (en rfl (en rfl (en rfl (en rfl (en rfl (en rfl (en rfl (en rfl (en rfl (en rfl (en rfl s36)))))))))))))
        have s50 := (hg 50).trans es
        clear hg
        refine xc_cond s50 (fun hc => by cases hc) (fun _ => ?_)
        refine xc_seq (fun K hK19 => ?_)
        refine xc_region ?_
        refine x_val (r_move s0) (nd_of rfl) rfl ?_
        refine x_val (r_move (en rfl s6)) (nd_of rfl) rfl ?_
        refine x_val (r_indexAny Try.underlying22 Try.sizeOf28 (en rfl es) es (by omega) (by omega)) (nd_of rfl) rfl ?_
        refine x_val (r_fieldAddrA Try.underlying28 rfl Try.sizeOf3 rfl es) (nd_of rfl) rfl ?_
        refine x_val (r_loadCell Try.isAgg3 es (h.oldCell 1 rfl (hcell 0 _ rfl))) (nd_of rfl) rfl ?_
        refine x_val (r_eql es ec rfl) (nd_of rfl) rfl ?_
        refine x_val (r_assign es) (nd_of rfl) rfl ?_
        refine xw_nil ?_
        refine hK19 _ _ ?_
        refine xc_gen (fun g hg => ?_)
        have s0 := (hg 0).trans (en rfl (en rfl (en rfl (en rfl (en rfl (en rfl (en rfl s0)))))))
        have s1 := (hg 1).trans (en rfl (en rfl (en rfl (en rfl (en rfl (en rfl (en rfl s1)))))))
        have s4 := (hg 4).trans (en rfl (en rfl (en rfl (en rfl (en rfl (en rfl (en rfl s4)))))))
        have s5 := (hg 5).trans (en rfl (en rfl (en rfl (en rfl (en rfl (en rfl (en rfl s5)))))))
        have s6 := (hg 6).trans (en rfl (en rfl (en rfl (en rfl (en rfl (en rfl (en rfl s6)))))))
        have s27 := (hg 27).trans (en rfl (en rfl (en rfl (en rfl (en rfl (en rfl (en rfl s27)))))))
        have s34 := (hg 34).trans (en rfl (en rfl (en rfl (en rfl (en rfl (en rfl (en rfl s34)))))))
        have s35 := (hg 35).trans (en rfl (en rfl (en rfl (en rfl (en rfl (en rfl (en rfl s35)))))))
        have s36 := (hg 36).trans (en rfl (en rfl (en rfl (en rfl (en rfl (en rfl (en rfl s36)))))))
        have s50 := (hg 50).trans (en rfl (en rfl (en rfl (en rfl (en rfl (en rfl (en rfl s50)))))))
        have s63 := (hg 63).trans es
        clear hg
        refine xc_cond s63 (fun hc => ?_) (fun hc => ?_)
        ·
          refine xc_plan 11 [(0, 2), (1, 2), (2, 2), (3, 2), (4, 2), (5, 1), (6, 2), (7, 2), (8, 2), (9, 2), (10, 1), (11, 0)] (by kernel_rfl) rfl (by kernel_rfl) h ?_
          have h := h.drew
          refine xp_read (i := 0) rfl (fun W => r_move s5) rfl (fun _ _ _ hh => by first | exact bodyR_np hh | exact bodyY_np hh | exact hh) ?_
          refine xp_read (i := 1) rfl (fun W => r_move (en rfl s0)) rfl (fun _ _ _ hh => by first | exact bodyR_np hh | exact bodyY_np hh | exact hh) ?_
          refine xp_read (i := 2) rfl (fun W => r_move (en rfl (en rfl s6))) rfl (fun _ _ _ hh => by first | exact bodyR_np hh | exact bodyY_np hh | exact hh) ?_
          refine xp_read (i := 3) rfl (fun W => r_indexAny Try.underlying22 Try.sizeOf28 (en rfl es) es (by omega) (by omega)) rfl (fun _ _ _ hh => by first | exact bodyR_np hh | exact bodyY_np hh | exact hh) ?_
          refine xp_read (i := 4) rfl (fun W => r_fieldAddrA Try.underlying28 rfl Try.sizeOf3 rfl es) rfl (fun _ _ _ hh => by first | exact bodyR_np hh | exact bodyY_np hh | exact hh) ?_
          refine xp_load (i := 5) rfl (fun W hW => r_loadCell Try.isAgg3 es (hW.oldCell 1 rfl (hcell 1 _ rfl))) rfl (fun _ _ _ hh => by first | exact bodyR_np hh | exact bodyY_np hh | exact hh) ?_
          refine xp_read (i := 6) rfl (fun W => r_move (en rfl (en rfl (en rfl (en rfl (en rfl (en rfl s0))))))) rfl (fun _ _ _ hh => by first | exact bodyR_np hh | exact bodyY_np hh | exact hh) ?_
          refine xp_read (i := 7) rfl (fun W => r_move (en rfl (en rfl (en rfl (en rfl (en rfl (en rfl (en rfl s6)))))))) rfl (fun _ _ _ hh => by first | exact bodyR_np hh | exact bodyY_np hh | exact hh) ?_
          refine xp_read (i := 8) rfl (fun W => r_indexAny Try.underlying22 Try.sizeOf28 (en rfl es) es (by omega) (by omega)) rfl (fun _ _ _ hh => by first | exact bodyR_np hh | exact bodyY_np hh | exact hh) ?_
          refine xp_read (i := 9) rfl (fun W => r_fieldAddrA Try.underlying28 rfl Try.sizeOf3 rfl es) rfl (fun _ _ _ hh => by first | exact bodyR_np hh | exact bodyY_np hh | exact hh) ?_
          refine xp_load (i := 10) rfl (fun W hW => r_loadCell Try.isAgg3 es (hW.oldCell 1 rfl (hcell 2 _ rfl))) rfl (fun _ _ _ hh => by first | exact bodyR_np hh | exact bodyY_np hh | exact hh) ?_
          refine xp_enter (i := 11) rfl (r_call Try.call12 (.cons (en rfl (en rfl (en rfl (en rfl (en rfl (en rfl (en rfl (en rfl (en rfl (en rfl es)))))))))) (.cons (en rfl (en rfl (en rfl (en rfl (en rfl es))))) (.cons es .nil)))) rfl (delete_any (B' := 4000) (by omega) (by omega) (by omega) h) ?_
          rintro _ w ⟨e9, t9, rfl, hl9, h⟩
          refine ⟨(fun hh => absurd rfl hh), ?_⟩
          refine xp_nil ?_
          refine hK16 _ _ ?_
          refine xc_gen (fun g hg => ?_)
          have s0 := (hg 0).trans (en rfl (en rfl (en rfl (en rfl (en rfl (en rfl (en rfl (en rfl (en rfl (en rfl (en rfl (en rfl s0))))))))))))
          have s1 := (hg 1).trans (en rfl (en rfl (en rfl (en rfl (en rfl (en rfl (en rfl (en rfl (en rfl (en rfl (en rfl (en rfl s1))))))))))))
          have s4 := (hg 4).trans (en rfl (en rfl (en rfl (en rfl (en rfl (en rfl (en rfl (en rfl (en rfl (en rfl (en rfl (en rfl s4))))))))))))
          have s5 := (hg 5).trans (en rfl (en rfl (en rfl (en rfl (en rfl (en rfl (en rfl (en rfl (en rfl (en rfl (en rfl (en rfl s5))))))))))))
          have s6 := (hg 6).trans (en rfl (en rfl (en rfl (en rfl (en rfl (en rfl (en rfl (en rfl (en rfl (en rfl (en rfl (en rfl s6))))))))))))
          have s27 := (hg 27).trans (en rfl (en rfl (en rfl (en rfl (en rfl (en rfl (en rfl (en rfl (en rfl (en rfl (en rfl (en rfl s27))))))))))))
          have s34 := (hg 34).trans (en rfl (en rfl (en rfl (en rfl (en rfl (en rfl (en rfl (en rfl (en rfl (en rfl (en rfl (en rfl s34))))))))))))
          have s35 := (hg 35).trans (en rfl (en rfl (en rfl (en rfl (en rfl (en rfl (en rfl (en rfl (en rfl (en rfl (en rfl (en rfl s35))))))))))))
          have s36 := (hg 36).trans (en rfl (en rfl (en rfl (en rfl (en rfl (en rfl (en rfl (en rfl (en rfl (en rfl (en rfl (en rfl s36))))))))))))
          have s50 := (hg 50).trans (en rfl (en rfl (en rfl (en rfl (en rfl (en rfl (en rfl (en rfl (en rfl (en rfl (en rfl (en rfl s50))))))))))))
          have s63 := (hg 63).trans (en rfl (en rfl (en rfl (en rfl (en rfl (en rfl (en rfl (en rfl (en rfl (en rfl (en rfl (en rfl s63))))))))))))
          clear hg
          refine xc_region ?_
          refine x_val (r_add s35 ec (show _ = (((k + 1 : Nat) : Int) : Int) from by omega) (by unfold I64; omega)) (nd_of rfl) rfl ?_
          refine x_val (r_move es) (nd_of rfl) rfl ?_
          refine xw_nil ?_
          exact ⟨os.length - (k + 1), by omega, ⟨k + 1, t9, rfl, by omega, by omega, es, h⟩, ⟨((en rfl (en rfl s0))).trans zG7_0.symm, ((en rfl (en rfl s1))).trans zG7_1.symm, ((en rfl (en rfl s4))).trans zG7_4.symm, ((en rfl (en rfl s5))).trans zG7_5.symm, ((en rfl (en rfl s27))).trans zG7_27.symm, ((en rfl (en rfl s34))).trans zG7_34.symm⟩⟩
        ·
          refine xc_plan 11 [(0, 2), (1, 2), (2, 2), (3, 2), (4, 2), (5, 1), (6, 2), (7, 2), (8, 2), (9, 2), (10, 1), (11, 0)] (by kernel_rfl) rfl (by kernel_rfl) h ?_
          have h := h.drew
          refine xp_read (i := 0) rfl (fun W => r_move s5) rfl (fun _ _ _ hh => by first | exact bodyR_np hh | exact bodyY_np hh | exact hh) ?_
          refine xp_read (i := 1) rfl (fun W => r_move (en rfl s0)) rfl (fun _ _ _ hh => by first | exact bodyR_np hh | exact bodyY_np hh | exact hh) ?_
          refine xp_read (i := 2) rfl (fun W => r_move (en rfl (en rfl s6))) rfl (fun _ _ _ hh => by first | exact bodyR_np hh | exact bodyY_np hh | exact hh) ?_
          refine xp_read (i := 3) rfl (fun W => r_indexAny Try.underlying22 Try.sizeOf28 (en rfl es) es (by omega) (by omega)) rfl (fun _ _ _ hh => by first | exact bodyR_np hh | exact bodyY_np hh | exact hh) ?_
          refine xp_read (i := 4) rfl (fun W => r_fieldAddrA Try.underlying28 rfl Try.sizeOf3 rfl es) rfl (fun _ _ _ hh => by first | exact bodyR_np hh | exact bodyY_np hh | exact hh) ?_
          refine xp_load (i := 5) rfl (fun W hW => r_loadCell Try.isAgg3 es (hW.oldCell 1 rfl (hcell 1 _ rfl))) rfl (fun _ _ _ hh => by first | exact bodyR_np hh | exact bodyY_np hh | exact hh) ?_
          refine xp_read (i := 6) rfl (fun W => r_move (en rfl (en rfl (en rfl (en rfl (en rfl (en rfl s0))))))) rfl (fun _ _ _ hh => by first | exact bodyR_np hh | exact bodyY_np hh | exact hh) ?_
          refine xp_read (i := 7) rfl (fun W => r_move (en rfl (en rfl (en rfl (en rfl (en rfl (en rfl (en rfl s6)))))))) rfl (fun _ _ _ hh => by first | exact bodyR_np hh | exact bodyY_np hh | exact hh) ?_
          refine xp_read (i := 8) rfl (fun W => r_indexAny Try.underlying22 Try.sizeOf28 (en rfl es) es (by omega) (by omega)) rfl (fun _ _ _ hh => by first | exact bodyR_np hh | exact bodyY_np hh | exact hh) ?_
          refine xp_read (i := 9) rfl (fun W => r_fieldAddrA Try.underlying28 rfl Try.sizeOf23 rfl es) rfl (fun _ _ _ hh => by first | exact bodyR_np hh | exact bodyY_np hh | exact hh) ?_
          refine xp_load (i := 10) rfl (fun W hW => r_loadCell Try.isAgg23 es (hW.oldCell 1 rfl c4)) rfl (fun _ _ _ hh => by first | exact bodyR_np hh | exact bodyY_np hh | exact hh) ?_
          refine xp_enter (i := 11) rfl (r_call Try.call13 (.cons (en rfl (en rfl (en rfl (en rfl (en rfl (en rfl (en rfl (en rfl (en rfl (en rfl es)))))))))) (.cons (en rfl (en rfl (en rfl (en rfl (en rfl es))))) (.cons es .nil)))) rfl (insert_any (B' := 4000) (hsp.old 0 rfl) (by omega) (by omega) (by omega) h) ?_
          rintro _ w ⟨e9, t9, rfl, hl9, h⟩
          refine ⟨(fun hh => absurd rfl hh), ?_⟩
          refine xp_nil ?_
          refine hK16 _ _ ?_
          refine xc_gen (fun g hg => ?_)
          have s0 := (hg 0).trans (en rfl (en rfl (en rfl (en rfl (en rfl (en rfl (en rfl (en rfl (en rfl (en rfl (en rfl (en rfl s0))))))))))))
          have s1 := (hg 1).trans (en rfl (en rfl (en rfl (en rfl (en rfl (en rfl (en rfl (en rfl (en rfl (en rfl (en rfl (en rfl s1))))))))))))
          have s4 := (hg 4).trans (en rfl (en rfl (en rfl (en rfl (en rfl (en rfl (en rfl (en rfl (en rfl (en rfl (en rfl (en rfl s4))))))))))))
          have s5 := (hg 5).trans (en rfl (en rfl (en rfl (en rfl (en rfl (en rfl (en rfl (en rfl (en rfl (en rfl (en rfl (en rfl s5))))))))))))
          have s6 := (hg 6).trans (en rfl (en rfl (en rfl (en rfl (en rfl (en rfl (en rfl (en rfl (en rfl (en rfl (en rfl (en rfl s6))))))))))))
          have s27 := (hg 27).trans (en rfl (en rfl (en rfl (en rfl (en rfl (en rfl (en rfl (en rfl (en rfl (en rfl (en rfl (en rfl s27))))))))))))
          have s34 := (hg 34).trans (en rfl (en rfl (en rfl (en rfl (en rfl (en rfl (en rfl (en rfl (en rfl (en rfl (en rfl (en rfl s34))))))))))))
          have s35 := (hg 35).trans (en rfl (en rfl (en rfl (en rfl (en rfl (en rfl (en rfl (en rfl (en rfl (en rfl (en rfl (en rfl s35))))))))))))
          have s36 := (hg 36).trans (en rfl (en rfl (en rfl (en rfl (en rfl (en rfl (en rfl (en rfl (en rfl (en rfl (en rfl (en rfl s36))))))))))))
          have s50 := (hg 50).trans (en rfl (en rfl (en rfl (en rfl (en rfl (en rfl (en rfl (en rfl (en rfl (en rfl (en rfl (en rfl s50))))))))))))
          have s63 := (hg 63).trans (en rfl (en rfl (en rfl (en rfl (en rfl (en rfl (en rfl (en rfl (en rfl (en rfl (en rfl (en rfl s63))))))))))))
          clear hg
          refine xc_region ?_
          refine x_val (r_add s35 ec (show _ = (((k + 1 : Nat) : Int) : Int) from by omega) (by unfold I64; omega)) (nd_of rfl) rfl ?_
          refine x_val (r_move es) (nd_of rfl) rfl ?_
          refine xw_nil ?_
          exact ⟨os.length - (k + 1), by omega, ⟨k + 1, t9, rfl, by omega, by omega, es, h⟩, ⟨((en rfl (en rfl s0))).trans zG7_0.symm, ((en rfl (en rfl s1))).trans zG7_1.symm, ((en rfl (en rfl s4))).trans zG7_4.symm, ((en rfl (en rfl s5))).trans zG7_5.symm, ((en rfl (en rfl s27))).trans zG7_27.symm, ((en rfl (en rfl s34))).trans zG7_34.symm⟩⟩
  ·
    refine xc_exit ?_
    refine hK5 _ _ ?_
    refine xc_seq (fun K hK20 => ?_)
    refine xc_seq (fun K hK21 => ?_)
    have hcl := (List.count_le_length : t.count 10 ≤ t.length)
    refine xc_region ?_
    refine x_val (r_move s5) (nd_of rfl) rfl ?_
    refine x_enter (r_call Try.call18 (.cons es .nil)) (nd_of rfl) rfl (newlinesR h) ?_
    rintro _ w ⟨rfl, h⟩
    refine x_val (r_add es ec (show _ = ((t.count 10 : Int) + 1 : Int) from by rfl) (by unfold I64; omega)) (nd_of rfl) rfl ?_
    refine x_val (r_move ec) (nd_of rfl) rfl ?_
    refine xw_nil ?_
    refine hK21 _ _ ?_
    refine xc_gen (fun g hg => ?_)
    have s0 := (hg 0).trans (en rfl (en rfl (en rfl (en rfl s0))))
    have s1 := (hg 1).trans (en rfl (en rfl (en rfl (en rfl s1))))
    have s4 := (hg 4).trans (en rfl (en rfl (en rfl (en rfl s4))))
    have s5 := (hg 5).trans (en rfl (en rfl (en rfl (en rfl s5))))
    have s27 := (hg 27).trans (en rfl (en rfl (en rfl (en rfl s27))))
    have s34 := (hg 34).trans (en rfl (en rfl (en rfl (en rfl s34))))
    have s35 := (hg 35).trans (en rfl (en rfl (en rfl (en rfl s35))))
    have s36 := (hg 36).trans (en rfl (en rfl (en rfl (en rfl s36))))
    have s85 := (hg 85).trans (en rfl es)
    have s86 := (hg 86).trans es
    clear hg
    refine xc_block ?_
    obtain ⟨G22, hG22⟩ : ∃ g0 : Nat → Value, g0 = g := ⟨_, rfl⟩
    have zG22_0 : G22 0 = _ := (congrFun hG22 0).trans s0
    have zG22_1 : G22 1 = _ := (congrFun hG22 1).trans s1
    have zG22_5 : G22 5 = _ := (congrFun hG22 5).trans s5
    have zG22_27 : G22 27 = _ := (congrFun hG22 27).trans s27
    have zG22_34 : G22 34 = _ := (congrFun hG22 34).trans s34
    have zG22_35 : G22 35 = _ := (congrFun hG22 35).trans s35
    have zG22_36 : G22 36 = _ := (congrFun hG22 36).trans s36
    have zG22_85 : G22 85 = _ := (congrFun hG22 85).trans s85
    refine xc_loop (fun m f w => (∃ n : Nat, m = t.count 10 + 1 - n ∧ n ≤ t.count 10 + 1 ∧ f 86 = .int .i64 (n : Int) ∧ SatL E w (Rp b t 4000 :: Old W :: R)) ∧ (f 0 = G22 0 ∧ f 1 = G22 1 ∧ f 5 = G22 5 ∧ f 27 = G22 27 ∧ f 34 = G22 34 ∧ f 35 = G22 35 ∧ f 36 = G22 36 ∧ f 85 = G22 85)) (t.count 10 + 1) ⟨⟨0, by omega, by omega, s86, h⟩, ⟨congrFun hG22.symm 0, congrFun hG22.symm 1, congrFun hG22.symm 5, congrFun hG22.symm 27, congrFun hG22.symm 34, congrFun hG22.symm 35, congrFun hG22.symm 36, congrFun hG22.symm 85⟩⟩ ?_
    rintro m g w ⟨⟨n, hm, hn, s86, h⟩, ⟨y0, y1, y5, y27, y34, y35, y36, y85⟩⟩
    have s0 := y0.trans zG22_0
    have s1 := y1.trans zG22_1
    have s5 := y5.trans zG22_5
    have s27 := y27.trans zG22_27
    have s34 := y34.trans zG22_34
    have s35 := y35.trans zG22_35
    have s36 := y36.trans zG22_36
    have s85 := y85.trans zG22_85
    refine xc_seq (fun K hK23 => ?_)
    refine xc_region ?_
    refine x_val (r_lss s86 s85 rfl) (nd_of rfl) rfl ?_
    refine xw_nil ?_
    refine hK23 _ _ ?_
    refine xc_gen (fun g hg => ?_)
    have s0 := (hg 0).trans (en rfl s0)
    have s1 := (hg 1).trans (en rfl s1)
    have s5 := (hg 5).trans (en rfl s5)
    have s27 := (hg 27).trans (en rfl s27)
    have s34 := (hg 34).trans (en rfl s34)
    have s35 := (hg 35).trans (en rfl s35)
    have s36 := (hg 36).trans (en rfl s36)
    have s85 := (hg 85).trans (en rfl s85)
    have s86 := (hg 86).trans (en rfl s86)
    have s87 := (hg 87).trans es
    clear hg
    refine xc_seq (fun K hK24 => ?_)
    refine xc_cond s87 (fun hc => ?_) (fun hc => ?_)
    ·
      have hnl : n < t.count 10 + 1 := by have := of_decide_eq_true hc; omega
      rcases Nat.eq_zero_or_pos n with hn0 | hn0
      ·
        skip
        refine xc_skip ?_
        refine hK24 _ _ ?_
        refine xc_seq (fun K hK25 => ?_)
        refine xc_block ?_
        refine xc_seq (fun K hK26 => ?_)
        subst hn0
        refine xc_region ?_
        refine x_val (r_move s86) (nd_of rfl) rfl ?_
        refine x_val (r_assign es) (nd_of rfl) rfl ?_
        refine xw_nil ?_
        refine hK26 _ _ ?_
        refine xc_gen (fun g hg => ?_)
        have s0 := (hg 0).trans (en rfl (en rfl s0))
        have s1 := (hg 1).trans (en rfl (en rfl s1))
        have s5 := (hg 5).trans (en rfl (en rfl s5))
        have s7 := (hg 7).trans es
        have s27 := (hg 27).trans (en rfl (en rfl s27))
        have s34 := (hg 34).trans (en rfl (en rfl s34))
        have s35 := (hg 35).trans (en rfl (en rfl s35))
        have s36 := (hg 36).trans (en rfl (en rfl s36))
        have s85 := (hg 85).trans (en rfl (en rfl s85))
        have s86 := (hg 86).trans (en rfl (en rfl s86))
        have s87 := (hg 87).trans (en rfl (en rfl s87))
        clear hg
        refine xc_seq (fun K hK27 => ?_)
        refine xc_region ?_
        refine x_val (r_move s5) (nd_of rfl) rfl ?_
        refine x_val (r_move (en rfl s7)) (nd_of rfl) rfl ?_
        refine x_enter (r_call Try.call20 (.cons (en rfl es) (.cons es .nil))) (nd_of rfl) rfl (offsetOf0 h) ?_
        rintro _ w ⟨rfl, h⟩
        refine x_val (r_move es) (nd_of rfl) rfl ?_
        refine x_val (r_extract es gc0) (nd_of rfl) rfl ?_
        refine x_val (r_extract (en rfl es) gc1) (nd_of rfl) rfl ?_
        refine x_val (r_assign (en rfl es)) (nd_of rfl) rfl ?_
        refine x_val (r_assign (en rfl es)) (nd_of rfl) rfl ?_
        refine xw_nil ?_
        refine hK27 _ _ ?_
        refine xc_gen (fun g hg => ?_)
        have s0 := (hg 0).trans (en rfl (en rfl (en rfl (en rfl (en rfl (en rfl (en rfl (en rfl s0))))))))
        have s1 := (hg 1).trans (en rfl (en rfl (en rfl (en rfl (en rfl (en rfl (en rfl (en rfl s1))))))))
        have s5 := (hg 5).trans (en rfl (en rfl (en rfl (en rfl (en rfl (en rfl (en rfl (en rfl s5))))))))
        have s7 := (hg 7).trans (en rfl (en rfl (en rfl (en rfl (en rfl (en rfl (en rfl (en rfl s7))))))))
        have s8 := (hg 8).trans (en rfl es)
        have s9 := (hg 9).trans es
        have s27 := (hg 27).trans (en rfl (en rfl (en rfl (en rfl (en rfl (en rfl (en rfl (en rfl s27))))))))
        have s34 := (hg 34).trans (en rfl (en rfl (en rfl (en rfl (en rfl (en rfl (en rfl (en rfl s34))))))))
        have s35 := (hg 35).trans (en rfl (en rfl (en rfl (en rfl (en rfl (en rfl (en rfl (en rfl s35))))))))
        have s36 := (hg 36).trans (en rfl (en rfl (en rfl (en rfl (en rfl (en rfl (en rfl (en rfl s36))))))))
        have s85 := (hg 85).trans (en rfl (en rfl (en rfl (en rfl (en rfl (en rfl (en rfl (en rfl s85))))))))
        have s86 := (hg 86).trans (en rfl (en rfl (en rfl (en rfl (en rfl (en rfl (en rfl (en rfl s86))))))))
        have s87 := (hg 87).trans (en rfl (en rfl (en rfl (en rfl (en rfl (en rfl (en rfl (en rfl s87))))))))
        clear hg
        refine xc_seq (fun K hK28 => ?_)
        refine xc_region ?_
        refine x_val (r_move s5) (nd_of rfl) rfl ?_
        refine x_val (r_move (en rfl s8)) (nd_of rfl) rfl ?_
        refine x_enter (r_call Try.call19 (.cons (en rfl es) (.cons es .nil))) (nd_of rfl) rfl (lineOfR (V := 0) ⟨by omega, by omega, by omega⟩ (by simp) h) ?_
        rintro _ w ⟨rfl, h⟩
        refine x_val (r_move es) (nd_of rfl) rfl ?_
        refine x_val (r_extract es gc0) (nd_of rfl) rfl ?_
        refine x_val (r_extract (en rfl es) gc1) (nd_of rfl) rfl ?_
        refine x_val (r_assign (en rfl es)) (nd_of rfl) rfl ?_
        refine x_val (r_assign (en rfl es)) (nd_of rfl) rfl ?_
        refine xw_nil ?_
        refine hK28 _ _ ?_
        refine xc_gen (fun g hg => ?_)
        have s0 := (hg 0).trans (en rfl (en rfl (en rfl (en rfl (en rfl (en rfl (en rfl (en rfl s0))))))))
        have s1 := (hg 1).trans (en rfl (en rfl (en rfl (en rfl (en rfl (en rfl (en rfl (en rfl s1))))))))
        have s5 := (hg 5).trans (en rfl (en rfl (en rfl (en rfl (en rfl (en rfl (en rfl (en rfl s5))))))))
        have s7 := (hg 7).trans (en rfl (en rfl (en rfl (en rfl (en rfl (en rfl (en rfl (en rfl s7))))))))
        have s8 := (hg 8).trans (en rfl (en rfl (en rfl (en rfl (en rfl (en rfl (en rfl (en rfl s8))))))))
        have s9 := (hg 9).trans (en rfl (en rfl (en rfl (en rfl (en rfl (en rfl (en rfl (en rfl s9))))))))
        have s10 := (hg 10).trans (en rfl es)
        have s11 := (hg 11).trans es
        have s27 := (hg 27).trans (en rfl (en rfl (en rfl (en rfl (en rfl (en rfl (en rfl (en rfl s27))))))))
        have s34 := (hg 34).trans (en rfl (en rfl (en rfl (en rfl (en rfl (en rfl (en rfl (en rfl s34))))))))
        have s35 := (hg 35).trans (en rfl (en rfl (en rfl (en rfl (en rfl (en rfl (en rfl (en rfl s35))))))))
        have s36 := (hg 36).trans (en rfl (en rfl (en rfl (en rfl (en rfl (en rfl (en rfl (en rfl s36))))))))
        have s85 := (hg 85).trans (en rfl (en rfl (en rfl (en rfl (en rfl (en rfl (en rfl (en rfl s85))))))))
        have s86 := (hg 86).trans (en rfl (en rfl (en rfl (en rfl (en rfl (en rfl (en rfl (en rfl s86))))))))
        have s87 := (hg 87).trans (en rfl (en rfl (en rfl (en rfl (en rfl (en rfl (en rfl (en rfl s87))))))))
        clear hg
        refine xc_seq (fun K hK29 => ?_)
        refine xc_seq (fun K hK30 => ?_)
        refine xc_region ?_
        refine x_val (r_move s9) (nd_of rfl) rfl ?_
        refine x_val (r_neq es ec (r := false) rfl) (nd_of rfl) rfl ?_
        refine x_val (r_move es) (nd_of rfl) rfl ?_
        refine x_take (d := 103) rfl rfl es ?_
        refine x_val (r_move (en rfl (en rfl (en rfl s11)))) (nd_of rfl) rfl ?_
        refine x_take (d := 103) rfl rfl (en rfl es) ?_
        refine x_val (r_neq es ec (r := false) rfl) (nd_of rfl) rfl ?_
        refine x_val (r_pick_f (en rfl (en rfl es)) es) (nd_of rfl) rfl ?_
        refine x_val (r_move es) (nd_of rfl) rfl ?_
        refine x_take (d := 107) rfl rfl es ?_
        refine x_val (r_move (en rfl (en rfl (en rfl (en rfl (en rfl (en rfl (en rfl s10)))))))) (nd_of rfl) rfl ?_
        refine x_take (d := 107) rfl rfl (en rfl es) ?_
        refine x_val (r_move (en rfl (en rfl (en rfl (en rfl (en rfl (en rfl (en rfl (en rfl s7))))))))) (nd_of rfl) rfl ?_
        refine x_take (d := 107) rfl rfl (en rfl (en rfl es)) ?_
        refine x_val (r_neq (en rfl es) es (decide_eq_false (by omega))) (nd_of rfl) rfl ?_
        refine x_val (r_pick_f (en rfl (en rfl (en rfl es))) es) (nd_of rfl) rfl ?_
        refine xw_nil ?_
        refine hK30 _ _ ?_
        refine xc_gen (fun g hg => ?_)
        have s0 := (hg 0).trans (en rfl (en rfl (en rfl (en rfl (en rfl (en rfl (en rfl (en rfl (en rfl (en rfl (en rfl s0)))))))))))
        have s1 := (hg 1).trans (en rfl (en rfl (en rfl (en rfl (en rfl (en rfl (en rfl (en rfl (en rfl (en rfl (en rfl s1)))))))))))
        have s5 := (hg 5).trans (en rfl (en rfl (en rfl (en rfl (en rfl (en rfl (en rfl (en rfl (en rfl (en rfl (en rfl s5)))))))))))
        have s7 := (hg 7).trans (en rfl (en rfl (en rfl (en rfl (en rfl (en rfl (en rfl (en rfl (en rfl (en rfl (en rfl s7)))))))))))
        have s8 := (hg 8).trans (en rfl (en rfl (en rfl (en rfl (en rfl (en rfl (en rfl (en rfl (en rfl (en rfl (en rfl s8)))))))))))
        have s9 := (hg 9).trans (en rfl (en rfl (en rfl (en rfl (en rfl (en rfl (en rfl (en rfl (en rfl (en rfl (en rfl s9)))))))))))
        have s10 := (hg 10).trans (en rfl (en rfl (en rfl (en rfl (en rfl (en rfl (en rfl (en rfl (en rfl (en rfl (en rfl s10)))))))))))
        have s11 := (hg 11).trans (en rfl (en rfl (en rfl (en rfl (en rfl (en rfl (en rfl (en rfl (en rfl (en rfl (en rfl s11)))))))))))
        have s27 := (hg 27).trans (en rfl (en rfl (en rfl (en rfl (en rfl (en rfl (en rfl (en rfl (en rfl (en rfl (en rfl s27)))))))))))
        have s34 := (hg 34).trans (en rfl (en rfl (en rfl (en rfl (en rfl (en rfl (en rfl (en rfl (en rfl (en rfl (en rfl s34)))))))))))
        have s35 := (hg 35).trans (en rfl (en rfl (en rfl (en rfl (en rfl (en rfl (en rfl (en rfl (en rfl (en rfl (en rfl s35)))))))))))
        have s36 := (hg 36).trans (en rfl (en rfl (en rfl (en rfl (en rfl (en rfl (en rfl (en rfl (en rfl (en rfl (en rfl s36)))))))))))
        have s85 := (hg 85).trans (en rfl (en rfl (en rfl (en rfl (en rfl (en rfl (en rfl (en rfl (en rfl (en rfl (en rfl s85)))))))))))
        have s86 := (hg 86).trans (en rfl (en rfl (en rfl (en rfl (en rfl (en rfl (en rfl (en rfl (en rfl (en rfl (en rfl s86)))))))))))
        have s87 := (hg 87).trans (en rfl (en rfl (en rfl (en rfl (en rfl (en rfl (en rfl (en rfl (en rfl (en rfl (en rfl s87)))))))))))
        have s111 := (hg 111).trans es
        clear hg
        refine xc_cond s111 (fun hc => by cases hc) (fun _ => ?_)
        refine xc_skip ?_
        refine hK29 _ _ ?_
        refine xc_seq (fun K hK31 => ?_)
        refine xc_region ?_
        refine x_val (r_move s7) (nd_of rfl) rfl ?_
        refine x_val (r_gtr es ec (decide_eq_false (by omega))) (nd_of rfl) rfl ?_
        refine xw_nil ?_
        refine hK31 _ _ ?_
        refine xc_gen (fun g hg => ?_)
        have s0 := (hg 0).trans (en rfl (en rfl s0))
        have s1 := (hg 1).trans (en rfl (en rfl s1))
        have s5 := (hg 5).trans (en rfl (en rfl s5))
        have s7 := (hg 7).trans (en rfl (en rfl s7))
        have s8 := (hg 8).trans (en rfl (en rfl s8))
        have s9 := (hg 9).trans (en rfl (en rfl s9))
        have s10 := (hg 10).trans (en rfl (en rfl s10))
        have s11 := (hg 11).trans (en rfl (en rfl s11))
        have s27 := (hg 27).trans (en rfl (en rfl s27))
        have s34 := (hg 34).trans (en rfl (en rfl s34))
        have s35 := (hg 35).trans (en rfl (en rfl s35))
        have s36 := (hg 36).trans (en rfl (en rfl s36))
        have s85 := (hg 85).trans (en rfl (en rfl s85))
        have s86 := (hg 86).trans (en rfl (en rfl s86))
        have s87 := (hg 87).trans (en rfl (en rfl s87))
        have s111 := (hg 111).trans (en rfl (en rfl s111))
        have s113 := (hg 113).trans es
        clear hg
        refine xc_cond s113 (fun hc => by cases hc) (fun _ => ?_)
        refine xc_skip ?_
        refine hK25 _ _ ?_
        refine xc_region ?_
        refine x_val (r_add s86 ec (show _ = (((0 + 1 : Nat) : Int) : Int) from by omega) (by unfold I64; omega)) (nd_of rfl) rfl ?_
        refine x_val (r_move es) (nd_of rfl) rfl ?_
        refine xw_nil ?_
        exact ⟨t.count 10 + 1 - (0 + 1), by omega, ⟨0 + 1, rfl, by omega, es, h⟩, ⟨((en rfl (en rfl s0))).trans zG22_0.symm, ((en rfl (en rfl s1))).trans zG22_1.symm, ((en rfl (en rfl s5))).trans zG22_5.symm, ((en rfl (en rfl s27))).trans zG22_27.symm, ((en rfl (en rfl s34))).trans zG22_34.symm, ((en rfl (en rfl s35))).trans zG22_35.symm, ((en rfl (en rfl s36))).trans zG22_36.symm, ((en rfl (en rfl s85))).trans zG22_85.symm⟩⟩
      ·
        skip
        refine xc_skip ?_
        refine hK24 _ _ ?_
        refine xc_seq (fun K hK32 => ?_)
        refine xc_block ?_
        refine xc_seq (fun K hK33 => ?_)
        obtain ⟨p, hp⟩ := nlAt_some (l := t) (k := (n : Int) - 1) (by omega) (by omega)
        obtain ⟨hp1, hp2⟩ := nlAt_cnt (by omega) hp
        have hpl := nlAt_lt hp
        have hst := count_step hp2
        rw [if_pos rfl] at hst
        refine xc_region ?_
        refine x_val (r_move s86) (nd_of rfl) rfl ?_
        refine x_val (r_assign es) (nd_of rfl) rfl ?_
        refine xw_nil ?_
        refine hK33 _ _ ?_
        refine xc_gen (fun g hg => ?_)
        have s0 := (hg 0).trans (en rfl (en rfl s0))
        have s1 := (hg 1).trans (en rfl (en rfl s1))
        have s5 := (hg 5).trans (en rfl (en rfl s5))
        have s7 := (hg 7).trans es
        have s27 := (hg 27).trans (en rfl (en rfl s27))
        have s34 := (hg 34).trans (en rfl (en rfl s34))
        have s35 := (hg 35).trans (en rfl (en rfl s35))
        have s36 := (hg 36).trans (en rfl (en rfl s36))
        have s85 := (hg 85).trans (en rfl (en rfl s85))
        have s86 := (hg 86).trans (en rfl (en rfl s86))
        have s87 := (hg 87).trans (en rfl (en rfl s87))
        clear hg
        refine xc_seq (fun K hK34 => ?_)
        refine xc_region ?_
        refine x_val (r_move s5) (nd_of rfl) rfl ?_
        refine x_val (r_move (en rfl s7)) (nd_of rfl) rfl ?_
        refine x_enter (r_call Try.call20 (.cons (en rfl es) (.cons es .nil))) (nd_of rfl) rfl (offsetOfR (p := p) (by omega) hp (by omega) h) ?_
        rintro _ w ⟨rfl, h⟩
        refine x_val (r_move es) (nd_of rfl) rfl ?_
        refine x_val (r_extract es gc0) (nd_of rfl) rfl ?_
        refine x_val (r_extract (en rfl es) gc1) (nd_of rfl) rfl ?_
        refine x_val (r_assign (en rfl es)) (nd_of rfl) rfl ?_
        refine x_val (r_assign (en rfl es)) (nd_of rfl) rfl ?_
        refine xw_nil ?_
        refine hK34 _ _ ?_
        refine xc_gen (fun g hg => ?_)
        have s0 := (hg 0).trans (en rfl (en rfl (en rfl (en rfl (en rfl (en rfl (en rfl (en rfl s0))))))))
        have s1 := (hg 1).trans (en rfl (en rfl (en rfl (en rfl (en rfl (en rfl (en rfl (en rfl s1))))))))
        have s5 := (hg 5).trans (en rfl (en rfl (en rfl (en rfl (en rfl (en rfl (en rfl (en rfl s5))))))))
        have s7 := (hg 7).trans (en rfl (en rfl (en rfl (en rfl (en rfl (en rfl (en rfl (en rfl s7))))))))
        have s8 := (hg 8).trans (en rfl es)
        have s9 := (hg 9).trans es
        have s27 := (hg 27).trans (en rfl (en rfl (en rfl (en rfl (en rfl (en rfl (en rfl (en rfl s27))))))))
        have s34 := (hg 34).trans (en rfl (en rfl (en rfl (en rfl (en rfl (en rfl (en rfl (en rfl s34))))))))
        have s35 := (hg 35).trans (en rfl (en rfl (en rfl (en rfl (en rfl (en rfl (en rfl (en rfl s35))))))))
        have s36 := (hg 36).trans (en rfl (en rfl (en rfl (en rfl (en rfl (en rfl (en rfl (en rfl s36))))))))
        have s85 := (hg 85).trans (en rfl (en rfl (en rfl (en rfl (en rfl (en rfl (en rfl (en rfl s85))))))))
        have s86 := (hg 86).trans (en rfl (en rfl (en rfl (en rfl (en rfl (en rfl (en rfl (en rfl s86))))))))
        have s87 := (hg 87).trans (en rfl (en rfl (en rfl (en rfl (en rfl (en rfl (en rfl (en rfl s87))))))))
        clear hg
        refine xc_seq (fun K hK35 => ?_)
        refine xc_region ?_
        refine x_val (r_move s5) (nd_of rfl) rfl ?_
        refine x_val (r_move (en rfl s8)) (nd_of rfl) rfl ?_
        refine x_enter (r_call Try.call19 (.cons (en rfl es) (.cons es .nil))) (nd_of rfl) rfl (lineOfR (V := n) ⟨by omega, by omega, by omega⟩ (by rw [Int.toNat_natCast]; omega) h) ?_
        rintro _ w ⟨rfl, h⟩
        refine x_val (r_move es) (nd_of rfl) rfl ?_
        refine x_val (r_extract es gc0) (nd_of rfl) rfl ?_
        refine x_val (r_extract (en rfl es) gc1) (nd_of rfl) rfl ?_
        refine x_val (r_assign (en rfl es)) (nd_of rfl) rfl ?_
        refine x_val (r_assign (en rfl es)) (nd_of rfl) rfl ?_
        refine xw_nil ?_
        refine hK35 _ _ ?_
        refine xc_gen (fun g hg => ?_)
        have s0 := (hg 0).trans (en rfl (en rfl (en rfl (en rfl (en rfl (en rfl (en rfl (en rfl s0))))))))
        have s1 := (hg 1).trans (en rfl (en rfl (en rfl (en rfl (en rfl (en rfl (en rfl (en rfl s1))))))))
        have s5 := (hg 5).trans (en rfl (en rfl (en rfl (en rfl (en rfl (en rfl (en rfl (en rfl s5))))))))
        have s7 := (hg 7).trans (en rfl (en rfl (en rfl (en rfl (en rfl (en rfl (en rfl (en rfl s7))))))))
        have s8 := (hg 8).trans (en rfl (en rfl (en rfl (en rfl (en rfl (en rfl (en rfl (en rfl s8))))))))
        have s9 := (hg 9).trans (en rfl (en rfl (en rfl (en rfl (en rfl (en rfl (en rfl (en rfl s9))))))))
        have s10 := (hg 10).trans (en rfl es)
        have s11 := (hg 11).trans es
        have s27 := (hg 27).trans (en rfl (en rfl (en rfl (en rfl (en rfl (en rfl (en rfl (en rfl s27))))))))
        have s34 := (hg 34).trans (en rfl (en rfl (en rfl (en rfl (en rfl (en rfl (en rfl (en rfl s34))))))))
        have s35 := (hg 35).trans (en rfl (en rfl (en rfl (en rfl (en rfl (en rfl (en rfl (en rfl s35))))))))
        have s36 := (hg 36).trans (en rfl (en rfl (en rfl (en rfl (en rfl (en rfl (en rfl (en rfl s36))))))))
        have s85 := (hg 85).trans (en rfl (en rfl (en rfl (en rfl (en rfl (en rfl (en rfl (en rfl s85))))))))
        have s86 := (hg 86).trans (en rfl (en rfl (en rfl (en rfl (en rfl (en rfl (en rfl (en rfl s86))))))))
        have s87 := (hg 87).trans (en rfl (en rfl (en rfl (en rfl (en rfl (en rfl (en rfl (en rfl s87))))))))
        clear hg
        refine xc_seq (fun K hK36 => ?_)
        refine xc_seq (fun K hK37 => ?_)
        refine xc_region ?_
        refine x_val (r_move s9) (nd_of rfl) rfl ?_
        refine x_val (r_neq es ec (r := false) rfl) (nd_of rfl) rfl ?_
        refine x_val (r_move es) (nd_of rfl) rfl ?_
        refine x_take (d := 103) rfl rfl es ?_
        refine x_val (r_move (en rfl (en rfl (en rfl s11)))) (nd_of rfl) rfl ?_
        refine x_take (d := 103) rfl rfl (en rfl es) ?_
        refine x_val (r_neq es ec (r := false) rfl) (nd_of rfl) rfl ?_
        refine x_val (r_pick_f (en rfl (en rfl es)) es) (nd_of rfl) rfl ?_
        refine x_val (r_move es) (nd_of rfl) rfl ?_
        refine x_take (d := 107) rfl rfl es ?_
        refine x_val (r_move (en rfl (en rfl (en rfl (en rfl (en rfl (en rfl (en rfl s10)))))))) (nd_of rfl) rfl ?_
        refine x_take (d := 107) rfl rfl (en rfl es) ?_
        refine x_val (r_move (en rfl (en rfl (en rfl (en rfl (en rfl (en rfl (en rfl (en rfl s7))))))))) (nd_of rfl) rfl ?_
        refine x_take (d := 107) rfl rfl (en rfl (en rfl es)) ?_
        refine x_val (r_neq (en rfl es) es (decide_eq_false (by omega))) (nd_of rfl) rfl ?_
        refine x_val (r_pick_f (en rfl (en rfl (en rfl es))) es) (nd_of rfl) rfl ?_
        refine xw_nil ?_
        refine hK37 _ _ ?_
        refine xc_gen (fun g hg => ?_)
        have s0 := (hg 0).trans (en rfl (en rfl (en rfl (en rfl (en rfl (en rfl (en rfl (en rfl (en rfl (en rfl (en rfl s0)))))))))))
        have s1 := (hg 1).trans (en rfl (en rfl (en rfl (en rfl (en rfl (en rfl (en rfl (en rfl (en rfl (en rfl (en rfl s1)))))))))))
        have s5 := (hg 5).trans (en rfl (en rfl (en rfl (en rfl (en rfl (en rfl (en rfl (en rfl (en rfl (en rfl (en rfl s5)))))))))))
        have s7 := (hg 7).trans (en rfl (en rfl (en rfl (en rfl (en rfl (en rfl (en rfl (en rfl (en rfl (en rfl (en rfl s7)))))))))))
        have s8 := (hg 8).trans (en rfl (en rfl (en rfl (en rfl (en rfl (en rfl (en rfl (en rfl (en rfl (en rfl (en rfl s8)))))))))))
        have s9 := (hg 9).trans (en rfl (en rfl (en rfl (en rfl (en rfl (en rfl (en rfl (en rfl (en rfl (en rfl (en rfl s9)))))))))))
        have s10 := (hg 10).trans (en rfl (en rfl (en rfl (en rfl (en rfl (en rfl (en rfl (en rfl (en rfl (en rfl (en rfl s10)))))))))))
        have s11 := (hg 11).trans (en rfl (en rfl (en rfl (en rfl (en rfl (en rfl (en rfl (en rfl (en rfl (en rfl (en rfl s11)))))))))))
        have s27 := (hg 27).trans (en rfl (en rfl (en rfl (en rfl (en rfl (en rfl (en rfl (en rfl (en rfl (en rfl (en rfl s27)))))))))))
        have s34 := (hg 34).trans (en rfl (en rfl (en rfl (en rfl (en rfl (en rfl (en rfl (en rfl (en rfl (en rfl (en rfl s34)))))))))))
        have s35 := (hg 35).trans (en rfl (en rfl (en rfl (en rfl (en rfl (en rfl (en rfl (en rfl (en rfl (en rfl (en rfl s35)))))))))))
        have s36 := (hg 36).trans (en rfl (en rfl (en rfl (en rfl (en rfl (en rfl (en rfl (en rfl (en rfl (en rfl (en rfl s36)))))))))))
        have s85 := (hg 85).trans (en rfl (en rfl (en rfl (en rfl (en rfl (en rfl (en rfl (en rfl (en rfl (en rfl (en rfl s85)))))))))))
        have s86 := (hg 86).trans (en rfl (en rfl (en rfl (en rfl (en rfl (en rfl (en rfl (en rfl (en rfl (en rfl (en rfl s86)))))))))))
        have s87 := (hg 87).trans (en rfl (en rfl (en rfl (en rfl (en rfl (en rfl (en rfl (en rfl (en rfl (en rfl (en rfl s87)))))))))))
        have s111 := (hg 111).trans es
        clear hg
        refine xc_cond s111 (fun hc => by cases hc) (fun _ => ?_)
        refine xc_skip ?_
        refine hK36 _ _ ?_
        refine xc_seq (fun K hK38 => ?_)
        refine xc_region ?_
        refine x_val (r_move s7) (nd_of rfl) rfl ?_
        refine x_val (r_gtr es ec (decide_eq_true (by omega))) (nd_of rfl) rfl ?_
        refine xw_nil ?_
        refine hK38 _ _ ?_
        refine xc_gen (fun g hg => ?_)
        have s0 := (hg 0).trans (en rfl (en rfl s0))
        have s1 := (hg 1).trans (en rfl (en rfl s1))
        have s5 := (hg 5).trans (en rfl (en rfl s5))
        have s7 := (hg 7).trans (en rfl (en rfl s7))
        have s8 := (hg 8).trans (en rfl (en rfl s8))
        have s9 := (hg 9).trans (en rfl (en rfl s9))
        have s10 := (hg 10).trans (en rfl (en rfl s10))
        have s11 := (hg 11).trans (en rfl (en rfl s11))
        have s27 := (hg 27).trans (en rfl (en rfl s27))
        have s34 := (hg 34).trans (en rfl (en rfl s34))
        have s35 := (hg 35).trans (en rfl (en rfl s35))
        have s36 := (hg 36).trans (en rfl (en rfl s36))
        have s85 := (hg 85).trans (en rfl (en rfl s85))
        have s86 := (hg 86).trans (en rfl (en rfl s86))
        have s87 := (hg 87).trans (en rfl (en rfl s87))
        have s111 := (hg 111).trans (en rfl (en rfl s111))
        have s113 := (hg 113).trans es
        clear hg
        refine xc_cond s113 (fun _ => ?_) (fun hc => by cases hc)
        refine xc_seq (fun K hK39 => ?_)
        refine xc_region ?_
        refine x_val (r_move s5) (nd_of rfl) rfl ?_
        refine x_val (r_move (en rfl s8)) (nd_of rfl) rfl ?_
        refine x_val (r_sub es ec (show _ = ((p : Int) : Int) from by omega) (by unfold I64; omega)) (nd_of rfl) rfl ?_
        refine x_enter (r_call Try.call21 (.cons (en rfl (en rfl es)) (.cons es .nil))) (nd_of rfl) rfl (atR hp2 h) ?_
        rintro _ w ⟨rfl, h⟩
        refine x_val (r_move es) (nd_of rfl) rfl ?_
        refine x_val (r_extract es gc0) (nd_of rfl) rfl ?_
        refine x_val (r_extract (en rfl es) gc1) (nd_of rfl) rfl ?_
        refine x_val (r_assign (en rfl es)) (nd_of rfl) rfl ?_
        refine x_val (r_assign (en rfl es)) (nd_of rfl) rfl ?_
        refine xw_nil ?_
        refine hK39 _ _ ?_
        refine xc_gen (fun g hg => ?_)
        have s0 := (hg 0).trans (en rfl (en rfl (en rfl (en rfl (en rfl (en rfl (en rfl (en rfl (en rfl s0)))))))))
        have s1 := (hg 1).trans (en rfl (en rfl (en rfl (en rfl (en rfl (en rfl (en rfl (en rfl (en rfl s1)))))))))
        have s5 := (hg 5).trans (en rfl (en rfl (en rfl (en rfl (en rfl (en rfl (en rfl (en rfl (en rfl s5)))))))))
        have s7 := (hg 7).trans (en rfl (en rfl (en rfl (en rfl (en rfl (en rfl (en rfl (en rfl (en rfl s7)))))))))
        have s8 := (hg 8).trans (en rfl (en rfl (en rfl (en rfl (en rfl (en rfl (en rfl (en rfl (en rfl s8)))))))))
        have s9 := (hg 9).trans (en rfl (en rfl (en rfl (en rfl (en rfl (en rfl (en rfl (en rfl (en rfl s9)))))))))
        have s10 := (hg 10).trans (en rfl (en rfl (en rfl (en rfl (en rfl (en rfl (en rfl (en rfl (en rfl s10)))))))))
        have s11 := (hg 11).trans (en rfl (en rfl (en rfl (en rfl (en rfl (en rfl (en rfl (en rfl (en rfl s11)))))))))
        have s12 := (hg 12).trans (en rfl es)
        have s13 := (hg 13).trans es
        have s27 := (hg 27).trans (en rfl (en rfl (en rfl (en rfl (en rfl (en rfl (en rfl (en rfl (en rfl s27)))))))))
        have s34 := (hg 34).trans (en rfl (en rfl (en rfl (en rfl (en rfl (en rfl (en rfl (en rfl (en rfl s34)))))))))
        have s35 := (hg 35).trans (en rfl (en rfl (en rfl (en rfl (en rfl (en rfl (en rfl (en rfl (en rfl s35)))))))))
        have s36 := (hg 36).trans (en rfl (en rfl (en rfl (en rfl (en rfl (en rfl (en rfl (en rfl (en rfl s36)))))))))
        have s85 := (hg 85).trans (en rfl (en rfl (en rfl (en rfl (en rfl (en rfl (en rfl (en rfl (en rfl s85)))))))))
        have s86 := (hg 86).trans (en rfl (en rfl (en rfl (en rfl (en rfl (en rfl (en rfl (en rfl (en rfl s86)))))))))
        have s87 := (hg 87).trans (en rfl (en rfl (en rfl (en rfl (en rfl (en rfl (en rfl (en rfl (en rfl s87)))))))))
        have s111 := (hg 111).trans (en rfl (en rfl (en rfl (en rfl (en rfl (en rfl (en rfl (en rfl (en rfl s111)))))))))
        have s113 := (hg 113).trans (en rfl (en rfl (en rfl (en rfl (en rfl (en rfl (en rfl (en rfl (en rfl s113)))))))))
        clear hg
        refine xc_seq (fun K hK40 => ?_)
        refine xc_region ?_
        refine x_val (r_move s13) (nd_of rfl) rfl ?_
        refine x_val (r_neq es ec (r := false) rfl) (nd_of rfl) rfl ?_
        refine x_val (r_move es) (nd_of rfl) rfl ?_
        refine x_take (d := 123) rfl rfl es ?_
        refine x_val (r_move (en rfl (en rfl (en rfl s12)))) (nd_of rfl) rfl ?_
        refine x_take (d := 123) rfl rfl (en rfl es) ?_
        refine x_val (r_neq es ec (decide_eq_false (by omega))) (nd_of rfl) rfl ?_
        refine x_val (r_pick_f (en rfl (en rfl es)) es) (nd_of rfl) rfl ?_
        refine xw_nil ?_
        refine hK40 _ _ ?_
        refine xc_gen (fun g hg => ?_)
        have s0 := (hg 0).trans (en rfl (en rfl (en rfl (en rfl (en rfl (en rfl s0))))))
        have s1 := (hg 1).trans (en rfl (en rfl (en rfl (en rfl (en rfl (en rfl s1))))))
        have s5 := (hg 5).trans (en rfl (en rfl (en rfl (en rfl (en rfl (en rfl s5))))))
        have s7 := (hg 7).trans (en rfl (en rfl (en rfl (en rfl (en rfl (en rfl s7))))))
        have s8 := (hg 8).trans (en rfl (en rfl (en rfl (en rfl (en rfl (en rfl s8))))))
        have s9 := (hg 9).trans (en rfl (en rfl (en rfl (en rfl (en rfl (en rfl s9))))))
        have s10 := (hg 10).trans (en rfl (en rfl (en rfl (en rfl (en rfl (en rfl s10))))))
        have s11 := (hg 11).trans (en rfl (en rfl (en rfl (en rfl (en rfl (en rfl s11))))))
        have s12 := (hg 12).trans (en rfl (en rfl (en rfl (en rfl (en rfl (en rfl s12))))))
        have s13 := (hg 13).trans (en rfl (en rfl (en rfl (en rfl (en rfl (en rfl s13))))))
        have s27 := (hg 27).trans (en rfl (en rfl (en rfl (en rfl (en rfl (en rfl s27))))))
        have s34 := (hg 34).trans (en rfl (en rfl (en rfl (en rfl (en rfl (en rfl s34))))))
        have s35 := (hg 35).trans (en rfl (en rfl (en rfl (en rfl (en rfl (en rfl s35))))))
        have s36 := (hg 36).trans (en rfl (en rfl (en rfl (en rfl (en rfl (en rfl s36))))))
        have s85 := (hg 85).trans (en rfl (en rfl (en rfl (en rfl (en rfl (en rfl s85))))))
        have s86 := (hg 86).trans (en rfl (en rfl (en rfl (en rfl (en rfl (en rfl s86))))))
        have s87 := (hg 87).trans (en rfl (en rfl (en rfl (en rfl (en rfl (en rfl s87))))))
        have s111 := (hg 111).trans (en rfl (en rfl (en rfl (en rfl (en rfl (en rfl s111))))))
        have s113 := (hg 113).trans (en rfl (en rfl (en rfl (en rfl (en rfl (en rfl s113))))))
        have s126 := (hg 126).trans es
        clear hg
        refine xc_cond s126 (fun hc => by cases hc) (fun _ => ?_)
        refine xc_skip ?_
        refine hK32 _ _ ?_
        refine xc_region ?_
        refine x_val (r_add s86 ec (show _ = (((n + 1 : Nat) : Int) : Int) from by omega) (by unfold I64; omega)) (nd_of rfl) rfl ?_
        refine x_val (r_move es) (nd_of rfl) rfl ?_
        refine xw_nil ?_
        exact ⟨t.count 10 + 1 - (n + 1), by omega, ⟨n + 1, rfl, by omega, es, h⟩, ⟨((en rfl (en rfl s0))).trans zG22_0.symm, ((en rfl (en rfl s1))).trans zG22_1.symm, ((en rfl (en rfl s5))).trans zG22_5.symm, ((en rfl (en rfl s27))).trans zG22_27.symm, ((en rfl (en rfl s34))).trans zG22_34.symm, ((en rfl (en rfl s35))).trans zG22_35.symm, ((en rfl (en rfl s36))).trans zG22_36.symm, ((en rfl (en rfl s85))).trans zG22_85.symm⟩⟩
    ·
      rcases Decidable.em (isPart t.length i i) with hp | hp
      ·
        skip
        obtain ⟨p0, p1, p2⟩ := hp
        obtain ⟨ni, rfl⟩ := Int.eq_ofNat_of_zero_le p0
        obtain ⟨V, hV⟩ : ∃ V, (t.take ni).count 10 = V := ⟨_, rfl⟩
        have hVc : V ≤ t.count 10 := by rw [← hV]; exact (List.take_sublist ni t).count_le 10
        rcases Nat.eq_zero_or_pos V with hV0 | hV0
        ·
          skip
          refine xc_exit ?_
          refine hK20 _ _ ?_
          refine xc_seq (fun K hK41 => ?_)
          refine xc_region ?_
          refine x_val (r_move s5) (nd_of rfl) rfl ?_
          refine x_val (r_move (en rfl s1)) (nd_of rfl) rfl ?_
          refine x_enter (r_call Try.call19 (.cons (en rfl es) (.cons es .nil))) (nd_of rfl) rfl (lineOfR (V := V) ⟨by omega, by omega, by omega⟩ (by rw [Int.toNat_natCast]; exact hV) h) ?_
          rintro _ w ⟨rfl, h⟩
          refine x_val (r_move es) (nd_of rfl) rfl ?_
          refine x_val (r_extract es gc0) (nd_of rfl) rfl ?_
          refine x_val (r_extract (en rfl es) gc1) (nd_of rfl) rfl ?_
          refine x_val (r_assign (en rfl es)) (nd_of rfl) rfl ?_
          refine x_val (r_assign (en rfl es)) (nd_of rfl) rfl ?_
          refine xw_nil ?_
          refine hK41 _ _ ?_
          refine xc_gen (fun g hg => ?_)
          have s0 := (hg 0).trans (en rfl (en rfl (en rfl (en rfl (en rfl (en rfl (en rfl (en rfl s0))))))))
          have s1 := (hg 1).trans (en rfl (en rfl (en rfl (en rfl (en rfl (en rfl (en rfl (en rfl s1))))))))
          have s5 := (hg 5).trans (en rfl (en rfl (en rfl (en rfl (en rfl (en rfl (en rfl (en rfl s5))))))))
          have s14 := (hg 14).trans (en rfl es)
          have s15 := (hg 15).trans es
          have s27 := (hg 27).trans (en rfl (en rfl (en rfl (en rfl (en rfl (en rfl (en rfl (en rfl s27))))))))
          have s34 := (hg 34).trans (en rfl (en rfl (en rfl (en rfl (en rfl (en rfl (en rfl (en rfl s34))))))))
          have s35 := (hg 35).trans (en rfl (en rfl (en rfl (en rfl (en rfl (en rfl (en rfl (en rfl s35))))))))
          have s36 := (hg 36).trans (en rfl (en rfl (en rfl (en rfl (en rfl (en rfl (en rfl (en rfl s36))))))))
          have s85 := (hg 85).trans (en rfl (en rfl (en rfl (en rfl (en rfl (en rfl (en rfl (en rfl s85))))))))
          have s86 := (hg 86).trans (en rfl (en rfl (en rfl (en rfl (en rfl (en rfl (en rfl (en rfl s86))))))))
          have s87 := (hg 87).trans (en rfl (en rfl (en rfl (en rfl (en rfl (en rfl (en rfl (en rfl s87))))))))
          clear hg
          refine xc_seq (fun K hK42 => ?_)
          refine xc_seq (fun K hK43 => ?_)
          refine xc_region ?_
          refine x_val (r_move s15) (nd_of rfl) rfl ?_
          refine x_val (r_neq es ec (r := false) rfl) (nd_of rfl) rfl ?_
          refine xw_nil ?_
          refine hK43 _ _ ?_
          refine xc_gen (fun g hg => ?_)
          have s0 := (hg 0).trans (en rfl (en rfl s0))
          have s1 := (hg 1).trans (en rfl (en rfl s1))
          have s5 := (hg 5).trans (en rfl (en rfl s5))
          have s14 := (hg 14).trans (en rfl (en rfl s14))
          have s15 := (hg 15).trans (en rfl (en rfl s15))
          have s27 := (hg 27).trans (en rfl (en rfl s27))
          have s34 := (hg 34).trans (en rfl (en rfl s34))
          have s35 := (hg 35).trans (en rfl (en rfl s35))
          have s36 := (hg 36).trans (en rfl (en rfl s36))
          have s85 := (hg 85).trans (en rfl (en rfl s85))
          have s86 := (hg 86).trans (en rfl (en rfl s86))
          have s87 := (hg 87).trans (en rfl (en rfl s87))
          have s135 := (hg 135).trans es
          clear hg
          refine xc_cond s135 (fun hc => by cases hc) (fun _ => ?_)
          refine xc_skip ?_
          refine hK42 _ _ ?_
          refine xc_seq (fun K hK44 => ?_)
          refine xc_region ?_
          refine x_val (r_move s5) (nd_of rfl) rfl ?_
          refine x_val (r_move (en rfl s14)) (nd_of rfl) rfl ?_
          refine x_enter (r_call Try.call20 (.cons (en rfl es) (.cons es .nil))) (nd_of rfl) rfl (offsetOf0' (by omega) h) ?_
          rintro _ w ⟨rfl, h⟩
          refine x_val (r_move es) (nd_of rfl) rfl ?_
          refine x_val (r_extract es gc0) (nd_of rfl) rfl ?_
          refine x_val (r_extract (en rfl es) gc1) (nd_of rfl) rfl ?_
          refine x_val (r_assign (en rfl es)) (nd_of rfl) rfl ?_
          refine x_val (r_assign (en rfl es)) (nd_of rfl) rfl ?_
          refine xw_nil ?_
          refine hK44 _ _ ?_
          refine xc_gen (fun g hg => ?_)
          have s0 := (hg 0).trans (en rfl (en rfl (en rfl (en rfl (en rfl (en rfl (en rfl (en rfl s0))))))))
          have s1 := (hg 1).trans (en rfl (en rfl (en rfl (en rfl (en rfl (en rfl (en rfl (en rfl s1))))))))
          have s5 := (hg 5).trans (en rfl (en rfl (en rfl (en rfl (en rfl (en rfl (en rfl (en rfl s5))))))))
          have s14 := (hg 14).trans (en rfl (en rfl (en rfl (en rfl (en rfl (en rfl (en rfl (en rfl s14))))))))
          have s15 := (hg 15).trans (en rfl (en rfl (en rfl (en rfl (en rfl (en rfl (en rfl (en rfl s15))))))))
          have s16 := (hg 16).trans (en rfl es)
          have s17 := (hg 17).trans es
          have s27 := (hg 27).trans (en rfl (en rfl (en rfl (en rfl (en rfl (en rfl (en rfl (en rfl s27))))))))
          have s34 := (hg 34).trans (en rfl (en rfl (en rfl (en rfl (en rfl (en rfl (en rfl (en rfl s34))))))))
          have s35 := (hg 35).trans (en rfl (en rfl (en rfl (en rfl (en rfl (en rfl (en rfl (en rfl s35))))))))
          have s36 := (hg 36).trans (en rfl (en rfl (en rfl (en rfl (en rfl (en rfl (en rfl (en rfl s36))))))))
          have s85 := (hg 85).trans (en rfl (en rfl (en rfl (en rfl (en rfl (en rfl (en rfl (en rfl s85))))))))
          have s86 := (hg 86).trans (en rfl (en rfl (en rfl (en rfl (en rfl (en rfl (en rfl (en rfl s86))))))))
          have s87 := (hg 87).trans (en rfl (en rfl (en rfl (en rfl (en rfl (en rfl (en rfl (en rfl s87))))))))
          have s135 := (hg 135).trans (en rfl (en rfl (en rfl (en rfl (en rfl (en rfl (en rfl (en rfl s135))))))))
          clear hg
          refine xc_seq (fun K hK45 => ?_)
          refine xc_seq (fun K hK46 => ?_)
          refine xc_region ?_
          refine x_val (r_move s17) (nd_of rfl) rfl ?_
          refine x_val (r_neq es ec (r := false) rfl) (nd_of rfl) rfl ?_
          refine x_val (r_move es) (nd_of rfl) rfl ?_
          refine x_take (d := 155) rfl rfl es ?_
          refine x_val (r_move (en rfl (en rfl (en rfl s16)))) (nd_of rfl) rfl ?_
          refine x_take (d := 155) rfl rfl (en rfl es) ?_
          refine x_val (r_move (en rfl (en rfl (en rfl (en rfl s1))))) (nd_of rfl) rfl ?_
          refine x_take (d := 155) rfl rfl (en rfl (en rfl es)) ?_
          refine x_val (r_gtr (en rfl es) es (decide_eq_false (by omega))) (nd_of rfl) rfl ?_
          refine x_val (r_pick_f (en rfl (en rfl (en rfl es))) es) (nd_of rfl) rfl ?_
          refine xw_nil ?_
          refine hK46 _ _ ?_
          refine xc_gen (fun g hg => ?_)
          have s0 := (hg 0).trans (en rfl (en rfl (en rfl (en rfl (en rfl (en rfl (en rfl s0)))))))
          have s1 := (hg 1).trans (en rfl (en rfl (en rfl (en rfl (en rfl (en rfl (en rfl s1)))))))
          have s5 := (hg 5).trans (en rfl (en rfl (en rfl (en rfl (en rfl (en rfl (en rfl s5)))))))
          have s14 := (hg 14).trans (en rfl (en rfl (en rfl (en rfl (en rfl (en rfl (en rfl s14)))))))
          have s15 := (hg 15).trans (en rfl (en rfl (en rfl (en rfl (en rfl (en rfl (en rfl s15)))))))
          have s16 := (hg 16).trans (en rfl (en rfl (en rfl (en rfl (en rfl (en rfl (en rfl s16)))))))
          have s17 := (hg 17).trans (en rfl (en rfl (en rfl (en rfl (en rfl (en rfl (en rfl s17)))))))
          have s27 := (hg 27).trans (en rfl (en rfl (en rfl (en rfl (en rfl (en rfl (en rfl s27)))))))
          have s34 := (hg 34).trans (en rfl (en rfl (en rfl (en rfl (en rfl (en rfl (en rfl s34)))))))
          have s35 := (hg 35).trans (en rfl (en rfl (en rfl (en rfl (en rfl (en rfl (en rfl s35)))))))
          have s36 := (hg 36).trans (en rfl (en rfl (en rfl (en rfl (en rfl (en rfl (en rfl s36)))))))
          have s85 := (hg 85).trans (en rfl (en rfl (en rfl (en rfl (en rfl (en rfl (en rfl s85)))))))
          have s86 := (hg 86).trans (en rfl (en rfl (en rfl (en rfl (en rfl (en rfl (en rfl s86)))))))
          have s87 := (hg 87).trans (en rfl (en rfl (en rfl (en rfl (en rfl (en rfl (en rfl s87)))))))
          have s135 := (hg 135).trans (en rfl (en rfl (en rfl (en rfl (en rfl (en rfl (en rfl s135)))))))
          have s159 := (hg 159).trans es
          clear hg
          rcases Nat.lt_or_ge V (t.count 10) with hVl | hVl
          ·
            skip
            refine xc_cond s159 (fun hc => by cases hc) (fun _ => ?_)
            refine xc_skip ?_
            refine hK45 _ _ ?_
            refine xc_seq (fun K hK47 => ?_)
            refine xc_seq (fun K hK48 => ?_)
            obtain ⟨p3, hp3⟩ := nlAt_some (l := t) (k := (V : Int)) (by omega) (by omega)
            have hb3 := nlAt_behind (n := ni) (by omega) hp3 (by omega)
            have hl3 := nlAt_lt hp3
            refine xc_region ?_
            refine x_val (r_move s5) (nd_of rfl) rfl ?_
            refine x_val (r_move (en rfl s14)) (nd_of rfl) rfl ?_
            refine x_val (r_add es ec (show _ = (((V + 1 : Nat) : Int) : Int) from by omega) (by unfold I64; omega)) (nd_of rfl) rfl ?_
            refine x_enter (r_call Try.call20 (.cons (en rfl (en rfl es)) (.cons es .nil))) (nd_of rfl) rfl (offsetOfR (p := p3) (by omega) (by rw [show ((V + 1 : Nat) : Int) - 1 = V by omega]; exact hp3) (by omega) h) ?_
            rintro _ w ⟨rfl, h⟩
            refine x_val (r_move es) (nd_of rfl) rfl ?_
            refine x_val (r_extract es gc0) (nd_of rfl) rfl ?_
            refine x_val (r_extract (en rfl es) gc1) (nd_of rfl) rfl ?_
            refine x_val (r_assign (en rfl es)) (nd_of rfl) rfl ?_
            refine x_val (r_assign (en rfl es)) (nd_of rfl) rfl ?_
            refine xw_nil ?_
            refine hK48 _ _ ?_
            refine xc_gen (fun g hg => ?_)
            have s0 := (hg 0).trans (en rfl (en rfl (en rfl (en rfl (en rfl (en rfl (en rfl (en rfl (en rfl s0)))))))))
            have s1 := (hg 1).trans (en rfl (en rfl (en rfl (en rfl (en rfl (en rfl (en rfl (en rfl (en rfl s1)))))))))
            have s5 := (hg 5).trans (en rfl (en rfl (en rfl (en rfl (en rfl (en rfl (en rfl (en rfl (en rfl s5)))))))))
            have s14 := (hg 14).trans (en rfl (en rfl (en rfl (en rfl (en rfl (en rfl (en rfl (en rfl (en rfl s14)))))))))
            have s15 := (hg 15).trans (en rfl (en rfl (en rfl (en rfl (en rfl (en rfl (en rfl (en rfl (en rfl s15)))))))))
            have s16 := (hg 16).trans (en rfl (en rfl (en rfl (en rfl (en rfl (en rfl (en rfl (en rfl (en rfl s16)))))))))
            have s17 := (hg 17).trans (en rfl (en rfl (en rfl (en rfl (en rfl (en rfl (en rfl (en rfl (en rfl s17)))))))))
            have s18 := (hg 18).trans (en rfl es)
            have s19 := (hg 19).trans es
            have s27 := (hg 27).trans (en rfl (en rfl (en rfl (en rfl (en rfl (en rfl (en rfl (en rfl (en rfl s27)))))))))
            have s34 := (hg 34).trans (en rfl (en rfl (en rfl (en rfl (en rfl (en rfl (en rfl (en rfl (en rfl s34)))))))))
            have s35 := (hg 35).trans (en rfl (en rfl (en rfl (en rfl (en rfl (en rfl (en rfl (en rfl (en rfl s35)))))))))
            have s36 := (hg 36).trans (en rfl (en rfl (en rfl (en rfl (en rfl (en rfl (en rfl (en rfl (en rfl s36)))))))))
            have s85 := (hg 85).trans (en rfl (en rfl (en rfl (en rfl (en rfl (en rfl (en rfl (en rfl (en rfl s85)))))))))
            have s86 := (hg 86).trans (en rfl (en rfl (en rfl (en rfl (en rfl (en rfl (en rfl (en rfl (en rfl s86)))))))))
            have s87 := (hg 87).trans (en rfl (en rfl (en rfl (en rfl (en rfl (en rfl (en rfl (en rfl (en rfl s87)))))))))
            have s135 := (hg 135).trans (en rfl (en rfl (en rfl (en rfl (en rfl (en rfl (en rfl (en rfl (en rfl s135)))))))))
            have s159 := (hg 159).trans (en rfl (en rfl (en rfl (en rfl (en rfl (en rfl (en rfl (en rfl (en rfl s159)))))))))
            clear hg
            refine xc_seq (fun K hK49 => ?_)
            refine xc_region ?_
            refine x_val (r_move s19) (nd_of rfl) rfl ?_
            refine x_val (r_eql es ec (r := true) rfl) (nd_of rfl) rfl ?_
            refine x_val (r_move es) (nd_of rfl) rfl ?_
            refine x_take (d := 169) rfl rfl es ?_
            refine x_val (r_move (en rfl (en rfl (en rfl s18)))) (nd_of rfl) rfl ?_
            refine x_take (d := 169) rfl rfl (en rfl es) ?_
            refine x_val (r_move (en rfl (en rfl (en rfl (en rfl s1))))) (nd_of rfl) rfl ?_
            refine x_take (d := 169) rfl rfl (en rfl (en rfl es)) ?_
            refine x_val (r_leq (en rfl es) es (decide_eq_false (by omega))) (nd_of rfl) rfl ?_
            refine x_val (r_pick_t (en rfl (en rfl (en rfl es))) es) (nd_of rfl) rfl ?_
            refine xw_nil ?_
            refine hK49 _ _ ?_
            refine xc_gen (fun g hg => ?_)
            have s0 := (hg 0).trans (en rfl (en rfl (en rfl (en rfl (en rfl (en rfl (en rfl s0)))))))
            have s1 := (hg 1).trans (en rfl (en rfl (en rfl (en rfl (en rfl (en rfl (en rfl s1)))))))
            have s5 := (hg 5).trans (en rfl (en rfl (en rfl (en rfl (en rfl (en rfl (en rfl s5)))))))
            have s14 := (hg 14).trans (en rfl (en rfl (en rfl (en rfl (en rfl (en rfl (en rfl s14)))))))
            have s15 := (hg 15).trans (en rfl (en rfl (en rfl (en rfl (en rfl (en rfl (en rfl s15)))))))
            have s16 := (hg 16).trans (en rfl (en rfl (en rfl (en rfl (en rfl (en rfl (en rfl s16)))))))
            have s17 := (hg 17).trans (en rfl (en rfl (en rfl (en rfl (en rfl (en rfl (en rfl s17)))))))
            have s18 := (hg 18).trans (en rfl (en rfl (en rfl (en rfl (en rfl (en rfl (en rfl s18)))))))
            have s19 := (hg 19).trans (en rfl (en rfl (en rfl (en rfl (en rfl (en rfl (en rfl s19)))))))
            have s27 := (hg 27).trans (en rfl (en rfl (en rfl (en rfl (en rfl (en rfl (en rfl s27)))))))
            have s34 := (hg 34).trans (en rfl (en rfl (en rfl (en rfl (en rfl (en rfl (en rfl s34)))))))
            have s35 := (hg 35).trans (en rfl (en rfl (en rfl (en rfl (en rfl (en rfl (en rfl s35)))))))
            have s36 := (hg 36).trans (en rfl (en rfl (en rfl (en rfl (en rfl (en rfl (en rfl s36)))))))
            have s85 := (hg 85).trans (en rfl (en rfl (en rfl (en rfl (en rfl (en rfl (en rfl s85)))))))
            have s86 := (hg 86).trans (en rfl (en rfl (en rfl (en rfl (en rfl (en rfl (en rfl s86)))))))
            have s87 := (hg 87).trans (en rfl (en rfl (en rfl (en rfl (en rfl (en rfl (en rfl s87)))))))
            have s135 := (hg 135).trans (en rfl (en rfl (en rfl (en rfl (en rfl (en rfl (en rfl s135)))))))
            have s159 := (hg 159).trans (en rfl (en rfl (en rfl (en rfl (en rfl (en rfl (en rfl s159)))))))
            have s173 := (hg 173).trans es
            clear hg
            refine xc_cond s173 (fun hc => by cases hc) (fun _ => ?_)
            refine xc_skip ?_
            refine hK47 _ _ ?_
            refine xc_seq (fun K hK50 => ?_)
            refine xc_region ?_
            refine x_enter (r_call Try.call10 .nil) (nd_of rfl) rfl (known_ok h) ?_
            rintro _ w ⟨rfl, h⟩
            refine x_val (r_assign es) (nd_of rfl) rfl ?_
            refine xw_nil ?_
            refine hK50 _ _ ?_
            refine xc_gen (fun g hg => ?_)
            have s0 := (hg 0).trans (en rfl (en rfl s0))
            have s1 := (hg 1).trans (en rfl (en rfl s1))
            have s4 := (hg 4).trans es
            have s5 := (hg 5).trans (en rfl (en rfl s5))
            have s14 := (hg 14).trans (en rfl (en rfl s14))
            have s15 := (hg 15).trans (en rfl (en rfl s15))
            have s16 := (hg 16).trans (en rfl (en rfl s16))
            have s17 := (hg 17).trans (en rfl (en rfl s17))
            have s18 := (hg 18).trans (en rfl (en rfl s18))
            have s19 := (hg 19).trans (en rfl (en rfl s19))
            have s27 := (hg 27).trans (en rfl (en rfl s27))
            have s34 := (hg 34).trans (en rfl (en rfl s34))
            have s35 := (hg 35).trans (en rfl (en rfl s35))
            have s36 := (hg 36).trans (en rfl (en rfl s36))
            have s85 := (hg 85).trans (en rfl (en rfl s85))
            have s86 := (hg 86).trans (en rfl (en rfl s86))
            have s87 := (hg 87).trans (en rfl (en rfl s87))
            have s135 := (hg 135).trans (en rfl (en rfl s135))
            have s159 := (hg 159).trans (en rfl (en rfl s159))
            have s173 := (hg 173).trans (en rfl (en rfl s173))
            clear hg
            refine xc_ret ?_
            refine bodyR_1 rfl s4 ?_
            exact ⟨rfl, h.drop⟩
          ·
            skip
            refine xc_cond s159 (fun hc => by cases hc) (fun _ => ?_)
            refine xc_skip ?_
            refine hK45 _ _ ?_
            refine xc_seq (fun K hK51 => ?_)
            refine xc_seq (fun K hK52 => ?_)
            refine xc_region ?_
            refine x_val (r_move s5) (nd_of rfl) rfl ?_
            refine x_val (r_move (en rfl s14)) (nd_of rfl) rfl ?_
            refine x_val (r_add es ec (show _ = (((V + 1 : Nat) : Int) : Int) from by omega) (by unfold I64; omega)) (nd_of rfl) rfl ?_
            refine x_enter (r_call Try.call20 (.cons (en rfl (en rfl es)) (.cons es .nil))) (nd_of rfl) rfl (offsetOf_no (.inr (by omega)) h) ?_
            rintro _ w ⟨rfl, h⟩
            refine x_val (r_move es) (nd_of rfl) rfl ?_
            refine x_val (r_extract es gc0) (nd_of rfl) rfl ?_
            refine x_val (r_extract (en rfl es) gc1) (nd_of rfl) rfl ?_
            refine x_val (r_assign (en rfl es)) (nd_of rfl) rfl ?_
            refine x_val (r_assign (en rfl es)) (nd_of rfl) rfl ?_
            refine xw_nil ?_
            refine hK52 _ _ ?_
            refine xc_gen (fun g hg => ?_)
            have s0 := (hg 0).trans (en rfl (en rfl (en rfl (en rfl (en rfl (en rfl (en rfl (en rfl (en rfl s0)))))))))
            have s1 := (hg 1).trans (en rfl (en rfl (en rfl (en rfl (en rfl (en rfl (en rfl (en rfl (en rfl s1)))))))))
            have s5 := (hg 5).trans (en rfl (en rfl (en rfl (en rfl (en rfl (en rfl (en rfl (en rfl (en rfl s5)))))))))
            have s14 := (hg 14).trans (en rfl (en rfl (en rfl (en rfl (en rfl (en rfl (en rfl (en rfl (en rfl s14)))))))))
            have s15 := (hg 15).trans (en rfl (en rfl (en rfl (en rfl (en rfl (en rfl (en rfl (en rfl (en rfl s15)))))))))
            have s16 := (hg 16).trans (en rfl (en rfl (en rfl (en rfl (en rfl (en rfl (en rfl (en rfl (en rfl s16)))))))))
            have s17 := (hg 17).trans (en rfl (en rfl (en rfl (en rfl (en rfl (en rfl (en rfl (en rfl (en rfl s17)))))))))
            have s18 := (hg 18).trans (en rfl es)
            have s19 := (hg 19).trans es
            have s27 := (hg 27).trans (en rfl (en rfl (en rfl (en rfl (en rfl (en rfl (en rfl (en rfl (en rfl s27)))))))))
            have s34 := (hg 34).trans (en rfl (en rfl (en rfl (en rfl (en rfl (en rfl (en rfl (en rfl (en rfl s34)))))))))
            have s35 := (hg 35).trans (en rfl (en rfl (en rfl (en rfl (en rfl (en rfl (en rfl (en rfl (en rfl s35)))))))))
            have s36 := (hg 36).trans (en rfl (en rfl (en rfl (en rfl (en rfl (en rfl (en rfl (en rfl (en rfl s36)))))))))
            have s85 := (hg 85).trans (en rfl (en rfl (en rfl (en rfl (en rfl (en rfl (en rfl (en rfl (en rfl s85)))))))))
            have s86 := (hg 86).trans (en rfl (en rfl (en rfl (en rfl (en rfl (en rfl (en rfl (en rfl (en rfl s86)))))))))
            have s87 := (hg 87).trans (en rfl (en rfl (en rfl (en rfl (en rfl (en rfl (en rfl (en rfl (en rfl s87)))))))))
            have s135 := (hg 135).trans (en rfl (en rfl (en rfl (en rfl (en rfl (en rfl (en rfl (en rfl (en rfl s135)))))))))
            have s159 := (hg 159).trans (en rfl (en rfl (en rfl (en rfl (en rfl (en rfl (en rfl (en rfl (en rfl s159)))))))))
            clear hg
            refine xc_seq (fun K hK53 => ?_)
            refine xc_region ?_
            refine x_val (r_move s19) (nd_of rfl) rfl ?_
            refine x_val (r_eql es ec (r := false) rfl) (nd_of rfl) rfl ?_
            refine x_val (r_move es) (nd_of rfl) rfl ?_
            refine x_pass (d := 169) rfl rfl es rfl ?_
            refine x_pass (d := 169) rfl rfl (en rfl es) rfl ?_
            refine x_pass (d := 169) rfl rfl (en rfl (en rfl es)) rfl ?_
            refine x_val (r_pick_f (en rfl (en rfl (en rfl es))) ec) (nd_of rfl) rfl ?_
            refine xw_nil ?_
            refine hK53 _ _ ?_
            refine xc_gen (fun g hg => ?_)
            have s0 := (hg 0).trans (en rfl (en rfl (en rfl (en rfl (en rfl (en rfl (en rfl s0)))))))
            have s1 := (hg 1).trans (en rfl (en rfl (en rfl (en rfl (en rfl (en rfl (en rfl s1)))))))
            have s5 := (hg 5).trans (en rfl (en rfl (en rfl (en rfl (en rfl (en rfl (en rfl s5)))))))
            have s14 := (hg 14).trans (en rfl (en rfl (en rfl (en rfl (en rfl (en rfl (en rfl s14)))))))
            have s15 := (hg 15).trans (en rfl (en rfl (en rfl (en rfl (en rfl (en rfl (en rfl s15)))))))
            have s16 := (hg 16).trans (en rfl (en rfl (en rfl (en rfl (en rfl (en rfl (en rfl s16)))))))
            have s17 := (hg 17).trans (en rfl (en rfl (en rfl (en rfl (en rfl (en rfl (en rfl s17)))))))
            have s18 := (hg 18).trans (en rfl (en rfl (en rfl (en rfl (en rfl (en rfl (en rfl s18)))))))
            have s19 := (hg 19).trans (en rfl (en rfl (en rfl (en rfl (en rfl (en rfl (en rfl s19)))))))
            have s27 := (hg 27).trans (en rfl (en rfl (en rfl (en rfl (en rfl (en rfl (en rfl s27)))))))
            have s34 := (hg 34).trans (en rfl (en rfl (en rfl (en rfl (en rfl (en rfl (en rfl s34)))))))
            have s35 := (hg 35).trans (en rfl (en rfl (en rfl (en rfl (en rfl (en rfl (en rfl s35)))))))
            have s36 := (hg 36).trans (en rfl (en rfl (en rfl (en rfl (en rfl (en rfl (en rfl s36)))))))
            have s85 := (hg 85).trans (en rfl (en rfl (en rfl (en rfl (en rfl (en rfl (en rfl s85)))))))
            have s86 := (hg 86).trans (en rfl (en rfl (en rfl (en rfl (en rfl (en rfl (en rfl s86)))))))
            have s87 := (hg 87).trans (en rfl (en rfl (en rfl (en rfl (en rfl (en rfl (en rfl s87)))))))
            have s135 := (hg 135).trans (en rfl (en rfl (en rfl (en rfl (en rfl (en rfl (en rfl s135)))))))
            have s159 := (hg 159).trans (en rfl (en rfl (en rfl (en rfl (en rfl (en rfl (en rfl s159)))))))
            have s173 := (hg 173).trans es
            clear hg
            refine xc_cond s173 (fun hc => by cases hc) (fun _ => ?_)
            refine xc_skip ?_
            refine hK51 _ _ ?_
            refine xc_seq (fun K hK54 => ?_)
            refine xc_region ?_
            refine x_enter (r_call Try.call10 .nil) (nd_of rfl) rfl (known_ok h) ?_
            rintro _ w ⟨rfl, h⟩
            refine x_val (r_assign es) (nd_of rfl) rfl ?_
            refine xw_nil ?_
            refine hK54 _ _ ?_
            refine xc_gen (fun g hg => ?_)
            have s0 := (hg 0).trans (en rfl (en rfl s0))
            have s1 := (hg 1).trans (en rfl (en rfl s1))
            have s4 := (hg 4).trans es
            have s5 := (hg 5).trans (en rfl (en rfl s5))
            have s14 := (hg 14).trans (en rfl (en rfl s14))
            have s15 := (hg 15).trans (en rfl (en rfl s15))
            have s16 := (hg 16).trans (en rfl (en rfl s16))
            have s17 := (hg 17).trans (en rfl (en rfl s17))
            have s18 := (hg 18).trans (en rfl (en rfl s18))
            have s19 := (hg 19).trans (en rfl (en rfl s19))
            have s27 := (hg 27).trans (en rfl (en rfl s27))
            have s34 := (hg 34).trans (en rfl (en rfl s34))
            have s35 := (hg 35).trans (en rfl (en rfl s35))
            have s36 := (hg 36).trans (en rfl (en rfl s36))
            have s85 := (hg 85).trans (en rfl (en rfl s85))
            have s86 := (hg 86).trans (en rfl (en rfl s86))
            have s87 := (hg 87).trans (en rfl (en rfl s87))
            have s135 := (hg 135).trans (en rfl (en rfl s135))
            have s159 := (hg 159).trans (en rfl (en rfl s159))
            have s173 := (hg 173).trans (en rfl (en rfl s173))
            clear hg
            refine xc_ret ?_
            refine bodyR_1 rfl s4 ?_
            exact ⟨rfl, h.drop⟩
        ·
          skip
          refine xc_exit ?_
          refine hK20 _ _ ?_
          refine xc_seq (fun K hK55 => ?_)
          obtain ⟨p4, hp4⟩ := nlAt_some (l := t) (k := (V : Int) - 1) (by omega) (by omega)
          have hb4 := nlAt_before (n := ni) (by omega) hp4 (by omega)
          refine xc_region ?_
          refine x_val (r_move s5) (nd_of rfl) rfl ?_
          refine x_val (r_move (en rfl s1)) (nd_of rfl) rfl ?_
          refine x_enter (r_call Try.call19 (.cons (en rfl es) (.cons es .nil))) (nd_of rfl) rfl (lineOfR (V := V) ⟨by omega, by omega, by omega⟩ (by rw [Int.toNat_natCast]; exact hV) h) ?_
          rintro _ w ⟨rfl, h⟩
          refine x_val (r_move es) (nd_of rfl) rfl ?_
          refine x_val (r_extract es gc0) (nd_of rfl) rfl ?_
          refine x_val (r_extract (en rfl es) gc1) (nd_of rfl) rfl ?_
          refine x_val (r_assign (en rfl es)) (nd_of rfl) rfl ?_
          refine x_val (r_assign (en rfl es)) (nd_of rfl) rfl ?_
          refine xw_nil ?_
          refine hK55 _ _ ?_
          refine xc_gen (fun g hg => ?_)
          have s0 := (hg 0).trans (en rfl (en rfl (en rfl (en rfl (en rfl (en rfl (en rfl (en rfl s0))))))))
          have s1 := (hg 1).trans (en rfl (en rfl (en rfl (en rfl (en rfl (en rfl (en rfl (en rfl s1))))))))
          have s5 := (hg 5).trans (en rfl (en rfl (en rfl (en rfl (en rfl (en rfl (en rfl (en rfl s5))))))))
          have s14 := (hg 14).trans (en rfl es)
          have s15 := (hg 15).trans es
          have s27 := (hg 27).trans (en rfl (en rfl (en rfl (en rfl (en rfl (en rfl (en rfl (en rfl s27))))))))
          have s34 := (hg 34).trans (en rfl (en rfl (en rfl (en rfl (en rfl (en rfl (en rfl (en rfl s34))))))))
          have s35 := (hg 35).trans (en rfl (en rfl (en rfl (en rfl (en rfl (en rfl (en rfl (en rfl s35))))))))
          have s36 := (hg 36).trans (en rfl (en rfl (en rfl (en rfl (en rfl (en rfl (en rfl (en rfl s36))))))))
          have s85 := (hg 85).trans (en rfl (en rfl (en rfl (en rfl (en rfl (en rfl (en rfl (en rfl s85))))))))
          have s86 := (hg 86).trans (en rfl (en rfl (en rfl (en rfl (en rfl (en rfl (en rfl (en rfl s86))))))))
          have s87 := (hg 87).trans (en rfl (en rfl (en rfl (en rfl (en rfl (en rfl (en rfl (en rfl s87))))))))
          clear hg
          refine xc_seq (fun K hK56 => ?_)
          refine xc_seq (fun K hK57 => ?_)
          refine xc_region ?_
          refine x_val (r_move s15) (nd_of rfl) rfl ?_
          refine x_val (r_neq es ec (r := false) rfl) (nd_of rfl) rfl ?_
          refine xw_nil ?_
          refine hK57 _ _ ?_
          refine xc_gen (fun g hg => ?_)
          have s0 := (hg 0).trans (en rfl (en rfl s0))
          have s1 := (hg 1).trans (en rfl (en rfl s1))
          have s5 := (hg 5).trans (en rfl (en rfl s5))
          have s14 := (hg 14).trans (en rfl (en rfl s14))
          have s15 := (hg 15).trans (en rfl (en rfl s15))
          have s27 := (hg 27).trans (en rfl (en rfl s27))
          have s34 := (hg 34).trans (en rfl (en rfl s34))
          have s35 := (hg 35).trans (en rfl (en rfl s35))
          have s36 := (hg 36).trans (en rfl (en rfl s36))
          have s85 := (hg 85).trans (en rfl (en rfl s85))
          have s86 := (hg 86).trans (en rfl (en rfl s86))
          have s87 := (hg 87).trans (en rfl (en rfl s87))
          have s135 := (hg 135).trans es
          clear hg
          refine xc_cond s135 (fun hc => by cases hc) (fun _ => ?_)
          refine xc_skip ?_
          refine hK56 _ _ ?_
          refine xc_seq (fun K hK58 => ?_)
          refine xc_region ?_
          refine x_val (r_move s5) (nd_of rfl) rfl ?_
          refine x_val (r_move (en rfl s14)) (nd_of rfl) rfl ?_
          refine x_enter (r_call Try.call20 (.cons (en rfl es) (.cons es .nil))) (nd_of rfl) rfl (offsetOfR (p := p4) (by omega) hp4 (by omega) h) ?_
          rintro _ w ⟨rfl, h⟩
          refine x_val (r_move es) (nd_of rfl) rfl ?_
          refine x_val (r_extract es gc0) (nd_of rfl) rfl ?_
          refine x_val (r_extract (en rfl es) gc1) (nd_of rfl) rfl ?_
          refine x_val (r_assign (en rfl es)) (nd_of rfl) rfl ?_
          refine x_val (r_assign (en rfl es)) (nd_of rfl) rfl ?_
          refine xw_nil ?_
          refine hK58 _ _ ?_
          refine xc_gen (fun g hg => ?_)
          have s0 := (hg 0).trans (en rfl (en rfl (en rfl (en rfl (en rfl (en rfl (en rfl (en rfl s0))))))))
          have s1 := (hg 1).trans (en rfl (en rfl (en rfl (en rfl (en rfl (en rfl (en rfl (en rfl s1))))))))
          have s5 := (hg 5).trans (en rfl (en rfl (en rfl (en rfl (en rfl (en rfl (en rfl (en rfl s5))))))))
          have s14 := (hg 14).trans (en rfl (en rfl (en rfl (en rfl (en rfl (en rfl (en rfl (en rfl s14))))))))
          have s15 := (hg 15).trans (en rfl (en rfl (en rfl (en rfl (en rfl (en rfl (en rfl (en rfl s15))))))))
          have s16 := (hg 16).trans (en rfl es)
          have s17 := (hg 17).trans es
          have s27 := (hg 27).trans (en rfl (en rfl (en rfl (en rfl (en rfl (en rfl (en rfl (en rfl s27))))))))
          have s34 := (hg 34).trans (en rfl (en rfl (en rfl (en rfl (en rfl (en rfl (en rfl (en rfl s34))))))))
          have s35 := (hg 35).trans (en rfl (en rfl (en rfl (en rfl (en rfl (en rfl (en rfl (en rfl s35))))))))
          have s36 := (hg 36).trans (en rfl (en rfl (en rfl (en rfl (en rfl (en rfl (en rfl (en rfl s36))))))))
          have s85 := (hg 85).trans (en rfl (en rfl (en rfl (en rfl (en rfl (en rfl (en rfl (en rfl s85))))))))
          have s86 := (hg 86).trans (en rfl (en rfl (en rfl (en rfl (en rfl (en rfl (en rfl (en rfl s86))))))))
          have s87 := (hg 87).trans (en rfl (en rfl (en rfl (en rfl (en rfl (en rfl (en rfl (en rfl s87))))))))
          have s135 := (hg 135).trans (en rfl (en rfl (en rfl (en rfl (en rfl (en rfl (en rfl (en rfl s135))))))))
          clear hg
          refine xc_seq (fun K hK59 => ?_)
          refine xc_seq (fun K hK60 => ?_)
          refine xc_region ?_
          refine x_val (r_move s17) (nd_of rfl) rfl ?_
          refine x_val (r_neq es ec (r := false) rfl) (nd_of rfl) rfl ?_
          refine x_val (r_move es) (nd_of rfl) rfl ?_
          refine x_take (d := 155) rfl rfl es ?_
          refine x_val (r_move (en rfl (en rfl (en rfl s16)))) (nd_of rfl) rfl ?_
          refine x_take (d := 155) rfl rfl (en rfl es) ?_
          refine x_val (r_move (en rfl (en rfl (en rfl (en rfl s1))))) (nd_of rfl) rfl ?_
          refine x_take (d := 155) rfl rfl (en rfl (en rfl es)) ?_
          refine x_val (r_gtr (en rfl es) es (decide_eq_false (by omega))) (nd_of rfl) rfl ?_
          refine x_val (r_pick_f (en rfl (en rfl (en rfl es))) es) (nd_of rfl) rfl ?_
          refine xw_nil ?_
          refine hK60 _ _ ?_
          refine xc_gen (fun g hg => ?_)
          have s0 := (hg 0).trans (en rfl (en rfl (en rfl (en rfl (en rfl (en rfl (en rfl s0)))))))
          have s1 := (hg 1).trans (en rfl (en rfl (en rfl (en rfl (en rfl (en rfl (en rfl s1)))))))
          have s5 := (hg 5).trans (en rfl (en rfl (en rfl (en rfl (en rfl (en rfl (en rfl s5)))))))
          have s14 := (hg 14).trans (en rfl (en rfl (en rfl (en rfl (en rfl (en rfl (en rfl s14)))))))
          have s15 := (hg 15).trans (en rfl (en rfl (en rfl (en rfl (en rfl (en rfl (en rfl s15)))))))
          have s16 := (hg 16).trans (en rfl (en rfl (en rfl (en rfl (en rfl (en rfl (en rfl s16)))))))
          have s17 := (hg 17).trans (en rfl (en rfl (en rfl (en rfl (en rfl (en rfl (en rfl s17)))))))
          have s27 := (hg 27).trans (en rfl (en rfl (en rfl (en rfl (en rfl (en rfl (en rfl s27)))))))
          have s34 := (hg 34).trans (en rfl (en rfl (en rfl (en rfl (en rfl (en rfl (en rfl s34)))))))
          have s35 := (hg 35).trans (en rfl (en rfl (en rfl (en rfl (en rfl (en rfl (en rfl s35)))))))
          have s36 := (hg 36).trans (en rfl (en rfl (en rfl (en rfl (en rfl (en rfl (en rfl s36)))))))
          have s85 := (hg 85).trans (en rfl (en rfl (en rfl (en rfl (en rfl (en rfl (en rfl s85)))))))
          have s86 := (hg 86).trans (en rfl (en rfl (en rfl (en rfl (en rfl (en rfl (en rfl s86)))))))
          have s87 := (hg 87).trans (en rfl (en rfl (en rfl (en rfl (en rfl (en rfl (en rfl s87)))))))
          have s135 := (hg 135).trans (en rfl (en rfl (en rfl (en rfl (en rfl (en rfl (en rfl s135)))))))
          have s159 := (hg 159).trans es
          clear hg
          rcases Nat.lt_or_ge V (t.count 10) with hVl | hVl
          ·
            skip
            refine xc_cond s159 (fun hc => by cases hc) (fun _ => ?_)
            refine xc_skip ?_
            refine hK59 _ _ ?_
            refine xc_seq (fun K hK61 => ?_)
            refine xc_seq (fun K hK62 => ?_)
            obtain ⟨p3, hp3⟩ := nlAt_some (l := t) (k := (V : Int)) (by omega) (by omega)
            have hb3 := nlAt_behind (n := ni) (by omega) hp3 (by omega)
            have hl3 := nlAt_lt hp3
            refine xc_region ?_
            refine x_val (r_move s5) (nd_of rfl) rfl ?_
            refine x_val (r_move (en rfl s14)) (nd_of rfl) rfl ?_
            refine x_val (r_add es ec (show _ = (((V + 1 : Nat) : Int) : Int) from by omega) (by unfold I64; omega)) (nd_of rfl) rfl ?_
            refine x_enter (r_call Try.call20 (.cons (en rfl (en rfl es)) (.cons es .nil))) (nd_of rfl) rfl (offsetOfR (p := p3) (by omega) (by rw [show ((V + 1 : Nat) : Int) - 1 = V by omega]; exact hp3) (by omega) h) ?_
            rintro _ w ⟨rfl, h⟩
            refine x_val (r_move es) (nd_of rfl) rfl ?_
            refine x_val (r_extract es gc0) (nd_of rfl) rfl ?_
            refine x_val (r_extract (en rfl es) gc1) (nd_of rfl) rfl ?_
            refine x_val (r_assign (en rfl es)) (nd_of rfl) rfl ?_
            refine x_val (r_assign (en rfl es)) (nd_of rfl) rfl ?_
            refine xw_nil ?_
            refine hK62 _ _ ?_
            refine xc_gen (fun g hg => ?_)
            have s0 := (hg 0).trans (en rfl (en rfl (en rfl (en rfl (en rfl (en rfl (en rfl (en rfl (en rfl s0)))))))))
            have s1 := (hg 1).trans (en rfl (en rfl (en rfl (en rfl (en rfl (en rfl (en rfl (en rfl (en rfl s1)))))))))
            have s5 := (hg 5).trans (en rfl (en rfl (en rfl (en rfl (en rfl (en rfl (en rfl (en rfl (en rfl s5)))))))))
            have s14 := (hg 14).trans (en rfl (en rfl (en rfl (en rfl (en rfl (en rfl (en rfl (en rfl (en rfl s14)))))))))
            have s15 := (hg 15).trans (en rfl (en rfl (en rfl (en rfl (en rfl (en rfl (en rfl (en rfl (en rfl s15)))))))))
            have s16 := (hg 16).trans (en rfl (en rfl (en rfl (en rfl (en rfl (en rfl (en rfl (en rfl (en rfl s16)))))))))
            have s17 := (hg 17).trans (en rfl (en rfl (en rfl (en rfl (en rfl (en rfl (en rfl (en rfl (en rfl s17)))))))))
            have s18 := (hg 18).trans (en rfl es)
            have s19 := (hg 19).trans es
            have s27 := (hg 27).trans (en rfl (en rfl (en rfl (en rfl (en rfl (en rfl (en rfl (en rfl (en rfl s27)))))))))
            have s34 := (hg 34).trans (en rfl (en rfl (en rfl (en rfl (en rfl (en rfl (en rfl (en rfl (en rfl s34)))))))))
            have s35 := (hg 35).trans (en rfl (en rfl (en rfl (en rfl (en rfl (en rfl (en rfl (en rfl (en rfl s35)))))))))
            have s36 := (hg 36).trans (en rfl (en rfl (en rfl (en rfl (en rfl (en rfl (en rfl (en rfl (en rfl s36)))))))))
            have s85 := (hg 85).trans (en rfl (en rfl (en rfl (en rfl (en rfl (en rfl (en rfl (en rfl (en rfl s85)))))))))
            have s86 := (hg 86).trans (en rfl (en rfl (en rfl (en rfl (en rfl (en rfl (en rfl (en rfl (en rfl s86)))))))))
            have s87 := (hg 87).trans (en rfl (en rfl (en rfl (en rfl (en rfl (en rfl (en rfl (en rfl (en rfl s87)))))))))
            have s135 := (hg 135).trans (en rfl (en rfl (en rfl (en rfl (en rfl (en rfl (en rfl (en rfl (en rfl s135)))))))))
            have s159 := (hg 159).trans (en rfl (en rfl (en rfl (en rfl (en rfl (en rfl (en rfl (en rfl (en rfl s159)))))))))
            clear hg
            refine xc_seq (fun K hK63 => ?_)
            refine xc_region ?_
            refine x_val (r_move s19) (nd_of rfl) rfl ?_
            refine x_val (r_eql es ec (r := true) rfl) (nd_of rfl) rfl ?_
            refine x_val (r_move es) (nd_of rfl) rfl ?_
            refine x_take (d := 169) rfl rfl es ?_
            refine x_val (r_move (en rfl (en rfl (en rfl s18)))) (nd_of rfl) rfl ?_
            refine x_take (d := 169) rfl rfl (en rfl es) ?_
            refine x_val (r_move (en rfl (en rfl (en rfl (en rfl s1))))) (nd_of rfl) rfl ?_
            refine x_take (d := 169) rfl rfl (en rfl (en rfl es)) ?_
            refine x_val (r_leq (en rfl es) es (decide_eq_false (by omega))) (nd_of rfl) rfl ?_
            refine x_val (r_pick_t (en rfl (en rfl (en rfl es))) es) (nd_of rfl) rfl ?_
            refine xw_nil ?_
            refine hK63 _ _ ?_
            refine xc_gen (fun g hg => ?_)
            have s0 := (hg 0).trans (en rfl (en rfl (en rfl (en rfl (en rfl (en rfl (en rfl s0)))))))
            have s1 := (hg 1).trans (en rfl (en rfl (en rfl (en rfl (en rfl (en rfl (en rfl s1)))))))
            have s5 := (hg 5).trans (en rfl (en rfl (en rfl (en rfl (en rfl (en rfl (en rfl s5)))))))
            have s14 := (hg 14).trans (en rfl (en rfl (en rfl (en rfl (en rfl (en rfl (en rfl s14)))))))
            have s15 := (hg 15).trans (en rfl (en rfl (en rfl (en rfl (en rfl (en rfl (en rfl s15)))))))
            have s16 := (hg 16).trans (en rfl (en rfl (en rfl (en rfl (en rfl (en rfl (en rfl s16)))))))
            have s17 := (hg 17).trans (en rfl (en rfl (en rfl (en rfl (en rfl (en rfl (en rfl s17)))))))
            have s18 := (hg 18).trans (en rfl (en rfl (en rfl (en rfl (en rfl (en rfl (en rfl s18)))))))
            have s19 := (hg 19).trans (en rfl (en rfl (en rfl (en rfl (en rfl (en rfl (en rfl s19)))))))
            have s27 := (hg 27).trans (en rfl (en rfl (en rfl (en rfl (en rfl (en rfl (en rfl s27)))))))
            have s34 := (hg 34).trans (en rfl (en rfl (en rfl (en rfl (en rfl (en rfl (en rfl s34)))))))
            have s35 := (hg 35).trans (en rfl (en rfl (en rfl (en rfl (en rfl (en rfl (en rfl s35)))))))
            have s36 := (hg 36).trans (en rfl (en rfl (en rfl (en rfl (en rfl (en rfl (en rfl s36)))))))
            have s85 := (hg 85).trans (en rfl (en rfl (en rfl (en rfl (en rfl (en rfl (en rfl s85)))))))
            have s86 := (hg 86).trans (en rfl (en rfl (en rfl (en rfl (en rfl (en rfl (en rfl s86)))))))
            have s87 := (hg 87).trans (en rfl (en rfl (en rfl (en rfl (en rfl (en rfl (en rfl s87)))))))
            have s135 := (hg 135).trans (en rfl (en rfl (en rfl (en rfl (en rfl (en rfl (en rfl s135)))))))
            have s159 := (hg 159).trans (en rfl (en rfl (en rfl (en rfl (en rfl (en rfl (en rfl s159)))))))
            have s173 := (hg 173).trans es
            clear hg
            refine xc_cond s173 (fun hc => by cases hc) (fun _ => ?_)
            refine xc_skip ?_
            refine hK61 _ _ ?_
            refine xc_seq (fun K hK64 => ?_)
            refine xc_region ?_
            refine x_enter (r_call Try.call10 .nil) (nd_of rfl) rfl (known_ok h) ?_
            rintro _ w ⟨rfl, h⟩
            refine x_val (r_assign es) (nd_of rfl) rfl ?_
            refine xw_nil ?_
            refine hK64 _ _ ?_
            refine xc_gen (fun g hg => ?_)
            have s0 := (hg 0).trans (en rfl (en rfl s0))
            have s1 := (hg 1).trans (en rfl (en rfl s1))
            have s4 := (hg 4).trans es
            have s5 := (hg 5).trans (en rfl (en rfl s5))
            have s14 := (hg 14).trans (en rfl (en rfl s14))
            have s15 := (hg 15).trans (en rfl (en rfl s15))
            have s16 := (hg 16).trans (en rfl (en rfl s16))
            have s17 := (hg 17).trans (en rfl (en rfl s17))
            have s18 := (hg 18).trans (en rfl (en rfl s18))
            have s19 := (hg 19).trans (en rfl (en rfl s19))
            have s27 := (hg 27).trans (en rfl (en rfl s27))
            have s34 := (hg 34).trans (en rfl (en rfl s34))
            have s35 := (hg 35).trans (en rfl (en rfl s35))
            have s36 := (hg 36).trans (en rfl (en rfl s36))
            have s85 := (hg 85).trans (en rfl (en rfl s85))
            have s86 := (hg 86).trans (en rfl (en rfl s86))
            have s87 := (hg 87).trans (en rfl (en rfl s87))
            have s135 := (hg 135).trans (en rfl (en rfl s135))
            have s159 := (hg 159).trans (en rfl (en rfl s159))
            have s173 := (hg 173).trans (en rfl (en rfl s173))
            clear hg
            refine xc_ret ?_
            refine bodyR_1 rfl s4 ?_
            exact ⟨rfl, h.drop⟩
          ·
            skip
            refine xc_cond s159 (fun hc => by cases hc) (fun _ => ?_)
            refine xc_skip ?_
            refine hK59 _ _ ?_
            refine xc_seq (fun K hK65 => ?_)
            refine xc_seq (fun K hK66 => ?_)
            refine xc_region ?_
            refine x_val (r_move s5) (nd_of rfl) rfl ?_
            refine x_val (r_move (en rfl s14)) (nd_of rfl) rfl ?_
            refine x_val (r_add es ec (show _ = (((V + 1 : Nat) : Int) : Int) from by omega) (by unfold I64; omega)) (nd_of rfl) rfl ?_
            refine x_enter (r_call Try.call20 (.cons (en rfl (en rfl es)) (.cons es .nil))) (nd_of rfl) rfl (offsetOf_no (.inr (by omega)) h) ?_
            rintro _ w ⟨rfl, h⟩
            refine x_val (r_move es) (nd_of rfl) rfl ?_
            refine x_val (r_extract es gc0) (nd_of rfl) rfl ?_
            refine x_val (r_extract (en rfl es) gc1) (nd_of rfl) rfl ?_
            refine x_val (r_assign (en rfl es)) (nd_of rfl) rfl ?_
            refine x_val (r_assign (en rfl es)) (nd_of rfl) rfl ?_
            refine xw_nil ?_
            refine hK66 _ _ ?_
            refine xc_gen (fun g hg => ?_)
            have s0 := (hg 0).trans (en rfl (en rfl (en rfl (en rfl (en rfl (en rfl (en rfl (en rfl (en rfl s0)))))))))
            have s1 := (hg 1).trans (en rfl (en rfl (en rfl (en rfl (en rfl (en rfl (en rfl (en rfl (en rfl s1)))))))))
            have s5 := (hg 5).trans (en rfl (en rfl (en rfl (en rfl (en rfl (en rfl (en rfl (en rfl (en rfl s5)))))))))
            have s14 := (hg 14).trans (en rfl (en rfl (en rfl (en rfl (en rfl (en rfl (en rfl (en rfl (en rfl s14)))))))))
            have s15 := (hg 15).trans (en rfl (en rfl (en rfl (en rfl (en rfl (en rfl (en rfl (en rfl (en rfl s15)))))))))
            have s16 := (hg 16).trans (en rfl (en rfl (en rfl (en rfl (en rfl (en rfl (en rfl (en rfl (en rfl s16)))))))))
            have s17 := (hg 17).trans (en rfl (en rfl (en rfl (en rfl (en rfl (en rfl (en rfl (en rfl (en rfl s17)))))))))
            have s18 := (hg 18).trans (en rfl es)
            have s19 := (hg 19).trans es
            have s27 := (hg 27).trans (en rfl (en rfl (en rfl (en rfl (en rfl (en rfl (en rfl (en rfl (en rfl s27)))))))))
            have s34 := (hg 34).trans (en rfl (en rfl (en rfl (en rfl (en rfl (en rfl (en rfl (en rfl (en rfl s34)))))))))
            have s35 := (hg 35).trans (en rfl (en rfl (en rfl (en rfl (en rfl (en rfl (en rfl (en rfl (en rfl s35)))))))))
            have s36 := (hg 36).trans (en rfl (en rfl (en rfl (en rfl (en rfl (en rfl (en rfl (en rfl (en rfl s36)))))))))
            have s85 := (hg 85).trans (en rfl (en rfl (en rfl (en rfl (en rfl (en rfl (en rfl (en rfl (en rfl s85)))))))))
            have s86 := (hg 86).trans (en rfl (en rfl (en rfl (en rfl (en rfl (en rfl (en rfl (en rfl (en rfl s86)))))))))
            have s87 := (hg 87).trans (en rfl (en rfl (en rfl (en rfl (en rfl (en rfl (en rfl (en rfl (en rfl s87)))))))))
            have s135 := (hg 135).trans (en rfl (en rfl (en rfl (en rfl (en rfl (en rfl (en rfl (en rfl (en rfl s135)))))))))
            have s159 := (hg 159).trans (en rfl (en rfl (en rfl (en rfl (en rfl (en rfl (en rfl (en rfl (en rfl s159)))))))))
            clear hg
            refine xc_seq (fun K hK67 => ?_)
            refine xc_region ?_
            refine x_val (r_move s19) (nd_of rfl) rfl ?_
            refine x_val (r_eql es ec (r := false) rfl) (nd_of rfl) rfl ?_
            refine x_val (r_move es) (nd_of rfl) rfl ?_
            refine x_pass (d := 169) rfl rfl es rfl ?_
            refine x_pass (d := 169) rfl rfl (en rfl es) rfl ?_
            refine x_pass (d := 169) rfl rfl (en rfl (en rfl es)) rfl ?_
            refine x_val (r_pick_f (en rfl (en rfl (en rfl es))) ec) (nd_of rfl) rfl ?_
            refine xw_nil ?_
            refine hK67 _ _ ?_
            refine xc_gen (fun g hg => ?_)
            have s0 := (hg 0).trans (en rfl (en rfl (en rfl (en rfl (en rfl (en rfl (en rfl s0)))))))
            have s1 := (hg 1).trans (en rfl (en rfl (en rfl (en rfl (en rfl (en rfl (en rfl s1)))))))
            have s5 := (hg 5).trans (en rfl (en rfl (en rfl (en rfl (en rfl (en rfl (en rfl s5)))))))
            have s14 := (hg 14).trans (en rfl (en rfl (en rfl (en rfl (en rfl (en rfl (en rfl s14)))))))
            have s15 := (hg 15).trans (en rfl (en rfl (en rfl (en rfl (en rfl (en rfl (en rfl s15)))))))
            have s16 := (hg 16).trans (en rfl (en rfl (en rfl (en rfl (en rfl (en rfl (en rfl s16)))))))
            have s17 := (hg 17).trans (en rfl (en rfl (en rfl (en rfl (en rfl (en rfl (en rfl s17)))))))
            have s18 := (hg 18).trans (en rfl (en rfl (en rfl (en rfl (en rfl (en rfl (en rfl s18)))))))
            have s19 := (hg 19).trans (en rfl (en rfl (en rfl (en rfl (en rfl (en rfl (en rfl s19)))))))
            have s27 := (hg 27).trans (en rfl (en rfl (en rfl (en rfl (en rfl (en rfl (en rfl s27)))))))
            have s34 := (hg 34).trans (en rfl (en rfl (en rfl (en rfl (en rfl (en rfl (en rfl s34)))))))
            have s35 := (hg 35).trans (en rfl (en rfl (en rfl (en rfl (en rfl (en rfl (en rfl s35)))))))
            have s36 := (hg 36).trans (en rfl (en rfl (en rfl (en rfl (en rfl (en rfl (en rfl s36)))))))
            have s85 := (hg 85).trans (en rfl (en rfl (en rfl (en rfl (en rfl (en rfl (en rfl s85)))))))
            have s86 := (hg 86).trans (en rfl (en rfl (en rfl (en rfl (en rfl (en rfl (en rfl s86)))))))
            have s87 := (hg 87).trans (en rfl (en rfl (en rfl (en rfl (en rfl (en rfl (en rfl s87)))))))
            have s135 := (hg 135).trans (en rfl (en rfl (en rfl (en rfl (en rfl (en rfl (en rfl s135)))))))
            have s159 := (hg 159).trans (en rfl (en rfl (en rfl (en rfl (en rfl (en rfl (en rfl s159)))))))
            have s173 := (hg 173).trans es
            clear hg
            refine xc_cond s173 (fun hc => by cases hc) (fun _ => ?_)
            refine xc_skip ?_
            refine hK65 _ _ ?_
            refine xc_seq (fun K hK68 => ?_)
            refine xc_region ?_
            refine x_enter (r_call Try.call10 .nil) (nd_of rfl) rfl (known_ok h) ?_
            rintro _ w ⟨rfl, h⟩
            refine x_val (r_assign es) (nd_of rfl) rfl ?_
            refine xw_nil ?_
            refine hK68 _ _ ?_
            refine xc_gen (fun g hg => ?_)
            have s0 := (hg 0).trans (en rfl (en rfl s0))
            have s1 := (hg 1).trans (en rfl (en rfl s1))
            have s4 := (hg 4).trans es
            have s5 := (hg 5).trans (en rfl (en rfl s5))
            have s14 := (hg 14).trans (en rfl (en rfl s14))
            have s15 := (hg 15).trans (en rfl (en rfl s15))
            have s16 := (hg 16).trans (en rfl (en rfl s16))
            have s17 := (hg 17).trans (en rfl (en rfl s17))
            have s18 := (hg 18).trans (en rfl (en rfl s18))
            have s19 := (hg 19).trans (en rfl (en rfl s19))
            have s27 := (hg 27).trans (en rfl (en rfl s27))
            have s34 := (hg 34).trans (en rfl (en rfl s34))
            have s35 := (hg 35).trans (en rfl (en rfl s35))
            have s36 := (hg 36).trans (en rfl (en rfl s36))
            have s85 := (hg 85).trans (en rfl (en rfl s85))
            have s86 := (hg 86).trans (en rfl (en rfl s86))
            have s87 := (hg 87).trans (en rfl (en rfl s87))
            have s135 := (hg 135).trans (en rfl (en rfl s135))
            have s159 := (hg 159).trans (en rfl (en rfl s159))
            have s173 := (hg 173).trans (en rfl (en rfl s173))
            clear hg
            refine xc_ret ?_
            refine bodyR_1 rfl s4 ?_
            exact ⟨rfl, h.drop⟩
      ·
        skip
        refine xc_exit ?_
        refine hK20 _ _ ?_
        refine xc_seq (fun K hK69 => ?_)
        refine xc_region ?_
        refine x_val (r_move s5) (nd_of rfl) rfl ?_
        refine x_val (r_move (en rfl s1)) (nd_of rfl) rfl ?_
        refine x_enter (r_call Try.call19 (.cons (en rfl es) (.cons es .nil))) (nd_of rfl) rfl (lineOf_no hp h) ?_
        rintro _ w ⟨rfl, h⟩
        refine x_val (r_move es) (nd_of rfl) rfl ?_
        refine x_val (r_extract es gc0) (nd_of rfl) rfl ?_
        refine x_val (r_extract (en rfl es) gc1) (nd_of rfl) rfl ?_
        refine x_val (r_assign (en rfl es)) (nd_of rfl) rfl ?_
        refine x_val (r_assign (en rfl es)) (nd_of rfl) rfl ?_
        refine xw_nil ?_
        refine hK69 _ _ ?_
        refine xc_gen (fun g hg => ?_)
        have s0 := (hg 0).trans (en rfl (en rfl (en rfl (en rfl (en rfl (en rfl (en rfl (en rfl s0))))))))
        have s1 := (hg 1).trans (en rfl (en rfl (en rfl (en rfl (en rfl (en rfl (en rfl (en rfl s1))))))))
        have s5 := (hg 5).trans (en rfl (en rfl (en rfl (en rfl (en rfl (en rfl (en rfl (en rfl s5))))))))
        have s14 := (hg 14).trans (en rfl es)
        have s15 := (hg 15).trans es
        have s27 := (hg 27).trans (en rfl (en rfl (en rfl (en rfl (en rfl (en rfl (en rfl (en rfl s27))))))))
        have s34 := (hg 34).trans (en rfl (en rfl (en rfl (en rfl (en rfl (en rfl (en rfl (en rfl s34))))))))
        have s35 := (hg 35).trans (en rfl (en rfl (en rfl (en rfl (en rfl (en rfl (en rfl (en rfl s35))))))))
        have s36 := (hg 36).trans (en rfl (en rfl (en rfl (en rfl (en rfl (en rfl (en rfl (en rfl s36))))))))
        have s85 := (hg 85).trans (en rfl (en rfl (en rfl (en rfl (en rfl (en rfl (en rfl (en rfl s85))))))))
        have s86 := (hg 86).trans (en rfl (en rfl (en rfl (en rfl (en rfl (en rfl (en rfl (en rfl s86))))))))
        have s87 := (hg 87).trans (en rfl (en rfl (en rfl (en rfl (en rfl (en rfl (en rfl (en rfl s87))))))))
        clear hg
        rcases Int.lt_or_le i 0 with hi0 | hi0
        ·
          skip
          refine xc_seq (fun K hK70 => ?_)
          refine xc_seq (fun K hK71 => ?_)
          refine xc_region ?_
          refine x_val (r_move s15) (nd_of rfl) rfl ?_
          refine x_val (r_neq es ec (r := true) rfl) (nd_of rfl) rfl ?_
          refine xw_nil ?_
          refine hK71 _ _ ?_
          refine xc_gen (fun g hg => ?_)
          have s0 := (hg 0).trans (en rfl (en rfl s0))
          have s1 := (hg 1).trans (en rfl (en rfl s1))
          have s5 := (hg 5).trans (en rfl (en rfl s5))
          have s14 := (hg 14).trans (en rfl (en rfl s14))
          have s15 := (hg 15).trans (en rfl (en rfl s15))
          have s27 := (hg 27).trans (en rfl (en rfl s27))
          have s34 := (hg 34).trans (en rfl (en rfl s34))
          have s35 := (hg 35).trans (en rfl (en rfl s35))
          have s36 := (hg 36).trans (en rfl (en rfl s36))
          have s85 := (hg 85).trans (en rfl (en rfl s85))
          have s86 := (hg 86).trans (en rfl (en rfl s86))
          have s87 := (hg 87).trans (en rfl (en rfl s87))
          have s135 := (hg 135).trans es
          clear hg
          refine xc_cond s135 (fun _ => ?_) (fun hc => by cases hc)
          refine xc_seq (fun K hK72 => ?_)
          refine xc_region ?_
          refine x_val (r_move s1) (nd_of rfl) rfl ?_
          refine x_val (r_lss es ec (decide_eq_true (by omega))) (nd_of rfl) rfl ?_
          refine x_val (r_move es) (nd_of rfl) rfl ?_
          refine x_pass (d := 138) rfl rfl es rfl ?_
          refine x_pass (d := 138) rfl rfl (en rfl es) rfl ?_
          refine x_pass (d := 138) rfl rfl (en rfl (en rfl es)) rfl ?_
          refine x_pass (d := 138) rfl rfl (en rfl (en rfl (en rfl es))) rfl ?_
          refine x_val (r_pick_t (en rfl (en rfl (en rfl (en rfl es)))) ec) (nd_of rfl) rfl ?_
          refine x_val (r_move es) (nd_of rfl) rfl ?_
          refine x_take (d := 144) rfl rfl es ?_
          refine x_enter (r_call Try.call10 .nil) (nd_of rfl) rfl (known_ok h) ?_
          rintro _ w ⟨rfl, h⟩
          refine x_val (r_pick_t (en rfl es) es) (nd_of rfl) rfl ?_
          refine x_val (r_assign es) (nd_of rfl) rfl ?_
          refine xw_nil ?_
          refine hK72 _ _ ?_
          refine xc_gen (fun g hg => ?_)
          have s0 := (hg 0).trans (en rfl (en rfl (en rfl (en rfl (en rfl (en rfl (en rfl (en rfl (en rfl (en rfl (en rfl (en rfl s0))))))))))))
          have s1 := (hg 1).trans (en rfl (en rfl (en rfl (en rfl (en rfl (en rfl (en rfl (en rfl (en rfl (en rfl (en rfl (en rfl s1))))))))))))
          have s4 := (hg 4).trans es
          have s5 := (hg 5).trans (en rfl (en rfl (en rfl (en rfl (en rfl (en rfl (en rfl (en rfl (en rfl (en rfl (en rfl (en rfl s5))))))))))))
          have s14 := (hg 14).trans (en rfl (en rfl (en rfl (en rfl (en rfl (en rfl (en rfl (en rfl (en rfl (en rfl (en rfl (en rfl s14))))))))))))
          have s15 := (hg 15).trans (en rfl (en rfl (en rfl (en rfl (en rfl (en rfl (en rfl (en rfl (en rfl (en rfl (en rfl (en rfl s15))))))))))))
          have s27 := (hg 27).trans (en rfl (en rfl (en rfl (en rfl (en rfl (en rfl (en rfl (en rfl (en rfl (en rfl (en rfl (en rfl s27))))))))))))
          have s34 := (hg 34).trans (en rfl (en rfl (en rfl (en rfl (en rfl (en rfl (en rfl (en rfl (en rfl (en rfl (en rfl (en rfl s34))))))))))))
          have s35 := (hg 35).trans (en rfl (en rfl (en rfl (en rfl (en rfl (en rfl (en rfl (en rfl (en rfl (en rfl (en rfl (en rfl s35))))))))))))
          have s36 := (hg 36).trans (en rfl (en rfl (en rfl (en rfl (en rfl (en rfl (en rfl (en rfl (en rfl (en rfl (en rfl (en rfl s36))))))))))))
          have s85 := (hg 85).trans (en rfl (en rfl (en rfl (en rfl (en rfl (en rfl (en rfl (en rfl (en rfl (en rfl (en rfl (en rfl s85))))))))))))
          have s86 := (hg 86).trans (en rfl (en rfl (en rfl (en rfl (en rfl (en rfl (en rfl (en rfl (en rfl (en rfl (en rfl (en rfl s86))))))))))))
          have s87 := (hg 87).trans (en rfl (en rfl (en rfl (en rfl (en rfl (en rfl (en rfl (en rfl (en rfl (en rfl (en rfl (en rfl s87))))))))))))
          have s135 := (hg 135).trans (en rfl (en rfl (en rfl (en rfl (en rfl (en rfl (en rfl (en rfl (en rfl (en rfl (en rfl (en rfl s135))))))))))))
          clear hg
          refine xc_ret ?_
          refine bodyR_1 rfl s4 ?_
          exact ⟨rfl, h.drop⟩
        ·
          skip
          refine xc_seq (fun K hK73 => ?_)
          refine xc_seq (fun K hK74 => ?_)
          refine xc_region ?_
          refine x_val (r_move s15) (nd_of rfl) rfl ?_
          refine x_val (r_neq es ec (r := true) rfl) (nd_of rfl) rfl ?_
          refine xw_nil ?_
          refine hK74 _ _ ?_
          refine xc_gen (fun g hg => ?_)
          have s0 := (hg 0).trans (en rfl (en rfl s0))
          have s1 := (hg 1).trans (en rfl (en rfl s1))
          have s5 := (hg 5).trans (en rfl (en rfl s5))
          have s14 := (hg 14).trans (en rfl (en rfl s14))
          have s15 := (hg 15).trans (en rfl (en rfl s15))
          have s27 := (hg 27).trans (en rfl (en rfl s27))
          have s34 := (hg 34).trans (en rfl (en rfl s34))
          have s35 := (hg 35).trans (en rfl (en rfl s35))
          have s36 := (hg 36).trans (en rfl (en rfl s36))
          have s85 := (hg 85).trans (en rfl (en rfl s85))
          have s86 := (hg 86).trans (en rfl (en rfl s86))
          have s87 := (hg 87).trans (en rfl (en rfl s87))
          have s135 := (hg 135).trans es
          clear hg
          refine xc_cond s135 (fun _ => ?_) (fun hc => by cases hc)
          refine xc_seq (fun K hK75 => ?_)
          refine xc_region ?_
          refine x_val (r_move s1) (nd_of rfl) rfl ?_
          refine x_val (r_lss es ec (decide_eq_false (by omega))) (nd_of rfl) rfl ?_
          refine x_val (r_move es) (nd_of rfl) rfl ?_
          refine x_take (d := 138) rfl rfl es ?_
          refine x_val (r_move (en rfl (en rfl (en rfl s1)))) (nd_of rfl) rfl ?_
          refine x_take (d := 138) rfl rfl (en rfl es) ?_
          refine x_val (r_move (en rfl (en rfl (en rfl (en rfl s5))))) (nd_of rfl) rfl ?_
          refine x_take (d := 138) rfl rfl (en rfl (en rfl es)) ?_
          refine x_enter (r_call Try.call11 (.cons es .nil)) (nd_of rfl) rfl (lenR h) ?_
          rintro _ w ⟨rfl, h⟩
          refine x_take (d := 138) rfl rfl (en rfl (en rfl (en rfl es))) ?_
          refine x_val (r_gtr (en rfl (en rfl es)) es (decide_eq_true (by exact Int.not_le.1 (fun hh => hp ⟨hi0, Int.le_refl _, hh⟩)))) (nd_of rfl) rfl ?_
          refine x_val (r_pick_f (en rfl (en rfl (en rfl (en rfl es)))) es) (nd_of rfl) rfl ?_
          refine x_val (r_move es) (nd_of rfl) rfl ?_
          refine x_take (d := 144) rfl rfl es ?_
          refine x_enter (r_call Try.call10 .nil) (nd_of rfl) rfl (known_ok h) ?_
          rintro _ w ⟨rfl, h⟩
          refine x_val (r_pick_t (en rfl es) es) (nd_of rfl) rfl ?_
          refine x_val (r_assign es) (nd_of rfl) rfl ?_
          refine xw_nil ?_
          refine hK75 _ _ ?_
          refine xc_gen (fun g hg => ?_)
          have s0 := (hg 0).trans (en rfl (en rfl (en rfl (en rfl (en rfl (en rfl (en rfl (en rfl (en rfl (en rfl (en rfl (en rfl s0))))))))))))
          have s1 := (hg 1).trans (en rfl (en rfl (en rfl (en rfl (en rfl (en rfl (en rfl (en rfl (en rfl (en rfl (en rfl (en rfl s1))))))))))))
          have s4 := (hg 4).trans es
          have s5 := (hg 5).trans (en rfl (en rfl (en rfl (en rfl (en rfl (en rfl (en rfl (en rfl (en rfl (en rfl (en rfl (en rfl s5))))))))))))
          have s14 := (hg 14).trans (en rfl (en rfl (en rfl (en rfl (en rfl (en rfl (en rfl (en rfl (en rfl (en rfl (en rfl (en rfl s14))))))))))))
          have s15 := (hg 15).trans (en rfl (en rfl (en rfl (en rfl (en rfl (en rfl (en rfl (en rfl (en rfl (en rfl (en rfl (en rfl s15))))))))))))
          have s27 := (hg 27).trans (en rfl (en rfl (en rfl (en rfl (en rfl (en rfl (en rfl (en rfl (en rfl (en rfl (en rfl (en rfl s27))))))))))))
          have s34 := (hg 34).trans (en rfl (en rfl (en rfl (en rfl (en rfl (en rfl (en rfl (en rfl (en rfl (en rfl (en rfl (en rfl s34))))))))))))
          have s35 := (hg 35).trans (en rfl (en rfl (en rfl (en rfl (en rfl (en rfl (en rfl (en rfl (en rfl (en rfl (en rfl (en rfl s35))))))))))))
          have s36 := (hg 36).trans (en rfl (en rfl (en rfl (en rfl (en rfl (en rfl (en rfl (en rfl (en rfl (en rfl (en rfl (en rfl s36))))))))))))
          have s85 := (hg 85).trans (en rfl (en rfl (en rfl (en rfl (en rfl (en rfl (en rfl (en rfl (en rfl (en rfl (en rfl (en rfl s85))))))))))))
          have s86 := (hg 86).trans (en rfl (en rfl (en rfl (en rfl (en rfl (en rfl (en rfl (en rfl (en rfl (en rfl (en rfl (en rfl s86))))))))))))
          have s87 := (hg 87).trans (en rfl (en rfl (en rfl (en rfl (en rfl (en rfl (en rfl (en rfl (en rfl (en rfl (en rfl (en rfl s87))))))))))))
          have s135 := (hg 135).trans (en rfl (en rfl (en rfl (en rfl (en rfl (en rfl (en rfl (en rfl (en rfl (en rfl (en rfl (en rfl s135))))))))))))
          clear hg
          refine xc_ret ?_
          refine bodyR_1 rfl s4 ?_
          exact ⟨rfl, h.drop⟩
theorem lines_all {i : Int} (hi : I64 i) (hv : OpsAt W v os) (h : SatL E w (Old W :: R)) : Calls Try.prog 5 #[v, .int .i64 i] w (Ret fun u w' => u = .bool true ∧ SatL E w' (Old W :: R)) := by
  rcases Nat.lt_or_ge 40 os.length with h1 | h1
  · exact lines_long hv h1 h
  · exact lines_ok hi hv h1 h
end
end Go.Proofs.Ytmfkhfmidnojhaa
