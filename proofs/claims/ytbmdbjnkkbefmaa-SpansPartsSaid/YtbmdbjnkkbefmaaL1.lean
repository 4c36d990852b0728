/-
SpansParts: the walk.
-/
import Derived.Test.YtbmdbjnkkbefmaaS8
namespace Go.Proofs.Ytbmdbjnkkbefmaa
open Go Go.RowKit
section
variable {E : Env} {R : List SProp} {w : World} {W : World} {v : Value} {os : List OpV} {i j : Int}
theorem parts_long (hv : OpsAt W v os) (hl : 40 < os.length) (h : SatL E w (Old W :: R)) : Calls Try.prog 3 #[v, .int .i64 i, .int .i64 j] w (Ret fun u w' => u = .bool true ∧ SatL E w' (Old W :: R)) := by
  obtain ⟨a, cap, rfl, _⟩ := hv
  refine calls_x Try.func3 rfl Try.ntmps3 rfl ?_
  refine xc_gen (fun g hg => ?_)
  have s0 := (hg 0).trans arg0
  have s1 := (hg 1).trans arg1
  have s2 := (hg 2).trans arg2
  clear hg
  refine xc_seq (fun K hK1 => ?_)
  refine xc_region ?_
  refine x_val (r_assign ec) (nd_of rfl) rfl ?_
  refine xw_nil ?_
  refine hK1 _ _ ?_
  refine xc_gen (fun g hg => ?_)
  have s0 := (hg 0).trans (en rfl s0)
  have s1 := (hg 1).trans (en rfl s1)
  have s2 := (hg 2).trans (en rfl s2)
  have s6 := (hg 6).trans es
  clear hg
  refine xc_seq (fun K hK2 => ?_)
  refine xc_region ?_
  refine x_enter (r_call Try.call8 .nil) (nd_of rfl) rfl (new_o h) ?_
  rintro _ w ⟨b, rfl, h⟩
  refine x_val (r_assign es) (nd_of rfl) rfl ?_
  refine xw_nil ?_
  refine hK2 _ _ ?_
  refine xc_gen (fun g hg => ?_)
  have s0 := (hg 0).trans (en rfl (en rfl s0))
  have s1 := (hg 1).trans (en rfl (en rfl s1))
  have s2 := (hg 2).trans (en rfl (en rfl s2))
  have s6 := (hg 6).trans (en rfl (en rfl s6))
  have s7 := (hg 7).trans es
  clear hg
  refine xc_seq (fun K hK3 => ?_)
  refine xc_seq (fun K hK4 => ?_)
  refine xc_region ?_
  refine x_val (r_move s7) (nd_of rfl) rfl ?_
  refine x_val (r_eqnil Try.underlying23 es ec (r := false) rfl) (nd_of rfl) rfl ?_
  refine x_val (r_move es) (nd_of rfl) rfl ?_
  refine x_take (d := 19) rfl rfl es ?_
  refine x_val (r_move (en rfl (en rfl (en rfl s0)))) (nd_of rfl) rfl ?_
  refine x_take (d := 19) rfl rfl (en rfl es) ?_
  refine x_val (r_len Try.underlying22 es) (nd_of rfl) rfl ?_
  refine x_take (d := 19) rfl rfl (en rfl (en rfl es)) ?_
  refine x_val (r_gtr es ec (decide_eq_true (by omega))) (nd_of rfl) rfl ?_
  refine x_val (r_pick_f (en rfl (en rfl (en rfl es))) es) (nd_of rfl) rfl ?_
  refine xw_nil ?_
  refine hK4 _ _ ?_
  refine xc_gen (fun g hg => ?_)
  have s0 := (hg 0).trans (en rfl (en rfl (en rfl (en rfl (en rfl (en rfl (en rfl s0)))))))
  have s1 := (hg 1).trans (en rfl (en rfl (en rfl (en rfl (en rfl (en rfl (en rfl s1)))))))
  have s2 := (hg 2).trans (en rfl (en rfl (en rfl (en rfl (en rfl (en rfl (en rfl s2)))))))
  have s6 := (hg 6).trans (en rfl (en rfl (en rfl (en rfl (en rfl (en rfl (en rfl s6)))))))
  have s7 := (hg 7).trans (en rfl (en rfl (en rfl (en rfl (en rfl (en rfl (en rfl s7)))))))
  have s23 := (hg 23).trans es
  clear hg
  refine xc_cond s23 (fun _ => ?_) (fun hc => by cases hc)
  refine xc_seq (fun K hK5 => ?_)
  refine xc_region ?_
  refine x_val (r_move s7) (nd_of rfl) rfl ?_
  refine x_val (r_nenil Try.underlying23 es ec (r := true) rfl) (nd_of rfl) rfl ?_
  refine x_val (r_move es) (nd_of rfl) rfl ?_
  refine x_take (d := 26) rfl rfl es ?_
  refine x_enter (r_call Try.call9 .nil) (nd_of rfl) rfl (known_ok h) ?_
  rintro _ w ⟨rfl, h⟩
  refine x_val (r_pick_t (en rfl es) es) (nd_of rfl) rfl ?_
  refine x_val (r_assign es) (nd_of rfl) rfl ?_
  refine xw_nil ?_
  refine hK5 _ _ ?_
  refine xc_gen (fun g hg => ?_)
  have s0 := (hg 0).trans (en rfl (en rfl (en rfl (en rfl (en rfl (en rfl s0))))))
  have s1 := (hg 1).trans (en rfl (en rfl (en rfl (en rfl (en rfl (en rfl s1))))))
  have s2 := (hg 2).trans (en rfl (en rfl (en rfl (en rfl (en rfl (en rfl s2))))))
  have s6 := (hg 6).trans es
  have s7 := (hg 7).trans (en rfl (en rfl (en rfl (en rfl (en rfl (en rfl s7))))))
  have s23 := (hg 23).trans (en rfl (en rfl (en rfl (en rfl (en rfl (en rfl s23))))))
  clear hg
  refine xc_ret ?_
  refine bodyR_1 rfl s6 ?_
  exact ⟨rfl, h.drop⟩
theorem parts_ok (hv : OpsAt W v os) (hl : os.length ≤ 40) (hi : I64 i) (hj : I64 j) (h : SatL E w (Old W :: R)) : Calls Try.prog 3 #[v, .int .i64 i, .int .i64 j] w (Ret fun u w' => u = .bool true ∧ SatL E w' (Old W :: R)) := by
  obtain ⟨a, cap, rfl, hread⟩ := hv
  refine calls_x Try.func3 rfl Try.ntmps3 rfl ?_
  refine xc_gen (fun g hg => ?_)
  have s0 := (hg 0).trans arg0
  have s1 := (hg 1).trans arg1
  have s2 := (hg 2).trans arg2
  clear hg
  refine xc_seq (fun K hK1 => ?_)
  refine xc_region ?_
  refine x_val (r_assign ec) (nd_of rfl) rfl ?_
  refine xw_nil ?_
  refine hK1 _ _ ?_
  refine xc_gen (fun g hg => ?_)
  have s0 := (hg 0).trans (en rfl s0)
  have s1 := (hg 1).trans (en rfl s1)
  have s2 := (hg 2).trans (en rfl s2)
  have s6 := (hg 6).trans es
  clear hg
  refine xc_seq (fun K hK2 => ?_)
  refine xc_region ?_
  refine x_enter (r_call Try.call8 .nil) (nd_of rfl) rfl (new_o h) ?_
  rintro _ w ⟨b, rfl, h⟩
  refine x_val (r_assign es) (nd_of rfl) rfl ?_
  refine xw_nil ?_
  refine hK2 _ _ ?_
  refine xc_gen (fun g hg => ?_)
  have s0 := (hg 0).trans (en rfl (en rfl s0))
  have s1 := (hg 1).trans (en rfl (en rfl s1))
  have s2 := (hg 2).trans (en rfl (en rfl s2))
  have s6 := (hg 6).trans (en rfl (en rfl s6))
  have s7 := (hg 7).trans es
  clear hg
  refine xc_seq (fun K hK3 => ?_)
  refine xc_seq (fun K hK4 => ?_)
  refine xc_region ?_
  refine x_val (r_move s7) (nd_of rfl) rfl ?_
  refine x_val (r_eqnil Try.underlying23 es ec (r := false) rfl) (nd_of rfl) rfl ?_
  refine x_val (r_move es) (nd_of rfl) rfl ?_
  refine x_take (d := 19) rfl rfl es ?_
  refine x_val (r_move (en rfl (en rfl (en rfl s0)))) (nd_of rfl) rfl ?_
  refine x_take (d := 19) rfl rfl (en rfl es) ?_
  refine x_val (r_len Try.underlying22 es) (nd_of rfl) rfl ?_
  refine x_take (d := 19) rfl rfl (en rfl (en rfl es)) ?_
  refine x_val (r_gtr es ec (decide_eq_false (by omega))) (nd_of rfl) rfl ?_
  refine x_val (r_pick_f (en rfl (en rfl (en rfl es))) es) (nd_of rfl) rfl ?_
  refine xw_nil ?_
  refine hK4 _ _ ?_
  refine xc_gen (fun g hg => ?_)
  have s0 := (hg 0).trans (en rfl (en rfl (en rfl (en rfl (en rfl (en rfl (en rfl s0)))))))
  have s1 := (hg 1).trans (en rfl (en rfl (en rfl (en rfl (en rfl (en rfl (en rfl s1)))))))
  have s2 := (hg 2).trans (en rfl (en rfl (en rfl (en rfl (en rfl (en rfl (en rfl s2)))))))
  have s6 := (hg 6).trans (en rfl (en rfl (en rfl (en rfl (en rfl (en rfl (en rfl s6)))))))
  have s7 := (hg 7).trans (en rfl (en rfl (en rfl (en rfl (en rfl (en rfl (en rfl s7)))))))
  have s23 := (hg 23).trans es
  clear hg
  refine xc_cond s23 (fun hc => by cases hc) (fun _ => ?_)
  refine xc_skip ?_
  refine hK3 _ _ ?_
  refine xc_seq (fun K hK5 => ?_)
  refine xc_seq (fun K hK6 => ?_)
  refine xc_region ?_
  refine x_val (r_move s0) (nd_of rfl) rfl ?_
  refine x_val (r_len Try.underlying22 es) (nd_of rfl) rfl ?_
  refine x_val (r_move ec) (nd_of rfl) rfl ?_
  refine xw_nil ?_
  refine hK6 _ _ ?_
  refine xc_gen (fun g hg => ?_)
  have s0 := (hg 0).trans (en rfl (en rfl (en rfl s0)))
  have s1 := (hg 1).trans (en rfl (en rfl (en rfl s1)))
  have s2 := (hg 2).trans (en rfl (en rfl (en rfl s2)))
  have s6 := (hg 6).trans (en rfl (en rfl (en rfl s6)))
  have s7 := (hg 7).trans (en rfl (en rfl (en rfl s7)))
  have s23 := (hg 23).trans (en rfl (en rfl (en rfl s23)))
  have s30 := (hg 30).trans (en rfl es)
  have s31 := (hg 31).trans es
  clear hg
  refine xc_block ?_
  obtain ⟨G7, hG7⟩ : ∃ g0 : Nat → Value, g0 = g := ⟨_, rfl⟩
  have zG7_0 : G7 0 = _ := (congrFun hG7 0).trans s0
  have zG7_1 : G7 1 = _ := (congrFun hG7 1).trans s1
  have zG7_2 : G7 2 = _ := (congrFun hG7 2).trans s2
  have zG7_6 : G7 6 = _ := (congrFun hG7 6).trans s6
  have zG7_7 : G7 7 = _ := (congrFun hG7 7).trans s7
  have zG7_23 : G7 23 = _ := (congrFun hG7 23).trans s23
  have zG7_30 : G7 30 = _ := (congrFun hG7 30).trans s30
  refine xc_loop (fun m f w => (∃ (k n : Nat) (xs : List X), m = os.length - k ∧ k ≤ os.length ∧ n ≤ k ∧ Inv xs n ∧ f 31 = .int .i64 (k : Int) ∧ SatL E w (ObjO b xs (104 * n) :: Old W :: R)) ∧ (f 0 = G7 0 ∧ f 1 = G7 1 ∧ f 2 = G7 2 ∧ f 6 = G7 6 ∧ f 7 = G7 7 ∧ f 23 = G7 23 ∧ f 30 = G7 30)) (os.length) ⟨⟨0, 0, [], by omega, by omega, by omega, Inv.nil, s31, h⟩, ⟨congrFun hG7.symm 0, congrFun hG7.symm 1, congrFun hG7.symm 2, congrFun hG7.symm 6, congrFun hG7.symm 7, congrFun hG7.symm 23, congrFun hG7.symm 30⟩⟩ ?_
  rintro m g w ⟨⟨k, n, xs, hm, hk, hn, hinv, s31, h⟩, ⟨y0, y1, y2, y6, y7, y23, y30⟩⟩
  have s0 := y0.trans zG7_0
  have s1 := y1.trans zG7_1
  have s2 := y2.trans zG7_2
  have s6 := y6.trans zG7_6
  have s7 := y7.trans zG7_7
  have s23 := y23.trans zG7_23
  have s30 := y30.trans zG7_30
  refine xc_seq (fun K hK8 => ?_)
  refine xc_region ?_
  refine x_val (r_lss s31 s30 rfl) (nd_of rfl) rfl ?_
  refine xw_nil ?_
  refine hK8 _ _ ?_
  refine xc_gen (fun g hg => ?_)
  have s0 := (hg 0).trans (en rfl s0)
  have s1 := (hg 1).trans (en rfl s1)
  have s2 := (hg 2).trans (en rfl s2)
  have s6 := (hg 6).trans (en rfl s6)
  have s7 := (hg 7).trans (en rfl s7)
  have s23 := (hg 23).trans (en rfl s23)
  have s30 := (hg 30).trans (en rfl s30)
  have s31 := (hg 31).trans (en rfl s31)
  have s32 := (hg 32).trans es
  clear hg
  refine xc_seq (fun K hK9 => ?_)
  refine xc_cond s32 (fun hc => ?_) (fun hc => ?_)
  ·
    refine xc_skip ?_
    refine hK9 _ _ ?_
    refine xc_seq (fun K hK10 => ?_)
    refine xc_block ?_
    refine xc_seq (fun K hK11 => ?_)
    have hk2 : k < os.length := by have := of_decide_eq_true hc; omega
    obtain ⟨o, ho⟩ : ∃ o, os[k]? = some o := ⟨_, List.getElem?_eq_getElem hk2⟩
    obtain ⟨hwf, ad, rfl, hcell⟩ := hread k o ho
    obtain ⟨al, cl, hlv, hlsp⟩ := hwf.sp
    have hinl := hinv.len
    have hins := hinv.size
    have c3 : W.cell? ((ad.add (k * 6)).add 3) = some (.slice al o.ls.length cl) := by rw [← hlv]; exact hcell 3 _ rfl
    refine xc_region ?_
    refine x_val (r_move s31) (nd_of rfl) rfl ?_
    refine x_val (r_assign es) (nd_of rfl) rfl ?_
    refine xw_nil ?_
    refine hK11 _ _ ?_
    refine xc_gen (fun g hg => ?_)
    have s0 := (hg 0).trans (en rfl (en rfl s0))
    have s1 := (hg 1).trans (en rfl (en rfl s1))
    have s2 := (hg 2).trans (en rfl (en rfl s2))
    have s6 := (hg 6).trans (en rfl (en rfl s6))
    have s7 := (hg 7).trans (en rfl (en rfl s7))
    have s8 := (hg 8).trans es
    have s23 := (hg 23).trans (en rfl (en rfl s23))
    have s30 := (hg 30).trans (en rfl (en rfl s30))
    have s31 := (hg 31).trans (en rfl (en rfl s31))
    have s32 := (hg 32).trans (en rfl (en rfl s32))
    clear hg
    refine xc_seq (fun K hK12 => ?_)
    refine xc_region ?_
    refine x_val (r_move s0) (nd_of rfl) rfl ?_
    refine x_val (r_move (en rfl s8)) (nd_of rfl) rfl ?_
    refine x_val (r_indexAny Try.underlying22 Try.sizeOf28 (en rfl es) es (by omega) (by omega)) (nd_of rfl) rfl ?_
    refine x_val (r_fieldAddrA Try.underlying28 rfl Try.sizeOf26 rfl es) (nd_of rfl) rfl ?_
    refine x_val (r_loadCell Try.isAgg26 es (h.oldCell 1 rfl c3)) (nd_of rfl) rfl ?_
    refine x_val (r_len Try.underlying26 es) (nd_of rfl) rfl ?_
    refine x_val (r_leq es ec rfl) (nd_of rfl) rfl ?_
    refine xw_nil ?_
    refine hK12 _ _ ?_
    refine xc_gen (fun g hg => ?_)
    have s0 := (hg 0).trans (en rfl (en rfl (en rfl (en rfl (en rfl (en rfl (en rfl s0)))))))
    have s1 := (hg 1).trans (en rfl (en rfl (en rfl (en rfl (en rfl (en rfl (en rfl s1)))))))
    have s2 := (hg 2).trans (en rfl (en rfl (en rfl (en rfl (en rfl (en rfl (en rfl s2)))))))
    have s6 := (hg 6).trans (en rfl (en rfl (en rfl (en rfl (en rfl (en rfl (en rfl s6)))))))
    have s7 := (hg 7).trans (en rfl (en rfl (en rfl (en rfl (en rfl (en rfl (en rfl s7)))))))
    have s8 := (hg 8).trans (en rfl (en rfl (en rfl (en rfl (en rfl (en rfl (en rfl s8)))))))
    have s23 := (hg 23).trans (en rfl (en rfl (en rfl (en rfl (en rfl (en rfl (en rfl s23)))))))
    have s30 := (hg 30).trans (en rfl (en rfl (en rfl (en rfl (en rfl (en rfl (en rfl s30)))))))
    have s31 := (hg 31).trans (en rfl (en rfl (en rfl (en rfl (en rfl (en rfl (en rfl s31)))))))
    have s32 := (hg 32).trans (en rfl (en rfl (en rfl (en rfl (en rfl (en rfl (en rfl s32)))))))
    have s40 := (hg 40).trans es
    clear hg
    refine xc_cond s40 (fun hc => ?_) (fun hc => ?_)
    ·
      have hle : o.ls.length ≤ 100 := by have := of_decide_eq_true hc; omega
      refine xc_plan 16 [(0, 2), (1, 2), (2, 2), (3, 2), (4, 2), (5, 1), (6, 2), (7, 2), (8, 2), (9, 2), (10, 1), (11, 2), (12, 2), (13, 2), (14, 2), (15, 1), (16, 0)] (by kernel_rfl) rfl (by kernel_rfl) h ?_
      have h := h.drew
      refine xp_read (i := 0) rfl (fun W => r_move s7) rfl (fun _ _ _ hh => by first | exact bodyR_np hh | exact bodyY_np hh | exact hh) ?_
      refine xp_read (i := 1) rfl (fun W => r_move (en rfl s0)) rfl (fun _ _ _ hh => by first | exact bodyR_np hh | exact bodyY_np hh | exact hh) ?_
      refine xp_read (i := 2) rfl (fun W => r_move (en rfl (en rfl s8))) rfl (fun _ _ _ hh => by first | exact bodyR_np hh | exact bodyY_np hh | exact hh) ?_
      refine xp_read (i := 3) rfl (fun W => r_indexAny Try.underlying22 Try.sizeOf28 (en rfl es) es (by omega) (by omega)) rfl (fun _ _ _ hh => by first | exact bodyR_np hh | exact bodyY_np hh | exact hh) ?_
      refine xp_read (i := 4) rfl (fun W => r_fieldAddrA Try.underlying28 rfl Try.sizeOf3 rfl es) rfl (fun _ _ _ hh => by first | exact bodyR_np hh | exact bodyY_np hh | exact hh) ?_
      refine xp_load (i := 5) rfl (fun W hW => r_loadCell Try.isAgg3 es (hW.oldCell 1 rfl (hcell 1 _ rfl))) rfl (fun _ _ _ hh => by first | exact bodyR_np hh | exact bodyY_np hh | exact hh) ?_
      refine xp_read (i := 6) rfl (fun W => r_move (en rfl (en rfl (en rfl (en rfl (en rfl (en rfl s0))))))) rfl (fun _ _ _ hh => by first | exact bodyR_np hh | exact bodyY_np hh | exact hh) ?_
      refine xp_read (i := 7) rfl (fun W => r_move (en rfl (en rfl (en rfl (en rfl (en rfl (en rfl (en rfl s8)))))))) rfl (fun _ _ _ hh => by first | exact bodyR_np hh | exact bodyY_np hh | exact hh) ?_
      refine xp_read (i := 8) rfl (fun W => r_indexAny Try.underlying22 Try.sizeOf28 (en rfl es) es (by omega) (by omega)) rfl (fun _ _ _ hh => by first | exact bodyR_np hh | exact bodyY_np hh | exact hh) ?_
      refine xp_read (i := 9) rfl (fun W => r_fieldAddrA Try.underlying28 rfl Try.sizeOf3 rfl es) rfl (fun _ _ _ hh => by first | exact bodyR_np hh | exact bodyY_np hh | exact hh) ?_
      refine xp_load (i := 10) rfl (fun W hW => r_loadCell Try.isAgg3 es (hW.oldCell 1 rfl (hcell 2 _ rfl))) rfl (fun _ _ _ hh => by first | exact bodyR_np hh | exact bodyY_np hh | exact hh) ?_
      refine xp_read (i := 11) rfl (fun W => r_move (en rfl (en rfl (en rfl (en rfl (en rfl (en rfl (en rfl (en rfl (en rfl (en rfl (en rfl s0)))))))))))) rfl (fun _ _ _ hh => by first | exact bodyR_np hh | exact bodyY_np hh | exact hh) ?_
      refine xp_read (i := 12) rfl (fun W => r_move (en rfl (en rfl (en rfl (en rfl (en rfl (en rfl (en rfl (en rfl (en rfl (en rfl (en rfl (en rfl s8))))))))))))) rfl (fun _ _ _ hh => by first | exact bodyR_np hh | exact bodyY_np hh | exact hh) ?_
      refine xp_read (i := 13) rfl (fun W => r_indexAny Try.underlying22 Try.sizeOf28 (en rfl es) es (by omega) (by omega)) rfl (fun _ _ _ hh => by first | exact bodyR_np hh | exact bodyY_np hh | exact hh) ?_
      refine xp_read (i := 14) rfl (fun W => r_fieldAddrA Try.underlying28 rfl Try.sizeOf26 rfl es) rfl (fun _ _ _ hh => by first | exact bodyR_np hh | exact bodyY_np hh | exact hh) ?_
      refine xp_load (i := 15) rfl (fun W hW => r_loadCell Try.isAgg26 es (hW.oldCell 1 rfl c3)) rfl (fun _ _ _ hh => by first | exact bodyR_np hh | exact bodyY_np hh | exact hh) ?_
      refine xp_enter (i := 16) rfl (r_call Try.call10 (.cons (en rfl (en rfl (en rfl (en rfl (en rfl (en rfl (en rfl (en rfl (en rfl (en rfl (en rfl (en rfl (en rfl (en rfl (en rfl es))))))))))))))) (.cons (en rfl (en rfl (en rfl (en rfl (en rfl (en rfl (en rfl (en rfl (en rfl (en rfl es)))))))))) (.cons (en rfl (en rfl (en rfl (en rfl (en rfl es))))) (.cons es .nil))))) rfl (splice_o (B' := 104 * (n + 1)) (hlv ▸ hwf.sp.rslc 0 rfl) hins (fun p hp => (hwf.sp.wf p hp).1) (by omega) (by omega) (by omega) h) ?_
      rintro _ w ⟨rfl, h⟩
      refine ⟨(fun hh => absurd rfl hh), ?_⟩
      refine xp_nil ?_
      refine hK10 _ _ ?_
      refine xc_gen (fun g hg => ?_)
      have s0 := (hg 0).trans (en rfl (en rfl (en rfl (en rfl (en rfl (en rfl (en rfl (en rfl (en rfl (en rfl (en rfl (en rfl (en rfl (en rfl (en rfl (en rfl (en rfl s0)))))))))))))))))
      have s1 := (hg 1).trans (en rfl (en rfl (en rfl (en rfl (en rfl (en rfl (en rfl (en rfl (en rfl (en rfl (en rfl (en rfl (en rfl (en rfl (en rfl (en rfl (en rfl s1)))))))))))))))))
      have s2 := (hg 2).trans (en rfl (en rfl (en rfl (en rfl (en rfl (en rfl (en rfl (en rfl (en rfl (en rfl (en rfl (en rfl (en rfl (en rfl (en rfl (en rfl (en rfl s2)))))))))))))))))
      have s6 := (hg 6).trans (en rfl (en rfl (en rfl (en rfl (en rfl (en rfl (en rfl (en rfl (en rfl (en rfl (en rfl (en rfl (en rfl (en rfl (en rfl (en rfl (en rfl s6)))))))))))))))))
      have s7 := (hg 7).trans (en rfl (en rfl (en rfl (en rfl (en rfl (en rfl (en rfl (en rfl (en rfl (en rfl (en rfl (en rfl (en rfl (en rfl (en rfl (en rfl (en rfl s7)))))))))))))))))
      have s8 := (hg 8).trans (en rfl (en rfl (en rfl (en rfl (en rfl (en rfl (en rfl (en rfl (en rfl (en rfl (en rfl (en rfl (en rfl (en rfl (en rfl (en rfl (en rfl s8)))))))))))))))))
      have s23 := (hg 23).trans (en rfl (en rfl (en rfl (en rfl (en rfl (en rfl (en rfl (en rfl (en rfl (en rfl (en rfl (en rfl (en rfl (en rfl (en rfl (en rfl (en rfl s23)))))))))))))))))
      have s30 := (hg 30).trans (en rfl (en rfl (en rfl (en rfl (en rfl (en rfl (en rfl (en rfl (en rfl (en rfl (en rfl (en rfl (en rfl (en rfl (en rfl (en rfl (en rfl s30)))))))))))))))))
      have s31 := (hg 31).trans (en rfl (en rfl (en rfl (en rfl (en rfl (en rfl (en rfl (en rfl (en rfl (en rfl (en rfl (en rfl (en rfl (en rfl (en rfl (en rfl (en rfl s31)))))))))))))))))
      have s32 := (hg 32).trans (en rfl (en rfl (en rfl (en rfl (en rfl (en rfl (en rfl (en rfl (en rfl (en rfl (en rfl (en rfl (en rfl (en rfl (en rfl (en rfl (en rfl s32)))))))))))))))))
      have s40 := (hg 40).trans (en rfl (en rfl (en rfl (en rfl (en rfl (en rfl (en rfl (en rfl (en rfl (en rfl (en rfl (en rfl (en rfl (en rfl (en rfl (en rfl (en rfl s40)))))))))))))))))
      clear hg
      refine xc_region ?_
      refine x_val (r_add s31 ec (show _ = (((k + 1 : Nat) : Int) : Int) from by omega) (by unfold I64; omega)) (nd_of rfl) rfl ?_
      refine x_val (r_move es) (nd_of rfl) rfl ?_
      refine xw_nil ?_
      exact ⟨os.length - (k + 1), by omega, ⟨k + 1, n + 1, _, rfl, by omega, by omega, hinv.splice hwf.sp.wf hle, es, h⟩, ⟨((en rfl (en rfl s0))).trans zG7_0.symm, ((en rfl (en rfl s1))).trans zG7_1.symm, ((en rfl (en rfl s2))).trans zG7_2.symm, ((en rfl (en rfl s6))).trans zG7_6.symm, ((en rfl (en rfl s7))).trans zG7_7.symm, ((en rfl (en rfl s23))).trans zG7_23.symm, ((en rfl (en rfl s30))).trans zG7_30.symm⟩⟩
    ·
      refine xc_skip ?_
      refine hK10 _ _ ?_
      refine xc_region ?_
      refine x_val (r_add s31 ec (show _ = (((k + 1 : Nat) : Int) : Int) from by omega) (by unfold I64; omega)) (nd_of rfl) rfl ?_
      refine x_val (r_move es) (nd_of rfl) rfl ?_
      refine xw_nil ?_
      exact ⟨os.length - (k + 1), by omega, ⟨k + 1, n, xs, rfl, by omega, by omega, hinv, es, h⟩, ⟨((en rfl (en rfl s0))).trans zG7_0.symm, ((en rfl (en rfl s1))).trans zG7_1.symm, ((en rfl (en rfl s2))).trans zG7_2.symm, ((en rfl (en rfl s6))).trans zG7_6.symm, ((en rfl (en rfl s7))).trans zG7_7.symm, ((en rfl (en rfl s23))).trans zG7_23.symm, ((en rfl (en rfl s30))).trans zG7_30.symm⟩⟩
  ·
    rcases Decidable.em (isPart (sz xs) i j) with hp | hp
    ·
      skip
      refine xc_exit ?_
      refine hK5 _ _ ?_
      refine xc_seq (fun K hK13 => ?_)
      obtain ⟨h0, h1, h2⟩ := hp
      obtain ⟨ni, rfl⟩ := Int.eq_ofNat_of_zero_le h0
      obtain ⟨nj, rfl⟩ := Int.eq_ofNat_of_zero_le (Int.le_trans h0 h1)
      have hins := hinv.size
      have hbd := h.objFacts.2.1.1
      have hol := over_len xs ni nj
      have hso := sz_over (xs := xs) (i := ni) (j := nj) (by omega)
      obtain ⟨PL, ePL⟩ : ∃ PL, PL = overL xs ni nj := ⟨_, rfl⟩
      refine xc_region ?_
      refine x_val (r_move s7) (nd_of rfl) rfl ?_
      refine x_val (r_move (en rfl s1)) (nd_of rfl) rfl ?_
      refine x_val (r_move (en rfl (en rfl s2))) (nd_of rfl) rfl ?_
      refine x_enter (r_call Try.call11 (.cons (en rfl (en rfl es)) (.cons (en rfl es) (.cons es .nil)))) (nd_of rfl) rfl (over_o (i := ni) (j := nj) (by omega) (by omega) h) ?_
      rintro _ w ⟨v, rfl, h⟩
      rw [← ePL] at h hso hol
      obtain ⟨av, cv, rfl, _, _⟩ := h.rowVal
      refine x_val (r_move es) (nd_of rfl) rfl ?_
      refine x_val (r_extract es gc0) (nd_of rfl) rfl ?_
      refine x_val (r_extract (en rfl es) gc1) (nd_of rfl) rfl ?_
      refine x_val (r_assign (en rfl es)) (nd_of rfl) rfl ?_
      refine x_val (r_assign (en rfl es)) (nd_of rfl) rfl ?_
      refine xw_nil ?_
      refine hK13 _ _ ?_
      refine xc_gen (fun g hg => ?_)
      have s0 := (hg 0).trans (en rfl (en rfl (en rfl (en rfl (en rfl (en rfl (en rfl (en rfl (en rfl s0)))))))))
      have s1 := (hg 1).trans (en rfl (en rfl (en rfl (en rfl (en rfl (en rfl (en rfl (en rfl (en rfl s1)))))))))
      have s2 := (hg 2).trans (en rfl (en rfl (en rfl (en rfl (en rfl (en rfl (en rfl (en rfl (en rfl s2)))))))))
      have s6 := (hg 6).trans (en rfl (en rfl (en rfl (en rfl (en rfl (en rfl (en rfl (en rfl (en rfl s6)))))))))
      have s7 := (hg 7).trans (en rfl (en rfl (en rfl (en rfl (en rfl (en rfl (en rfl (en rfl (en rfl s7)))))))))
      have s9 := (hg 9).trans (en rfl es)
      have s10 := (hg 10).trans es
      have s23 := (hg 23).trans (en rfl (en rfl (en rfl (en rfl (en rfl (en rfl (en rfl (en rfl (en rfl s23)))))))))
      have s30 := (hg 30).trans (en rfl (en rfl (en rfl (en rfl (en rfl (en rfl (en rfl (en rfl (en rfl s30)))))))))
      have s31 := (hg 31).trans (en rfl (en rfl (en rfl (en rfl (en rfl (en rfl (en rfl (en rfl (en rfl s31)))))))))
      have s32 := (hg 32).trans (en rfl (en rfl (en rfl (en rfl (en rfl (en rfl (en rfl (en rfl (en rfl s32)))))))))
      clear hg
      refine xc_seq (fun K hK14 => ?_)
      refine xc_seq (fun K hK15 => ?_)
      refine xc_region ?_
      refine x_val (r_move s10) (nd_of rfl) rfl ?_
      refine x_val (r_neq es ec (r := false) rfl) (nd_of rfl) rfl ?_
      refine x_val (r_move es) (nd_of rfl) rfl ?_
      refine x_take (d := 68) rfl rfl es ?_
      refine x_val (r_move (en rfl (en rfl (en rfl s2)))) (nd_of rfl) rfl ?_
      refine x_take (d := 68) rfl rfl (en rfl es) ?_
      refine x_val (r_move (en rfl (en rfl (en rfl (en rfl s1))))) (nd_of rfl) rfl ?_
      refine x_take (d := 68) rfl rfl (en rfl (en rfl es)) ?_
      refine x_val (r_sub (en rfl es) es rfl (by unfold I64; omega)) (nd_of rfl) rfl ?_
      refine x_take (d := 68) rfl rfl (en rfl (en rfl (en rfl es))) ?_
      refine x_val (r_gtr es ec rfl) (nd_of rfl) rfl ?_
      refine x_val (r_pick_f (en rfl (en rfl (en rfl (en rfl es)))) es) (nd_of rfl) rfl ?_
      refine xw_nil ?_
      refine hK15 _ _ ?_
      refine xc_gen (fun g hg => ?_)
      have s0 := (hg 0).trans (en rfl (en rfl (en rfl (en rfl (en rfl (en rfl (en rfl (en rfl s0))))))))
      have s1 := (hg 1).trans (en rfl (en rfl (en rfl (en rfl (en rfl (en rfl (en rfl (en rfl s1))))))))
      have s2 := (hg 2).trans (en rfl (en rfl (en rfl (en rfl (en rfl (en rfl (en rfl (en rfl s2))))))))
      have s6 := (hg 6).trans (en rfl (en rfl (en rfl (en rfl (en rfl (en rfl (en rfl (en rfl s6))))))))
      have s7 := (hg 7).trans (en rfl (en rfl (en rfl (en rfl (en rfl (en rfl (en rfl (en rfl s7))))))))
      have s9 := (hg 9).trans (en rfl (en rfl (en rfl (en rfl (en rfl (en rfl (en rfl (en rfl s9))))))))
      have s10 := (hg 10).trans (en rfl (en rfl (en rfl (en rfl (en rfl (en rfl (en rfl (en rfl s10))))))))
      have s23 := (hg 23).trans (en rfl (en rfl (en rfl (en rfl (en rfl (en rfl (en rfl (en rfl s23))))))))
      have s30 := (hg 30).trans (en rfl (en rfl (en rfl (en rfl (en rfl (en rfl (en rfl (en rfl s30))))))))
      have s31 := (hg 31).trans (en rfl (en rfl (en rfl (en rfl (en rfl (en rfl (en rfl (en rfl s31))))))))
      have s32 := (hg 32).trans (en rfl (en rfl (en rfl (en rfl (en rfl (en rfl (en rfl (en rfl s32))))))))
      have s73 := (hg 73).trans es
      clear hg
      refine xc_cond s73 (fun hc => ?_) (fun hc => ?_)
      ·
        refine xc_seq (fun K hK16 => ?_)
        refine xc_region ?_
        refine x_enter (r_call Try.call9 .nil) (nd_of rfl) rfl (known_ok h) ?_
        rintro _ w ⟨rfl, h⟩
        refine x_val (r_assign es) (nd_of rfl) rfl ?_
        refine xw_nil ?_
        refine hK16 _ _ ?_
        refine xc_gen (fun g hg => ?_)
        have s0 := (hg 0).trans (en rfl (en rfl s0))
        have s1 := (hg 1).trans (en rfl (en rfl s1))
        have s2 := (hg 2).trans (en rfl (en rfl s2))
        have s6 := (hg 6).trans es
        have s7 := (hg 7).trans (en rfl (en rfl s7))
        have s9 := (hg 9).trans (en rfl (en rfl s9))
        have s10 := (hg 10).trans (en rfl (en rfl s10))
        have s23 := (hg 23).trans (en rfl (en rfl s23))
        have s30 := (hg 30).trans (en rfl (en rfl s30))
        have s31 := (hg 31).trans (en rfl (en rfl s31))
        have s32 := (hg 32).trans (en rfl (en rfl s32))
        have s73 := (hg 73).trans (en rfl (en rfl s73))
        clear hg
        refine xc_ret ?_
        refine bodyR_1 rfl s6 ?_
        exact ⟨rfl, h.drop.drop⟩
      ·
        refine xc_skip ?_
        refine hK14 _ _ ?_
        refine xc_seq (fun K hK17 => ?_)
        have hd3 := of_decide_eq_false hc
        refine xc_region ?_
        refine x_val (r_move s1) (nd_of rfl) rfl ?_
        refine x_val (r_assign es) (nd_of rfl) rfl ?_
        refine xw_nil ?_
        refine hK17 _ _ ?_
        refine xc_gen (fun g hg => ?_)
        have s0 := (hg 0).trans (en rfl (en rfl s0))
        have s1 := (hg 1).trans (en rfl (en rfl s1))
        have s2 := (hg 2).trans (en rfl (en rfl s2))
        have s6 := (hg 6).trans (en rfl (en rfl s6))
        have s7 := (hg 7).trans (en rfl (en rfl s7))
        have s9 := (hg 9).trans (en rfl (en rfl s9))
        have s10 := (hg 10).trans (en rfl (en rfl s10))
        have s11 := (hg 11).trans es
        have s23 := (hg 23).trans (en rfl (en rfl s23))
        have s30 := (hg 30).trans (en rfl (en rfl s30))
        have s31 := (hg 31).trans (en rfl (en rfl s31))
        have s32 := (hg 32).trans (en rfl (en rfl s32))
        have s73 := (hg 73).trans (en rfl (en rfl s73))
        clear hg
        refine xc_seq (fun K hK18 => ?_)
        refine xc_seq (fun K hK19 => ?_)
        refine xc_region ?_
        refine x_val (r_move s9) (nd_of rfl) rfl ?_
        refine x_val (r_len Try.underlying26 es) (nd_of rfl) rfl ?_
        refine x_val (r_move ec) (nd_of rfl) rfl ?_
        refine xw_nil ?_
        refine hK19 _ _ ?_
        refine xc_gen (fun g hg => ?_)
        have s0 := (hg 0).trans (en rfl (en rfl (en rfl s0)))
        have s1 := (hg 1).trans (en rfl (en rfl (en rfl s1)))
        have s2 := (hg 2).trans (en rfl (en rfl (en rfl s2)))
        have s6 := (hg 6).trans (en rfl (en rfl (en rfl s6)))
        have s7 := (hg 7).trans (en rfl (en rfl (en rfl s7)))
        have s9 := (hg 9).trans (en rfl (en rfl (en rfl s9)))
        have s10 := (hg 10).trans (en rfl (en rfl (en rfl s10)))
        have s11 := (hg 11).trans (en rfl (en rfl (en rfl s11)))
        have s23 := (hg 23).trans (en rfl (en rfl (en rfl s23)))
        have s30 := (hg 30).trans (en rfl (en rfl (en rfl s30)))
        have s31 := (hg 31).trans (en rfl (en rfl (en rfl s31)))
        have s32 := (hg 32).trans (en rfl (en rfl (en rfl s32)))
        have s73 := (hg 73).trans (en rfl (en rfl (en rfl s73)))
        have s76 := (hg 76).trans (en rfl (en rfl es))
        have s77 := (hg 77).trans (en rfl es)
        have s78 := (hg 78).trans es
        clear hg
        refine xc_block ?_
        obtain ⟨G20, hG20⟩ : ∃ g0 : Nat → Value, g0 = g := ⟨_, rfl⟩
        have zG20_0 : G20 0 = _ := (congrFun hG20 0).trans s0
        have zG20_1 : G20 1 = _ := (congrFun hG20 1).trans s1
        have zG20_2 : G20 2 = _ := (congrFun hG20 2).trans s2
        have zG20_7 : G20 7 = _ := (congrFun hG20 7).trans s7
        have zG20_9 : G20 9 = _ := (congrFun hG20 9).trans s9
        have zG20_10 : G20 10 = _ := (congrFun hG20 10).trans s10
        have zG20_23 : G20 23 = _ := (congrFun hG20 23).trans s23
        have zG20_30 : G20 30 = _ := (congrFun hG20 30).trans s30
        have zG20_31 : G20 31 = _ := (congrFun hG20 31).trans s31
        have zG20_32 : G20 32 = _ := (congrFun hG20 32).trans s32
        have zG20_73 : G20 73 = _ := (congrFun hG20 73).trans s73
        have zG20_76 : G20 76 = _ := (congrFun hG20 76).trans s76
        have zG20_77 : G20 77 = _ := (congrFun hG20 77).trans s77
        refine xc_loop (fun m f w => (∃ k : Nat, m = PL.length - k ∧ k ≤ PL.length ∧ f 78 = .int .i64 (k : Int) ∧ f 11 = .int .i64 ((ni + sz (PL.take k) : Nat) : Int) ∧ SatL E w (XRow (.slice av PL.length cv) PL :: ObjO b xs (104 * n) :: Old W :: R)) ∧ (f 0 = G20 0 ∧ f 1 = G20 1 ∧ f 2 = G20 2 ∧ f 7 = G20 7 ∧ f 9 = G20 9 ∧ f 10 = G20 10 ∧ f 23 = G20 23 ∧ f 30 = G20 30 ∧ f 31 = G20 31 ∧ f 32 = G20 32 ∧ f 73 = G20 73 ∧ f 76 = G20 76 ∧ f 77 = G20 77)) (PL.length) ⟨⟨0, by omega, by omega, s78, by simpa [sz] using s11, h⟩, ⟨congrFun hG20.symm 0, congrFun hG20.symm 1, congrFun hG20.symm 2, congrFun hG20.symm 7, congrFun hG20.symm 9, congrFun hG20.symm 10, congrFun hG20.symm 23, congrFun hG20.symm 30, congrFun hG20.symm 31, congrFun hG20.symm 32, congrFun hG20.symm 73, congrFun hG20.symm 76, congrFun hG20.symm 77⟩⟩ ?_
        rintro m g w ⟨⟨k, hm, hk, s78, s11, h⟩, ⟨y0, y1, y2, y7, y9, y10, y23, y30, y31, y32, y73, y76, y77⟩⟩
        have s0 := y0.trans zG20_0
        have s1 := y1.trans zG20_1
        have s2 := y2.trans zG20_2
        have s7 := y7.trans zG20_7
        have s9 := y9.trans zG20_9
        have s10 := y10.trans zG20_10
        have s23 := y23.trans zG20_23
        have s30 := y30.trans zG20_30
        have s31 := y31.trans zG20_31
        have s32 := y32.trans zG20_32
        have s73 := y73.trans zG20_73
        have s76 := y76.trans zG20_76
        have s77 := y77.trans zG20_77
        refine xc_seq (fun K hK21 => ?_)
        refine xc_region ?_
        refine x_val (r_lss s78 s77 rfl) (nd_of rfl) rfl ?_
        refine xw_nil ?_
        refine hK21 _ _ ?_
        refine xc_gen (fun g hg => ?_)
        have s0 := (hg 0).trans (en rfl s0)
        have s1 := (hg 1).trans (en rfl s1)
        have s2 := (hg 2).trans (en rfl s2)
        have s7 := (hg 7).trans (en rfl s7)
        have s9 := (hg 9).trans (en rfl s9)
        have s10 := (hg 10).trans (en rfl s10)
        have s11 := (hg 11).trans (en rfl s11)
        have s23 := (hg 23).trans (en rfl s23)
        have s30 := (hg 30).trans (en rfl s30)
        have s31 := (hg 31).trans (en rfl s31)
        have s32 := (hg 32).trans (en rfl s32)
        have s73 := (hg 73).trans (en rfl s73)
        have s76 := (hg 76).trans (en rfl s76)
        have s77 := (hg 77).trans (en rfl s77)
        have s78 := (hg 78).trans (en rfl s78)
        have s79 := (hg 79).trans es
        clear hg
        refine xc_seq (fun K hK22 => ?_)
        refine xc_cond s79 (fun hc => ?_) (fun hc => ?_)
        ·
          refine xc_skip ?_
          refine hK22 _ _ ?_
          refine xc_seq (fun K hK23 => ?_)
          refine xc_block ?_
          refine xc_seq (fun K hK24 => ?_)
          have hkl : k < PL.length := by have := of_decide_eq_true hc; omega
          obtain ⟨x, hx⟩ : ∃ x, PL[k]? = some x := ⟨_, List.getElem?_eq_getElem hkl⟩
          have hst := sz_take_succ hx
          have hsg := sz_take PL (k + 1)
          have hxo : ∀ y ∈ PL, xOk y := fun y hy => by obtain ⟨q, hq, hyq⟩ := List.mem_iff_getElem.1 hy; have e3 := sz_get (l := PL) (k := q) (x := y) (by rw [List.getElem?_eq_getElem hq, hyq]); have e4 : xS y = y.1 := rfl; unfold xOk; omega
          have hox := (hxo x (List.mem_of_getElem? hx)).cells
          obtain ⟨gm, cm, curm, hrm, hh⟩ := h.openRow (by omega)
          have hvm := hrm.val
          simp only [Value.slice.injEq] at hvm
          obtain ⟨ham, _, _⟩ := hvm
          have hth := hrm.thing hxo hx
          have h := hh
          refine xc_region ?_
          refine x_val (r_indexAddrN Try.underlying26 Try.sizeOf34 (s76 |>.trans (by rw [ham])) s78 hkl) (nd_of rfl) rfl ?_
          refine x_val (r_loadAgg h 0 rfl Try.isAgg34 Try.sizeOf34 es hth.1 hth.2) (nd_of rfl) rfl ?_
          refine x_declA h Try.zeroValue34 Try.sizeOf34 rfl (en rfl es) (by first | assumption | exact Ok.node (by assumption) | exact xOk.cells (by assumption) | exact ChOk.ok (by assumption)) rfl ?_
          intro b13 w h
          refine xw_nil ?_
          refine hK24 _ _ ?_
          refine xc_gen (fun g hg => ?_)
          have s0 := (hg 0).trans (en rfl (en rfl (en rfl s0)))
          have s1 := (hg 1).trans (en rfl (en rfl (en rfl s1)))
          have s2 := (hg 2).trans (en rfl (en rfl (en rfl s2)))
          have s7 := (hg 7).trans (en rfl (en rfl (en rfl s7)))
          have s9 := (hg 9).trans (en rfl (en rfl (en rfl s9)))
          have s10 := (hg 10).trans (en rfl (en rfl (en rfl s10)))
          have s11 := (hg 11).trans (en rfl (en rfl (en rfl s11)))
          have s13 := (hg 13).trans es
          have s23 := (hg 23).trans (en rfl (en rfl (en rfl s23)))
          have s30 := (hg 30).trans (en rfl (en rfl (en rfl s30)))
          have s31 := (hg 31).trans (en rfl (en rfl (en rfl s31)))
          have s32 := (hg 32).trans (en rfl (en rfl (en rfl s32)))
          have s73 := (hg 73).trans (en rfl (en rfl (en rfl s73)))
          have s76 := (hg 76).trans (en rfl (en rfl (en rfl s76)))
          have s77 := (hg 77).trans (en rfl (en rfl (en rfl s77)))
          have s78 := (hg 78).trans (en rfl (en rfl (en rfl s78)))
          have s79 := (hg 79).trans (en rfl (en rfl (en rfl s79)))
          clear hg
          refine xc_seq (fun K hK25 => ?_)
          have h := (h.f1.closeRow hrm)
          have h := h.f2
          have h := h.f1
          have h := h.f2
          have h : SatL E w (Cells b13 #[.int .i64 (x.1 : Int), .int .i64 x.2] 34 :: XRow (.slice av PL.length cv) PL :: ObjO b xs (104 * n) :: Old W :: R) := h
          refine xc_region ?_
          refine x_val (r_fieldAddr (o' := 0) Try.underlying34 rfl Try.sizeOf3 rfl s13 rfl) (nd_of rfl) rfl ?_
          refine x_val (r_load h 0 rfl Try.isAgg3 es gc0) (nd_of rfl) rfl ?_
          refine x_val (r_move ec) (nd_of rfl) rfl ?_
          refine xw_nil ?_
          refine hK25 _ _ ?_
          refine xc_gen (fun g hg => ?_)
          have s0 := (hg 0).trans (en rfl (en rfl (en rfl s0)))
          have s1 := (hg 1).trans (en rfl (en rfl (en rfl s1)))
          have s2 := (hg 2).trans (en rfl (en rfl (en rfl s2)))
          have s7 := (hg 7).trans (en rfl (en rfl (en rfl s7)))
          have s9 := (hg 9).trans (en rfl (en rfl (en rfl s9)))
          have s10 := (hg 10).trans (en rfl (en rfl (en rfl s10)))
          have s11 := (hg 11).trans (en rfl (en rfl (en rfl s11)))
          have s13 := (hg 13).trans (en rfl (en rfl (en rfl s13)))
          have s23 := (hg 23).trans (en rfl (en rfl (en rfl s23)))
          have s30 := (hg 30).trans (en rfl (en rfl (en rfl s30)))
          have s31 := (hg 31).trans (en rfl (en rfl (en rfl s31)))
          have s32 := (hg 32).trans (en rfl (en rfl (en rfl s32)))
          have s73 := (hg 73).trans (en rfl (en rfl (en rfl s73)))
          have s76 := (hg 76).trans (en rfl (en rfl (en rfl s76)))
          have s77 := (hg 77).trans (en rfl (en rfl (en rfl s77)))
          have s78 := (hg 78).trans (en rfl (en rfl (en rfl s78)))
          have s79 := (hg 79).trans (en rfl (en rfl (en rfl s79)))
          have s83 := (hg 83).trans (en rfl es)
          have s84 := (hg 84).trans es
          clear hg
          refine xc_block ?_
          obtain ⟨G26, hG26⟩ : ∃ g0 : Nat → Value, g0 = g := ⟨_, rfl⟩
          have zG26_0 : G26 0 = _ := (congrFun hG26 0).trans s0
          have zG26_1 : G26 1 = _ := (congrFun hG26 1).trans s1
          have zG26_2 : G26 2 = _ := (congrFun hG26 2).trans s2
          have zG26_7 : G26 7 = _ := (congrFun hG26 7).trans s7
          have zG26_9 : G26 9 = _ := (congrFun hG26 9).trans s9
          have zG26_10 : G26 10 = _ := (congrFun hG26 10).trans s10
          have zG26_13 : G26 13 = _ := (congrFun hG26 13).trans s13
          have zG26_23 : G26 23 = _ := (congrFun hG26 23).trans s23
          have zG26_30 : G26 30 = _ := (congrFun hG26 30).trans s30
          have zG26_31 : G26 31 = _ := (congrFun hG26 31).trans s31
          have zG26_32 : G26 32 = _ := (congrFun hG26 32).trans s32
          have zG26_73 : G26 73 = _ := (congrFun hG26 73).trans s73
          have zG26_76 : G26 76 = _ := (congrFun hG26 76).trans s76
          have zG26_77 : G26 77 = _ := (congrFun hG26 77).trans s77
          have zG26_78 : G26 78 = _ := (congrFun hG26 78).trans s78
          have zG26_79 : G26 79 = _ := (congrFun hG26 79).trans s79
          have zG26_83 : G26 83 = _ := (congrFun hG26 83).trans s83
          refine xc_loop (fun m f w => (∃ c : Nat, m = x.1 - c ∧ c ≤ x.1 ∧ f 84 = .int .i64 (c : Int) ∧ f 11 = .int .i64 ((ni + sz (PL.take k) + c : Nat) : Int) ∧ SatL E w (Cells b13 #[.int .i64 (x.1 : Int), .int .i64 x.2] 34 :: XRow (.slice av PL.length cv) PL :: ObjO b xs (104 * n) :: Old W :: R)) ∧ (f 0 = G26 0 ∧ f 1 = G26 1 ∧ f 2 = G26 2 ∧ f 7 = G26 7 ∧ f 9 = G26 9 ∧ f 10 = G26 10 ∧ f 13 = G26 13 ∧ f 23 = G26 23 ∧ f 30 = G26 30 ∧ f 31 = G26 31 ∧ f 32 = G26 32 ∧ f 73 = G26 73 ∧ f 76 = G26 76 ∧ f 77 = G26 77 ∧ f 78 = G26 78 ∧ f 79 = G26 79 ∧ f 83 = G26 83)) (x.1) ⟨⟨0, by omega, by omega, s84, s11, h⟩, ⟨congrFun hG26.symm 0, congrFun hG26.symm 1, congrFun hG26.symm 2, congrFun hG26.symm 7, congrFun hG26.symm 9, congrFun hG26.symm 10, congrFun hG26.symm 13, congrFun hG26.symm 23, congrFun hG26.symm 30, congrFun hG26.symm 31, congrFun hG26.symm 32, congrFun hG26.symm 73, congrFun hG26.symm 76, congrFun hG26.symm 77, congrFun hG26.symm 78, congrFun hG26.symm 79, congrFun hG26.symm 83⟩⟩ ?_
          rintro m g w ⟨⟨c, hm2, hc2, s84, s11, h⟩, ⟨y0, y1, y2, y7, y9, y10, y13, y23, y30, y31, y32, y73, y76, y77, y78, y79, y83⟩⟩
          have s0 := y0.trans zG26_0
          have s1 := y1.trans zG26_1
          have s2 := y2.trans zG26_2
          have s7 := y7.trans zG26_7
          have s9 := y9.trans zG26_9
          have s10 := y10.trans zG26_10
          have s13 := y13.trans zG26_13
          have s23 := y23.trans zG26_23
          have s30 := y30.trans zG26_30
          have s31 := y31.trans zG26_31
          have s32 := y32.trans zG26_32
          have s73 := y73.trans zG26_73
          have s76 := y76.trans zG26_76
          have s77 := y77.trans zG26_77
          have s78 := y78.trans zG26_78
          have s79 := y79.trans zG26_79
          have s83 := y83.trans zG26_83
          refine xc_seq (fun K hK27 => ?_)
          refine xc_region ?_
          refine x_val (r_lss s84 s83 rfl) (nd_of rfl) rfl ?_
          refine xw_nil ?_
          refine hK27 _ _ ?_
          refine xc_gen (fun g hg => ?_)
          have s0 := (hg 0).trans (en rfl s0)
          have s1 := (hg 1).trans (en rfl s1)
          have s2 := (hg 2).trans (en rfl s2)
          have s7 := (hg 7).trans (en rfl s7)
          have s9 := (hg 9).trans (en rfl s9)
          have s10 := (hg 10).trans (en rfl s10)
          have s11 := (hg 11).trans (en rfl s11)
          have s13 := (hg 13).trans (en rfl s13)
          have s23 := (hg 23).trans (en rfl s23)
          have s30 := (hg 30).trans (en rfl s30)
          have s31 := (hg 31).trans (en rfl s31)
          have s32 := (hg 32).trans (en rfl s32)
          have s73 := (hg 73).trans (en rfl s73)
          have s76 := (hg 76).trans (en rfl s76)
          have s77 := (hg 77).trans (en rfl s77)
          have s78 := (hg 78).trans (en rfl s78)
          have s79 := (hg 79).trans (en rfl s79)
          have s83 := (hg 83).trans (en rfl s83)
          have s84 := (hg 84).trans (en rfl s84)
          have s85 := (hg 85).trans es
          clear hg
          refine xc_seq (fun K hK28 => ?_)
          refine xc_cond s85 (fun hc => ?_) (fun hc => ?_)
          ·
            refine xc_skip ?_
            refine hK28 _ _ ?_
            refine xc_seq (fun K hK29 => ?_)
            refine xc_block ?_
            refine xc_seq (fun K hK30 => ?_)
            have hcx : c < x.1 := by have := of_decide_eq_true hc; omega
            have hat : atV xs ((ni + sz (PL.take k) + c : Nat) : Int) = .tuple #[.int .i64 x.2, .int .i64 0] := by rw [ePL] at hx ⊢; exact at_over hx hcx (by omega)
            refine xc_region ?_
            refine x_val (r_move s7) (nd_of rfl) rfl ?_
            refine x_val (r_move (en rfl s11)) (nd_of rfl) rfl ?_
            have h := h.f2
            refine x_enter (r_call Try.call12 (.cons (en rfl es) (.cons es .nil))) (nd_of rfl) rfl (sat_eq hat (by unfold I64; omega) h) ?_
            rintro _ w ⟨rfl, h⟩
            refine x_val (r_move es) (nd_of rfl) rfl ?_
            refine x_val (r_extract es gc0) (nd_of rfl) rfl ?_
            refine x_val (r_extract (en rfl es) gc1) (nd_of rfl) rfl ?_
            refine x_val (r_assign (en rfl es)) (nd_of rfl) rfl ?_
            refine x_val (r_assign (en rfl es)) (nd_of rfl) rfl ?_
            refine xw_nil ?_
            refine hK30 _ _ ?_
            refine xc_gen (fun g hg => ?_)
            have s0 := (hg 0).trans (en rfl (en rfl (en rfl (en rfl (en rfl (en rfl (en rfl (en rfl s0))))))))
            have s1 := (hg 1).trans (en rfl (en rfl (en rfl (en rfl (en rfl (en rfl (en rfl (en rfl s1))))))))
            have s2 := (hg 2).trans (en rfl (en rfl (en rfl (en rfl (en rfl (en rfl (en rfl (en rfl s2))))))))
            have s7 := (hg 7).trans (en rfl (en rfl (en rfl (en rfl (en rfl (en rfl (en rfl (en rfl s7))))))))
            have s9 := (hg 9).trans (en rfl (en rfl (en rfl (en rfl (en rfl (en rfl (en rfl (en rfl s9))))))))
            have s10 := (hg 10).trans (en rfl (en rfl (en rfl (en rfl (en rfl (en rfl (en rfl (en rfl s10))))))))
            have s11 := (hg 11).trans (en rfl (en rfl (en rfl (en rfl (en rfl (en rfl (en rfl (en rfl s11))))))))
            have s13 := (hg 13).trans (en rfl (en rfl (en rfl (en rfl (en rfl (en rfl (en rfl (en rfl s13))))))))
            have s14 := (hg 14).trans (en rfl es)
            have s15 := (hg 15).trans es
            have s23 := (hg 23).trans (en rfl (en rfl (en rfl (en rfl (en rfl (en rfl (en rfl (en rfl s23))))))))
            have s30 := (hg 30).trans (en rfl (en rfl (en rfl (en rfl (en rfl (en rfl (en rfl (en rfl s30))))))))
            have s31 := (hg 31).trans (en rfl (en rfl (en rfl (en rfl (en rfl (en rfl (en rfl (en rfl s31))))))))
            have s32 := (hg 32).trans (en rfl (en rfl (en rfl (en rfl (en rfl (en rfl (en rfl (en rfl s32))))))))
            have s73 := (hg 73).trans (en rfl (en rfl (en rfl (en rfl (en rfl (en rfl (en rfl (en rfl s73))))))))
            have s76 := (hg 76).trans (en rfl (en rfl (en rfl (en rfl (en rfl (en rfl (en rfl (en rfl s76))))))))
            have s77 := (hg 77).trans (en rfl (en rfl (en rfl (en rfl (en rfl (en rfl (en rfl (en rfl s77))))))))
            have s78 := (hg 78).trans (en rfl (en rfl (en rfl (en rfl (en rfl (en rfl (en rfl (en rfl s78))))))))
            have s79 := (hg 79).trans (en rfl (en rfl (en rfl (en rfl (en rfl (en rfl (en rfl (en rfl s79))))))))
            have s83 := (hg 83).trans (en rfl (en rfl (en rfl (en rfl (en rfl (en rfl (en rfl (en rfl s83))))))))
            have s84 := (hg 84).trans (en rfl (en rfl (en rfl (en rfl (en rfl (en rfl (en rfl (en rfl s84))))))))
            have s85 := (hg 85).trans (en rfl (en rfl (en rfl (en rfl (en rfl (en rfl (en rfl (en rfl s85))))))))
            clear hg
            refine xc_seq (fun K hK31 => ?_)
            refine xc_seq (fun K hK32 => ?_)
            refine xc_region ?_
            refine x_val (r_move s15) (nd_of rfl) rfl ?_
            refine x_val (r_neq es ec (r := false) rfl) (nd_of rfl) rfl ?_
            refine x_val (r_move es) (nd_of rfl) rfl ?_
            refine x_take (d := 94) rfl rfl es ?_
            refine x_val (r_move (en rfl (en rfl (en rfl s14)))) (nd_of rfl) rfl ?_
            refine x_take (d := 94) rfl rfl (en rfl es) ?_
            refine x_val (r_fieldAddr (o' := 1) Try.underlying34 rfl Try.sizeOf3 rfl (en rfl (en rfl (en rfl (en rfl s13)))) rfl) (nd_of rfl) rfl ?_
            refine x_take (d := 94) rfl rfl (en rfl (en rfl es)) ?_
            refine x_val (r_load h 1 rfl Try.isAgg3 es gc1) (nd_of rfl) rfl ?_
            refine x_take (d := 94) rfl rfl (en rfl (en rfl (en rfl es))) ?_
            refine x_val (r_neq (en rfl (en rfl es)) es (decide_eq_false (by simp))) (nd_of rfl) rfl ?_
            refine x_val (r_pick_f (en rfl (en rfl (en rfl (en rfl es)))) es) (nd_of rfl) rfl ?_
            refine xw_nil ?_
            refine hK32 _ _ ?_
            refine xc_gen (fun g hg => ?_)
            have s0 := (hg 0).trans (en rfl (en rfl (en rfl (en rfl (en rfl (en rfl (en rfl (en rfl s0))))))))
            have s1 := (hg 1).trans (en rfl (en rfl (en rfl (en rfl (en rfl (en rfl (en rfl (en rfl s1))))))))
            have s2 := (hg 2).trans (en rfl (en rfl (en rfl (en rfl (en rfl (en rfl (en rfl (en rfl s2))))))))
            have s7 := (hg 7).trans (en rfl (en rfl (en rfl (en rfl (en rfl (en rfl (en rfl (en rfl s7))))))))
            have s9 := (hg 9).trans (en rfl (en rfl (en rfl (en rfl (en rfl (en rfl (en rfl (en rfl s9))))))))
            have s10 := (hg 10).trans (en rfl (en rfl (en rfl (en rfl (en rfl (en rfl (en rfl (en rfl s10))))))))
            have s11 := (hg 11).trans (en rfl (en rfl (en rfl (en rfl (en rfl (en rfl (en rfl (en rfl s11))))))))
            have s13 := (hg 13).trans (en rfl (en rfl (en rfl (en rfl (en rfl (en rfl (en rfl (en rfl s13))))))))
            have s14 := (hg 14).trans (en rfl (en rfl (en rfl (en rfl (en rfl (en rfl (en rfl (en rfl s14))))))))
            have s15 := (hg 15).trans (en rfl (en rfl (en rfl (en rfl (en rfl (en rfl (en rfl (en rfl s15))))))))
            have s23 := (hg 23).trans (en rfl (en rfl (en rfl (en rfl (en rfl (en rfl (en rfl (en rfl s23))))))))
            have s30 := (hg 30).trans (en rfl (en rfl (en rfl (en rfl (en rfl (en rfl (en rfl (en rfl s30))))))))
            have s31 := (hg 31).trans (en rfl (en rfl (en rfl (en rfl (en rfl (en rfl (en rfl (en rfl s31))))))))
            have s32 := (hg 32).trans (en rfl (en rfl (en rfl (en rfl (en rfl (en rfl (en rfl (en rfl s32))))))))
            have s73 := (hg 73).trans (en rfl (en rfl (en rfl (en rfl (en rfl (en rfl (en rfl (en rfl s73))))))))
            have s76 := (hg 76).trans (en rfl (en rfl (en rfl (en rfl (en rfl (en rfl (en rfl (en rfl s76))))))))
            have s77 := (hg 77).trans (en rfl (en rfl (en rfl (en rfl (en rfl (en rfl (en rfl (en rfl s77))))))))
            have s78 := (hg 78).trans (en rfl (en rfl (en rfl (en rfl (en rfl (en rfl (en rfl (en rfl s78))))))))
            have s79 := (hg 79).trans (en rfl (en rfl (en rfl (en rfl (en rfl (en rfl (en rfl (en rfl s79))))))))
            have s83 := (hg 83).trans (en rfl (en rfl (en rfl (en rfl (en rfl (en rfl (en rfl (en rfl s83))))))))
            have s84 := (hg 84).trans (en rfl (en rfl (en rfl (en rfl (en rfl (en rfl (en rfl (en rfl s84))))))))
            have s85 := (hg 85).trans (en rfl (en rfl (en rfl (en rfl (en rfl (en rfl (en rfl (en rfl s85))))))))
            have s99 := (hg 99).trans es
            clear hg
            refine xc_cond s99 (fun hc => by cases hc) (fun _ => ?_)
            refine xc_skip ?_
            refine hK31 _ _ ?_
            refine xc_region ?_
            refine x_val (r_move s11) (nd_of rfl) rfl ?_
            refine x_val (r_add es ec (show _ = (((ni + sz (PL.take k) + (c + 1) : Nat) : Int) : Int) from by omega) (by unfold I64; omega)) (nd_of rfl) rfl ?_
            refine x_val (r_assign es) (nd_of rfl) rfl ?_
            refine xw_nil ?_
            refine hK29 _ _ ?_
            refine xc_gen (fun g hg => ?_)
            have s0 := (hg 0).trans (en rfl (en rfl (en rfl s0)))
            have s1 := (hg 1).trans (en rfl (en rfl (en rfl s1)))
            have s2 := (hg 2).trans (en rfl (en rfl (en rfl s2)))
            have s7 := (hg 7).trans (en rfl (en rfl (en rfl s7)))
            have s9 := (hg 9).trans (en rfl (en rfl (en rfl s9)))
            have s10 := (hg 10).trans (en rfl (en rfl (en rfl s10)))
            have s11 := (hg 11).trans es
            have s13 := (hg 13).trans (en rfl (en rfl (en rfl s13)))
            have s14 := (hg 14).trans (en rfl (en rfl (en rfl s14)))
            have s15 := (hg 15).trans (en rfl (en rfl (en rfl s15)))
            have s23 := (hg 23).trans (en rfl (en rfl (en rfl s23)))
            have s30 := (hg 30).trans (en rfl (en rfl (en rfl s30)))
            have s31 := (hg 31).trans (en rfl (en rfl (en rfl s31)))
            have s32 := (hg 32).trans (en rfl (en rfl (en rfl s32)))
            have s73 := (hg 73).trans (en rfl (en rfl (en rfl s73)))
            have s76 := (hg 76).trans (en rfl (en rfl (en rfl s76)))
            have s77 := (hg 77).trans (en rfl (en rfl (en rfl s77)))
            have s78 := (hg 78).trans (en rfl (en rfl (en rfl s78)))
            have s79 := (hg 79).trans (en rfl (en rfl (en rfl s79)))
            have s83 := (hg 83).trans (en rfl (en rfl (en rfl s83)))
            have s84 := (hg 84).trans (en rfl (en rfl (en rfl s84)))
            have s85 := (hg 85).trans (en rfl (en rfl (en rfl s85)))
            have s99 := (hg 99).trans (en rfl (en rfl (en rfl s99)))
            clear hg
            refine xc_region ?_
            refine x_val (r_add s84 ec (show _ = (((c + 1 : Nat) : Int) : Int) from by omega) (by unfold I64; omega)) (nd_of rfl) rfl ?_
            refine x_val (r_move es) (nd_of rfl) rfl ?_
            refine xw_nil ?_
            have h := h.f2
            have h := h.f2
            exact ⟨x.1 - (c + 1), by omega, ⟨c + 1, rfl, by omega, es, (en rfl (en rfl s11)), h⟩, ⟨((en rfl (en rfl s0))).trans zG26_0.symm, ((en rfl (en rfl s1))).trans zG26_1.symm, ((en rfl (en rfl s2))).trans zG26_2.symm, ((en rfl (en rfl s7))).trans zG26_7.symm, ((en rfl (en rfl s9))).trans zG26_9.symm, ((en rfl (en rfl s10))).trans zG26_10.symm, ((en rfl (en rfl s13))).trans zG26_13.symm, ((en rfl (en rfl s23))).trans zG26_23.symm, ((en rfl (en rfl s30))).trans zG26_30.symm, ((en rfl (en rfl s31))).trans zG26_31.symm, ((en rfl (en rfl s32))).trans zG26_32.symm, ((en rfl (en rfl s73))).trans zG26_73.symm, ((en rfl (en rfl s76))).trans zG26_76.symm, ((en rfl (en rfl s77))).trans zG26_77.symm, ((en rfl (en rfl s78))).trans zG26_78.symm, ((en rfl (en rfl s79))).trans zG26_79.symm, ((en rfl (en rfl s83))).trans zG26_83.symm⟩⟩
          ·
            refine xc_exit ?_
            refine hK23 _ _ ?_
            have hce : c = x.1 := by have := of_decide_eq_false hc; omega
            rw [hce, Nat.add_assoc, ← hst] at s11
            refine xc_region ?_
            refine x_val (r_add s78 ec (show _ = (((k + 1 : Nat) : Int) : Int) from by omega) (by unfold I64; omega)) (nd_of rfl) rfl ?_
            refine x_val (r_move es) (nd_of rfl) rfl ?_
            refine xw_nil ?_
            exact ⟨PL.length - (k + 1), by omega, ⟨k + 1, rfl, by omega, es, (en rfl (en rfl s11)), h.drop⟩, ⟨((en rfl (en rfl s0))).trans zG20_0.symm, ((en rfl (en rfl s1))).trans zG20_1.symm, ((en rfl (en rfl s2))).trans zG20_2.symm, ((en rfl (en rfl s7))).trans zG20_7.symm, ((en rfl (en rfl s9))).trans zG20_9.symm, ((en rfl (en rfl s10))).trans zG20_10.symm, ((en rfl (en rfl s23))).trans zG20_23.symm, ((en rfl (en rfl s30))).trans zG20_30.symm, ((en rfl (en rfl s31))).trans zG20_31.symm, ((en rfl (en rfl s32))).trans zG20_32.symm, ((en rfl (en rfl s73))).trans zG20_73.symm, ((en rfl (en rfl s76))).trans zG20_76.symm, ((en rfl (en rfl s77))).trans zG20_77.symm⟩⟩
        ·
          refine xc_exit ?_
          refine hK18 _ _ ?_
          refine xc_seq (fun K hK33 => ?_)
          have hke : k = PL.length := by have := of_decide_eq_false hc; omega
          rw [hke, List.take_length, hso] at s11
          refine xc_region ?_
          refine x_val (r_move s11) (nd_of rfl) rfl ?_
          refine x_val (r_move (en rfl s2)) (nd_of rfl) rfl ?_
          refine x_val (r_eql (en rfl es) es (decide_eq_true (by omega))) (nd_of rfl) rfl ?_
          refine x_val (r_move es) (nd_of rfl) rfl ?_
          refine x_take (d := 107) rfl rfl es ?_
          refine x_enter (r_call Try.call9 .nil) (nd_of rfl) rfl (known_ok h) ?_
          rintro _ w ⟨rfl, h⟩
          refine x_val (r_pick_t (en rfl es) es) (nd_of rfl) rfl ?_
          refine x_val (r_assign es) (nd_of rfl) rfl ?_
          refine xw_nil ?_
          refine hK33 _ _ ?_
          refine xc_gen (fun g hg => ?_)
          have s0 := (hg 0).trans (en rfl (en rfl (en rfl (en rfl (en rfl (en rfl (en rfl s0)))))))
          have s1 := (hg 1).trans (en rfl (en rfl (en rfl (en rfl (en rfl (en rfl (en rfl s1)))))))
          have s2 := (hg 2).trans (en rfl (en rfl (en rfl (en rfl (en rfl (en rfl (en rfl s2)))))))
          have s6 := (hg 6).trans es
          have s7 := (hg 7).trans (en rfl (en rfl (en rfl (en rfl (en rfl (en rfl (en rfl s7)))))))
          have s9 := (hg 9).trans (en rfl (en rfl (en rfl (en rfl (en rfl (en rfl (en rfl s9)))))))
          have s10 := (hg 10).trans (en rfl (en rfl (en rfl (en rfl (en rfl (en rfl (en rfl s10)))))))
          have s11 := (hg 11).trans (en rfl (en rfl (en rfl (en rfl (en rfl (en rfl (en rfl s11)))))))
          have s23 := (hg 23).trans (en rfl (en rfl (en rfl (en rfl (en rfl (en rfl (en rfl s23)))))))
          have s30 := (hg 30).trans (en rfl (en rfl (en rfl (en rfl (en rfl (en rfl (en rfl s30)))))))
          have s31 := (hg 31).trans (en rfl (en rfl (en rfl (en rfl (en rfl (en rfl (en rfl s31)))))))
          have s32 := (hg 32).trans (en rfl (en rfl (en rfl (en rfl (en rfl (en rfl (en rfl s32)))))))
          have s73 := (hg 73).trans (en rfl (en rfl (en rfl (en rfl (en rfl (en rfl (en rfl s73)))))))
          have s76 := (hg 76).trans (en rfl (en rfl (en rfl (en rfl (en rfl (en rfl (en rfl s76)))))))
          have s77 := (hg 77).trans (en rfl (en rfl (en rfl (en rfl (en rfl (en rfl (en rfl s77)))))))
          have s78 := (hg 78).trans (en rfl (en rfl (en rfl (en rfl (en rfl (en rfl (en rfl s78)))))))
          have s79 := (hg 79).trans (en rfl (en rfl (en rfl (en rfl (en rfl (en rfl (en rfl s79)))))))
          clear hg
          refine xc_ret ?_
          refine bodyR_1 rfl s6 ?_
          exact ⟨rfl, h.drop.drop⟩
    ·
      skip
      refine xc_exit ?_
      refine hK5 _ _ ?_
      refine xc_seq (fun K hK34 => ?_)
      refine xc_region ?_
      refine x_val (r_move s7) (nd_of rfl) rfl ?_
      refine x_val (r_move (en rfl s1)) (nd_of rfl) rfl ?_
      refine x_val (r_move (en rfl (en rfl s2))) (nd_of rfl) rfl ?_
      refine x_enter (r_call Try.call11 (.cons (en rfl (en rfl es)) (.cons (en rfl es) (.cons es .nil)))) (nd_of rfl) rfl (over_no hp h) ?_
      rintro _ w ⟨rfl, h⟩
      refine x_val (r_move es) (nd_of rfl) rfl ?_
      refine x_val (r_extract es gc0) (nd_of rfl) rfl ?_
      refine x_val (r_extract (en rfl es) gc1) (nd_of rfl) rfl ?_
      refine x_val (r_assign (en rfl es)) (nd_of rfl) rfl ?_
      refine x_val (r_assign (en rfl es)) (nd_of rfl) rfl ?_
      refine xw_nil ?_
      refine hK34 _ _ ?_
      refine xc_gen (fun g hg => ?_)
      have s0 := (hg 0).trans (en rfl (en rfl (en rfl (en rfl (en rfl (en rfl (en rfl (en rfl (en rfl s0)))))))))
      have s1 := (hg 1).trans (en rfl (en rfl (en rfl (en rfl (en rfl (en rfl (en rfl (en rfl (en rfl s1)))))))))
      have s2 := (hg 2).trans (en rfl (en rfl (en rfl (en rfl (en rfl (en rfl (en rfl (en rfl (en rfl s2)))))))))
      have s6 := (hg 6).trans (en rfl (en rfl (en rfl (en rfl (en rfl (en rfl (en rfl (en rfl (en rfl s6)))))))))
      have s7 := (hg 7).trans (en rfl (en rfl (en rfl (en rfl (en rfl (en rfl (en rfl (en rfl (en rfl s7)))))))))
      have s9 := (hg 9).trans (en rfl es)
      have s10 := (hg 10).trans es
      have s23 := (hg 23).trans (en rfl (en rfl (en rfl (en rfl (en rfl (en rfl (en rfl (en rfl (en rfl s23)))))))))
      have s30 := (hg 30).trans (en rfl (en rfl (en rfl (en rfl (en rfl (en rfl (en rfl (en rfl (en rfl s30)))))))))
      have s31 := (hg 31).trans (en rfl (en rfl (en rfl (en rfl (en rfl (en rfl (en rfl (en rfl (en rfl s31)))))))))
      have s32 := (hg 32).trans (en rfl (en rfl (en rfl (en rfl (en rfl (en rfl (en rfl (en rfl (en rfl s32)))))))))
      clear hg
      refine xc_seq (fun K hK35 => ?_)
      refine xc_seq (fun K hK36 => ?_)
      refine xc_region ?_
      refine x_val (r_move s10) (nd_of rfl) rfl ?_
      refine x_val (r_neq es ec (r := true) rfl) (nd_of rfl) rfl ?_
      refine x_val (r_move es) (nd_of rfl) rfl ?_
      refine x_pass (d := 68) rfl rfl es rfl ?_
      refine x_pass (d := 68) rfl rfl (en rfl es) rfl ?_
      refine x_pass (d := 68) rfl rfl (en rfl (en rfl es)) rfl ?_
      refine x_pass (d := 68) rfl rfl (en rfl (en rfl (en rfl es))) rfl ?_
      refine x_val (r_pick_t (en rfl (en rfl (en rfl (en rfl es)))) ec) (nd_of rfl) rfl ?_
      refine xw_nil ?_
      refine hK36 _ _ ?_
      refine xc_gen (fun g hg => ?_)
      have s0 := (hg 0).trans (en rfl (en rfl (en rfl (en rfl (en rfl (en rfl (en rfl (en rfl s0))))))))
      have s1 := (hg 1).trans (en rfl (en rfl (en rfl (en rfl (en rfl (en rfl (en rfl (en rfl s1))))))))
      have s2 := (hg 2).trans (en rfl (en rfl (en rfl (en rfl (en rfl (en rfl (en rfl (en rfl s2))))))))
      have s6 := (hg 6).trans (en rfl (en rfl (en rfl (en rfl (en rfl (en rfl (en rfl (en rfl s6))))))))
      have s7 := (hg 7).trans (en rfl (en rfl (en rfl (en rfl (en rfl (en rfl (en rfl (en rfl s7))))))))
      have s9 := (hg 9).trans (en rfl (en rfl (en rfl (en rfl (en rfl (en rfl (en rfl (en rfl s9))))))))
      have s10 := (hg 10).trans (en rfl (en rfl (en rfl (en rfl (en rfl (en rfl (en rfl (en rfl s10))))))))
      have s23 := (hg 23).trans (en rfl (en rfl (en rfl (en rfl (en rfl (en rfl (en rfl (en rfl s23))))))))
      have s30 := (hg 30).trans (en rfl (en rfl (en rfl (en rfl (en rfl (en rfl (en rfl (en rfl s30))))))))
      have s31 := (hg 31).trans (en rfl (en rfl (en rfl (en rfl (en rfl (en rfl (en rfl (en rfl s31))))))))
      have s32 := (hg 32).trans (en rfl (en rfl (en rfl (en rfl (en rfl (en rfl (en rfl (en rfl s32))))))))
      have s73 := (hg 73).trans es
      clear hg
      refine xc_cond s73 (fun _ => ?_) (fun hc => by cases hc)
      refine xc_seq (fun K hK37 => ?_)
      refine xc_region ?_
      refine x_enter (r_call Try.call9 .nil) (nd_of rfl) rfl (known_ok h) ?_
      rintro _ w ⟨rfl, h⟩
      refine x_val (r_assign es) (nd_of rfl) rfl ?_
      refine xw_nil ?_
      refine hK37 _ _ ?_
      refine xc_gen (fun g hg => ?_)
      have s0 := (hg 0).trans (en rfl (en rfl s0))
      have s1 := (hg 1).trans (en rfl (en rfl s1))
      have s2 := (hg 2).trans (en rfl (en rfl s2))
      have s6 := (hg 6).trans es
      have s7 := (hg 7).trans (en rfl (en rfl s7))
      have s9 := (hg 9).trans (en rfl (en rfl s9))
      have s10 := (hg 10).trans (en rfl (en rfl s10))
      have s23 := (hg 23).trans (en rfl (en rfl s23))
      have s30 := (hg 30).trans (en rfl (en rfl s30))
      have s31 := (hg 31).trans (en rfl (en rfl s31))
      have s32 := (hg 32).trans (en rfl (en rfl s32))
      have s73 := (hg 73).trans (en rfl (en rfl s73))
      clear hg
      refine xc_ret ?_
      refine bodyR_1 rfl s6 ?_
      exact ⟨rfl, h.drop⟩
theorem parts_all (hv : OpsAt W v os) (hi : I64 i) (hj : I64 j) (h : SatL E w [Old W]) : Calls Try.prog 3 #[v, .int .i64 i, .int .i64 j] w (Ret fun u w' => u = .bool true ∧ SatL E w' [Old W]) := by
  rcases Nat.lt_or_ge 40 os.length with h1 | h1
  · exact parts_long hv h1 h
  · exact parts_ok hv h1 hi hj h
end
end Go.Proofs.Ytbmdbjnkkbefmaa
