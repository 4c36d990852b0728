/-
The law's 'is': a chunk has just these runes, by all that it tells.
-/
import Derived.Test.YtimieinmphhmmaaH6
namespace Go.Proofs.Ytimieinmphhmmaa
open Go Go.RowKit
section
variable {E : Env} {R L : List SProp} {w : World} {l zs ys xs : List Int} {v u t : Value} {r : Int}
theorem cnt_i {i : Int} : (zs.take i.toNat).count 10 = (zs.take (i - 1).toNat).count 10 + (if 0 < i ∧ zs[(i - 1).toNat]? = some 10 then 1 else 0) := by
  by_cases h0 : 0 < i
  · obtain ⟨j, hj⟩ : ∃ j : Nat, i = (j : Int) + 1 := ⟨(i - 1).toNat, by omega⟩
    have e1 : i.toNat = j + 1 := by omega
    have e2 : (i - 1).toNat = j := by omega
    rw [e1, e2]
    by_cases h1 : j < zs.length
    · have hr : zs[j]? = some zs[j] := List.getElem?_eq_getElem h1
      rw [count_step hr, hr]
      by_cases h2 : zs[j] = 10 <;> simp [h0, h2]
    · rw [List.take_of_length_le (by omega), List.take_of_length_le (by omega), if_neg]
      · rfl
      · rintro ⟨_, h⟩; rw [List.getElem?_eq_none (by omega)] at h; cases h
  · have e1 : i.toNat = 0 := by omega
    have e2 : (i - 1).toNat = 0 := by omega
    rw [e1, e2, if_neg (fun h => h0 h.1), Nat.add_zero]
theorem i64s_get {l : List Nat} {k i : Nat} (h : l[k]? = some i) : (i64s l)[k]? = some (.int .i64 (i : Int)) := by simp [i64s, h]
theorem chAt_i {i : Int} (ho : ChOk l) (h0 : 0 ≤ i) (hr : l[i.toNat]? = some r) (h : SatL E w R) : Calls Try.prog 16 #[.agg (chC l), .int .i64 i] w (Ret fun u w' => u = .tuple #[.int .i32 r, .int .i64 0] ∧ SatL E w' R) := by
  obtain ⟨j, rfl⟩ := Int.eq_ofNat_of_zero_le h0
  exact chAt_ok ho hr h
set_option maxHeartbeats 8000000 in
theorem is_ok (hv : Reads E R v .i32 zs) (ho : ChOk zs) (h : SatL E w R) : Calls Try.prog 13 #[.agg (chC zs), v] w (Ret fun u w' => u = .bool true ∧ SatL E w' R) := by
  have hz := ho.len
  have hln := nlsT_len (l := zs) zs.length (Nat.le_refl _)
  rw [List.take_length] at hln
  have hcz : zs.count 10 ≤ 32 := Nat.le_trans List.count_le_length hz
  obtain ⟨a, cap, rfl, _, _⟩ := hv.slice h
  refine calls_x Try.func13 rfl Try.ntmps13 rfl ?_
  refine xc_gen (fun g hg => ?_)
  have s0 := (hg 0).trans arg0
  have s1 := (hg 1).trans arg1
  clear hg
  refine xc_seq (fun K hK1 => ?_)
  refine xc_region ?_
  refine x_boxA h s0 rfl ?_
  intro b2 w h
  refine x_val (r_assign ec) (nd_of rfl) rfl ?_
  refine xw_nil ?_
  refine hK1 _ _ ?_
  refine xc_gen (fun g hg => ?_)
  have s0 := (hg 0).trans (en rfl (en rfl s0))
  have s1 := (hg 1).trans (en rfl (en rfl s1))
  have s2 := (hg 2).trans (en rfl es)
  have s4 := (hg 4).trans es
  clear hg
  refine xc_seq (fun K hK2 => ?_)
  refine xc_region ?_
  refine x_val (r_move s1) (nd_of rfl) rfl ?_
  refine x_enter (r_call Try.call26 (.cons es .nil)) (nd_of rfl) rfl (refNl_ok hv.up (by omega) h) ?_
  rintro _ w h
  obtain ⟨gn, cn, rfl, _, _⟩ := h.rowVal
  refine x_val (r_assign es) (nd_of rfl) rfl ?_
  refine xw_nil ?_
  refine hK2 _ _ ?_
  refine xc_gen (fun g hg => ?_)
  have s0 := (hg 0).trans (en rfl (en rfl (en rfl s0)))
  have s1 := (hg 1).trans (en rfl (en rfl (en rfl s1)))
  have s2 := (hg 2).trans (en rfl (en rfl (en rfl s2)))
  have s4 := (hg 4).trans (en rfl (en rfl (en rfl s4)))
  have s5 := (hg 5).trans es
  clear hg
  refine xc_seq (fun K hK3 => ?_)
  refine xc_region ?_
  refine x_val (r_loadAgg h 1 rfl Try.isAgg26 Try.sizeOf26 s2 (Ok.le (by first | assumption | exact Ok.node (by assumption) | exact ChOk.ok (by assumption))) (ext_full (Ok.size (by first | assumption | exact Ok.node (by assumption) | exact ChOk.ok (by assumption))))) (nd_of rfl) rfl ?_
  refine x_enter (r_call Try.call21 (.cons es .nil)) (nd_of rfl) rfl (runes_ok ho h) ?_
  rintro _ w h
  obtain ⟨gg, cg, rfl, _, _⟩ := h.rowVal
  refine x_val (r_assign es) (nd_of rfl) rfl ?_
  refine xw_nil ?_
  refine hK3 _ _ ?_
  refine xc_gen (fun g hg => ?_)
  have s0 := (hg 0).trans (en rfl (en rfl (en rfl s0)))
  have s1 := (hg 1).trans (en rfl (en rfl (en rfl s1)))
  have s2 := (hg 2).trans (en rfl (en rfl (en rfl s2)))
  have s4 := (hg 4).trans (en rfl (en rfl (en rfl s4)))
  have s5 := (hg 5).trans (en rfl (en rfl (en rfl s5)))
  have s6 := (hg 6).trans es
  clear hg
  refine xc_seq (fun K hK4 => ?_)
  refine xc_seq (fun K hK5 => ?_)
  refine xc_region ?_
  refine x_val (r_move s6) (nd_of rfl) rfl ?_
  refine x_val (r_move (en rfl s1)) (nd_of rfl) rfl ?_
  refine x_enter (r_call Try.call12 (.cons (en rfl es) (.cons es .nil))) (nd_of rfl) rfl (same_yes (zs := zs) rowReads hv.up.up.up (by omega) h) ?_
  rintro _ w ⟨rfl, h⟩
  refine x_val (r_not es rfl) (nd_of rfl) rfl ?_
  refine x_val (r_move es) (nd_of rfl) rfl ?_
  refine x_take (d := 23) rfl rfl es ?_
  refine x_val (r_loadAgg h 2 rfl Try.isAgg26 Try.sizeOf26 (en rfl (en rfl (en rfl (en rfl (en rfl s2))))) (Ok.le (by first | assumption | exact Ok.node (by assumption) | exact ChOk.ok (by assumption))) (ext_full (Ok.size (by first | assumption | exact Ok.node (by assumption) | exact ChOk.ok (by assumption))))) (nd_of rfl) rfl ?_
  refine x_take (d := 23) rfl rfl (en rfl es) ?_
  refine x_enter (r_call Try.call18 (.cons es .nil)) (nd_of rfl) rfl (len_ok ho h) ?_
  rintro _ w ⟨rfl, h⟩
  refine x_take (d := 23) rfl rfl (en rfl (en rfl es)) ?_
  refine x_val (r_move (en rfl (en rfl (en rfl (en rfl (en rfl (en rfl (en rfl s1)))))))) (nd_of rfl) rfl ?_
  refine x_take (d := 23) rfl rfl (en rfl (en rfl (en rfl es))) ?_
  refine x_val (r_len Try.underlying22 es) (nd_of rfl) rfl ?_
  refine x_take (d := 23) rfl rfl (en rfl (en rfl (en rfl (en rfl es)))) ?_
  refine x_val (r_neq (en rfl (en rfl es)) es (decide_eq_false (by omega))) (nd_of rfl) rfl ?_
  refine x_val (r_pick_f (en rfl (en rfl (en rfl (en rfl (en rfl es))))) es) (nd_of rfl) rfl ?_
  refine x_val (r_move es) (nd_of rfl) rfl ?_
  refine x_take (d := 30) rfl rfl es ?_
  refine x_val (r_loadAgg h 2 rfl Try.isAgg26 Try.sizeOf26 (en rfl (en rfl (en rfl (en rfl (en rfl (en rfl (en rfl (en rfl (en rfl (en rfl (en rfl (en rfl s2)))))))))))) (Ok.le (by first | assumption | exact Ok.node (by assumption) | exact ChOk.ok (by assumption))) (ext_full (Ok.size (by first | assumption | exact Ok.node (by assumption) | exact ChOk.ok (by assumption))))) (nd_of rfl) rfl ?_
  refine x_take (d := 30) rfl rfl (en rfl es) ?_
  refine x_enter (r_call Try.call14 (.cons es .nil)) (nd_of rfl) rfl (newlines_ok ho h) ?_
  rintro _ w ⟨rfl, h⟩
  refine x_take (d := 30) rfl rfl (en rfl (en rfl es)) ?_
  refine x_val (r_move (en rfl (en rfl (en rfl (en rfl (en rfl (en rfl (en rfl (en rfl (en rfl (en rfl (en rfl (en rfl (en rfl (en rfl s5))))))))))))))) (nd_of rfl) rfl ?_
  refine x_take (d := 30) rfl rfl (en rfl (en rfl (en rfl es))) ?_
  refine x_val (r_len Try.underlying49 es) (nd_of rfl) rfl ?_
  refine x_take (d := 30) rfl rfl (en rfl (en rfl (en rfl (en rfl es)))) ?_
  refine x_val (r_neq (en rfl (en rfl es)) es (decide_eq_false (by omega))) (nd_of rfl) rfl ?_
  refine x_val (r_pick_f (en rfl (en rfl (en rfl (en rfl (en rfl es))))) es) (nd_of rfl) rfl ?_
  refine xw_nil ?_
  refine hK5 _ _ ?_
  refine xc_gen (fun g hg => ?_)
  have s0 := (hg 0).trans (en rfl (en rfl (en rfl (en rfl (en rfl (en rfl (en rfl (en rfl (en rfl (en rfl (en rfl (en rfl (en rfl (en rfl (en rfl (en rfl (en rfl (en rfl s0))))))))))))))))))
  have s1 := (hg 1).trans (en rfl (en rfl (en rfl (en rfl (en rfl (en rfl (en rfl (en rfl (en rfl (en rfl (en rfl (en rfl (en rfl (en rfl (en rfl (en rfl (en rfl (en rfl s1))))))))))))))))))
  have s2 := (hg 2).trans (en rfl (en rfl (en rfl (en rfl (en rfl (en rfl (en rfl (en rfl (en rfl (en rfl (en rfl (en rfl (en rfl (en rfl (en rfl (en rfl (en rfl (en rfl s2))))))))))))))))))
  have s4 := (hg 4).trans (en rfl (en rfl (en rfl (en rfl (en rfl (en rfl (en rfl (en rfl (en rfl (en rfl (en rfl (en rfl (en rfl (en rfl (en rfl (en rfl (en rfl (en rfl s4))))))))))))))))))
  have s5 := (hg 5).trans (en rfl (en rfl (en rfl (en rfl (en rfl (en rfl (en rfl (en rfl (en rfl (en rfl (en rfl (en rfl (en rfl (en rfl (en rfl (en rfl (en rfl (en rfl s5))))))))))))))))))
  have s6 := (hg 6).trans (en rfl (en rfl (en rfl (en rfl (en rfl (en rfl (en rfl (en rfl (en rfl (en rfl (en rfl (en rfl (en rfl (en rfl (en rfl (en rfl (en rfl (en rfl s6))))))))))))))))))
  have s36 := (hg 36).trans es
  clear hg
  refine xc_cond s36 (fun hc => by cases hc) (fun _ => ?_)
  refine xc_skip ?_
  refine hK4 _ _ ?_
  refine xc_seq (fun K hK6 => ?_)
  refine xc_seq (fun K hK7 => ?_)
  refine xc_region ?_
  refine x_val (r_move s6) (nd_of rfl) rfl ?_
  refine x_val (r_len Try.underlying22 es) (nd_of rfl) rfl ?_
  refine x_val (r_move ec) (nd_of rfl) rfl ?_
  refine xw_nil ?_
  refine hK7 _ _ ?_
  refine xc_gen (fun g hg => ?_)
  have s0 := (hg 0).trans (en rfl (en rfl (en rfl s0)))
  have s1 := (hg 1).trans (en rfl (en rfl (en rfl s1)))
  have s2 := (hg 2).trans (en rfl (en rfl (en rfl s2)))
  have s4 := (hg 4).trans (en rfl (en rfl (en rfl s4)))
  have s5 := (hg 5).trans (en rfl (en rfl (en rfl s5)))
  have s6 := (hg 6).trans (en rfl (en rfl (en rfl s6)))
  have s36 := (hg 36).trans (en rfl (en rfl (en rfl s36)))
  have s38 := (hg 38).trans (en rfl es)
  have s39 := (hg 39).trans es
  clear hg
  refine xc_block ?_
  obtain ⟨G8, hG8⟩ : ∃ g0 : Nat → Value, g0 = g := ⟨_, rfl⟩
  have z0 : G8 0 = _ := (congrFun hG8 0).trans s0
  have z1 : G8 1 = _ := (congrFun hG8 1).trans s1
  have z2 : G8 2 = _ := (congrFun hG8 2).trans s2
  have z4 : G8 4 = _ := (congrFun hG8 4).trans s4
  have z5 : G8 5 = _ := (congrFun hG8 5).trans s5
  have z6 : G8 6 = _ := (congrFun hG8 6).trans s6
  have z36 : G8 36 = _ := (congrFun hG8 36).trans s36
  have z38 : G8 38 = _ := (congrFun hG8 38).trans s38
  refine xc_loop (fun m f w => (∃ (k : Nat) (cs : List Value), m = zs.length - k ∧ k ≤ zs.length ∧ f 39 = .int .i64 (k : Int) ∧ SatL E w (Row 21 1 (.slice gg zs.length cg) zs.length cs :: Row 3 1 (.slice gn (nlsT zs zs.length).length cn) (nlsT zs zs.length).length (i64s (nlsT zs zs.length)) :: Cells b2 (chC zs) 26 :: R)) ∧ (f 0 = G8 0 ∧ f 1 = G8 1 ∧ f 2 = G8 2 ∧ f 4 = G8 4 ∧ f 5 = G8 5 ∧ f 6 = G8 6 ∧ f 36 = G8 36 ∧ f 38 = G8 38)) (zs.length) ⟨⟨0, _, by omega, by omega, s39, h⟩, ⟨congrFun hG8.symm 0, congrFun hG8.symm 1, congrFun hG8.symm 2, congrFun hG8.symm 4, congrFun hG8.symm 5, congrFun hG8.symm 6, congrFun hG8.symm 36, congrFun hG8.symm 38⟩⟩ ?_
  rintro m g w ⟨⟨k, cs, hm, hk, s39, h⟩, ⟨y0, y1, y2, y4, y5, y6, y36, y38⟩⟩
  have s0 := y0.trans z0
  have s1 := y1.trans z1
  have s2 := y2.trans z2
  have s4 := y4.trans z4
  have s5 := y5.trans z5
  have s6 := y6.trans z6
  have s36 := y36.trans z36
  have s38 := y38.trans z38
  refine xc_seq (fun K hK9 => ?_)
  refine xc_region ?_
  refine x_val (r_lss s39 s38 rfl) (nd_of rfl) rfl ?_
  refine xw_nil ?_
  refine hK9 _ _ ?_
  refine xc_gen (fun g hg => ?_)
  have s0 := (hg 0).trans (en rfl s0)
  have s1 := (hg 1).trans (en rfl s1)
  have s2 := (hg 2).trans (en rfl s2)
  have s4 := (hg 4).trans (en rfl s4)
  have s5 := (hg 5).trans (en rfl s5)
  have s6 := (hg 6).trans (en rfl s6)
  have s36 := (hg 36).trans (en rfl s36)
  have s38 := (hg 38).trans (en rfl s38)
  have s39 := (hg 39).trans (en rfl s39)
  have s40 := (hg 40).trans es
  clear hg
  refine xc_seq (fun K hK10 => ?_)
  refine xc_cond s40 (fun hc => ?_) (fun hc => ?_)
  ·
    refine xc_skip ?_
    refine hK10 _ _ ?_
    refine xc_seq (fun K hK11 => ?_)
    refine xc_block ?_
    refine xc_seq (fun K hK12 => ?_)
    have hi : k < zs.length := by have := of_decide_eq_true hc; omega
    obtain ⟨g', cp, cur, hr, h'⟩ := h.openRow (by omega)
    clear h
    have hvv := hr.val
    simp at hvv
    obtain ⟨rfl, rfl⟩ := hvv
    have h := h'
    have hsz : k * 1 < cur.size := by have h1 := hr.size; have h2 := hr.le; omega
    refine xc_region ?_
    refine x_val (r_move s39) (nd_of rfl) rfl ?_
    refine x_val (r_assign es) (nd_of rfl) rfl ?_
    refine xw_nil ?_
    refine hK12 _ _ ?_
    refine xc_gen (fun g hg => ?_)
    have s0 := (hg 0).trans (en rfl (en rfl s0))
    have s1 := (hg 1).trans (en rfl (en rfl s1))
    have s2 := (hg 2).trans (en rfl (en rfl s2))
    have s4 := (hg 4).trans (en rfl (en rfl s4))
    have s5 := (hg 5).trans (en rfl (en rfl s5))
    have s6 := (hg 6).trans (en rfl (en rfl s6))
    have s7 := (hg 7).trans es
    have s36 := (hg 36).trans (en rfl (en rfl s36))
    have s38 := (hg 38).trans (en rfl (en rfl s38))
    have s39 := (hg 39).trans (en rfl (en rfl s39))
    have s40 := (hg 40).trans (en rfl (en rfl s40))
    clear hg
    refine xc_region ?_
    refine x_val (r_move s6) (nd_of rfl) rfl ?_
    refine x_val (r_move (en rfl s7)) (nd_of rfl) rfl ?_
    refine x_val (r_indexAddrN Try.underlying22 Try.sizeOf21 (en rfl es) es (by omega)) (nd_of rfl) rfl ?_
    refine x_st (r_store h 0 rfl Try.sizeOf21 es ec rfl (Array.getElem?_eq_getElem hsz)) rfl (h.u0 rfl) ?_
    intro w h
    refine xw_nil ?_
    refine hK11 _ _ ?_
    refine xc_gen (fun g hg => ?_)
    have s0 := (hg 0).trans (en rfl (en rfl (en rfl s0)))
    have s1 := (hg 1).trans (en rfl (en rfl (en rfl s1)))
    have s2 := (hg 2).trans (en rfl (en rfl (en rfl s2)))
    have s4 := (hg 4).trans (en rfl (en rfl (en rfl s4)))
    have s5 := (hg 5).trans (en rfl (en rfl (en rfl s5)))
    have s6 := (hg 6).trans (en rfl (en rfl (en rfl s6)))
    have s7 := (hg 7).trans (en rfl (en rfl (en rfl s7)))
    have s36 := (hg 36).trans (en rfl (en rfl (en rfl s36)))
    have s38 := (hg 38).trans (en rfl (en rfl (en rfl s38)))
    have s39 := (hg 39).trans (en rfl (en rfl (en rfl s39)))
    have s40 := (hg 40).trans (en rfl (en rfl (en rfl s40)))
    clear hg
    refine xc_region ?_
    refine x_val (r_add s39 ec (show _ = (((k + 1 : Nat) : Int) : Int) from by omega) (by unfold I64; omega)) (nd_of rfl) rfl ?_
    refine x_val (r_move es) (nd_of rfl) rfl ?_
    refine xw_nil ?_
    exact ⟨zs.length - (k + 1), by omega, ⟨k + 1, _, rfl, by omega, es, h.closeRow (hr.set _ _)⟩, ⟨((en rfl (en rfl s0))).trans z0.symm, ((en rfl (en rfl s1))).trans z1.symm, ((en rfl (en rfl s2))).trans z2.symm, ((en rfl (en rfl s4))).trans z4.symm, ((en rfl (en rfl s5))).trans z5.symm, ((en rfl (en rfl s6))).trans z6.symm, ((en rfl (en rfl s36))).trans z36.symm, ((en rfl (en rfl s38))).trans z38.symm⟩⟩
  ·
    refine xc_exit ?_
    refine hK6 _ _ ?_
    refine xc_seq (fun K hK13 => ?_)
    have h := h.drop
    refine xc_region ?_
    refine x_val (r_assign ec) (nd_of rfl) rfl ?_
    refine xw_nil ?_
    refine hK13 _ _ ?_
    refine xc_gen (fun g hg => ?_)
    have s0 := (hg 0).trans (en rfl s0)
    have s1 := (hg 1).trans (en rfl s1)
    have s2 := (hg 2).trans (en rfl s2)
    have s4 := (hg 4).trans (en rfl s4)
    have s5 := (hg 5).trans (en rfl s5)
    have s6 := (hg 6).trans (en rfl s6)
    have s8 := (hg 8).trans es
    have s36 := (hg 36).trans (en rfl s36)
    have s38 := (hg 38).trans (en rfl s38)
    have s39 := (hg 39).trans (en rfl s39)
    have s40 := (hg 40).trans (en rfl s40)
    clear hg
    refine xc_seq (fun K hK14 => ?_)
    refine xc_seq (fun K hK15 => ?_)
    refine xc_region ?_
    refine x_val (r_assign ec) (nd_of rfl) rfl ?_
    refine xw_nil ?_
    refine hK15 _ _ ?_
    refine xc_gen (fun g hg => ?_)
    have s0 := (hg 0).trans (en rfl s0)
    have s1 := (hg 1).trans (en rfl s1)
    have s2 := (hg 2).trans (en rfl s2)
    have s4 := (hg 4).trans (en rfl s4)
    have s5 := (hg 5).trans (en rfl s5)
    have s6 := (hg 6).trans (en rfl s6)
    have s8 := (hg 8).trans (en rfl s8)
    have s9 := (hg 9).trans es
    have s36 := (hg 36).trans (en rfl s36)
    have s38 := (hg 38).trans (en rfl s38)
    have s39 := (hg 39).trans (en rfl s39)
    have s40 := (hg 40).trans (en rfl s40)
    clear hg
    refine xc_block ?_
    obtain ⟨G16, hG16⟩ : ∃ g0 : Nat → Value, g0 = g := ⟨_, rfl⟩
    have z0 : G16 0 = _ := (congrFun hG16 0).trans s0
    have z1 : G16 1 = _ := (congrFun hG16 1).trans s1
    have z2 : G16 2 = _ := (congrFun hG16 2).trans s2
    have z5 : G16 5 = _ := (congrFun hG16 5).trans s5
    have z6 : G16 6 = _ := (congrFun hG16 6).trans s6
    have z36 : G16 36 = _ := (congrFun hG16 36).trans s36
    have z38 : G16 38 = _ := (congrFun hG16 38).trans s38
    have z39 : G16 39 = _ := (congrFun hG16 39).trans s39
    have z40 : G16 40 = _ := (congrFun hG16 40).trans s40
    refine xc_loop (fun m f w => (∃ i : Int, m = (zs.length + 2 - i).toNat ∧ -1 ≤ i ∧ i ≤ zs.length + 2 ∧ f 9 = .int .i64 i ∧ f 8 = .int .i64 ((zs.take (i - 1).toNat).count 10 : Int) ∧ SatL E w (Row 3 1 (.slice gn (nlsT zs zs.length).length cn) (nlsT zs zs.length).length (i64s (nlsT zs zs.length)) :: Cells b2 (chC zs) 26 :: R)) ∧ (f 0 = G16 0 ∧ f 1 = G16 1 ∧ f 2 = G16 2 ∧ f 5 = G16 5 ∧ f 6 = G16 6 ∧ f 36 = G16 36 ∧ f 38 = G16 38 ∧ f 39 = G16 39 ∧ f 40 = G16 40)) ((zs.length + 3)) ⟨⟨-1, by omega, by omega, by omega, s9, s8, h⟩, ⟨congrFun hG16.symm 0, congrFun hG16.symm 1, congrFun hG16.symm 2, congrFun hG16.symm 5, congrFun hG16.symm 6, congrFun hG16.symm 36, congrFun hG16.symm 38, congrFun hG16.symm 39, congrFun hG16.symm 40⟩⟩ ?_
    rintro m g w ⟨⟨i, hm, hi1, hi2, s9, s8, h⟩, ⟨y0, y1, y2, y5, y6, y36, y38, y39, y40⟩⟩
    have s0 := y0.trans z0
    have s1 := y1.trans z1
    have s2 := y2.trans z2
    have s5 := y5.trans z5
    have s6 := y6.trans z6
    have s36 := y36.trans z36
    have s38 := y38.trans z38
    have s39 := y39.trans z39
    have s40 := y40.trans z40
    refine xc_seq (fun K hK17 => ?_)
    refine xc_seq (fun K hK18 => ?_)
    refine xc_region ?_
    refine x_val (r_move s9) (nd_of rfl) rfl ?_
    refine x_val (r_move (en rfl s1)) (nd_of rfl) rfl ?_
    refine x_val (r_len Try.underlying22 es) (nd_of rfl) rfl ?_
    refine x_val (r_add es ec rfl (by unfold I64; omega)) (nd_of rfl) rfl ?_
    refine x_val (r_leq (en rfl (en rfl (en rfl es))) es rfl) (nd_of rfl) rfl ?_
    refine xw_nil ?_
    refine hK18 _ _ ?_
    refine xc_gen (fun g hg => ?_)
    have s0 := (hg 0).trans (en rfl (en rfl (en rfl (en rfl (en rfl s0)))))
    have s1 := (hg 1).trans (en rfl (en rfl (en rfl (en rfl (en rfl s1)))))
    have s2 := (hg 2).trans (en rfl (en rfl (en rfl (en rfl (en rfl s2)))))
    have s5 := (hg 5).trans (en rfl (en rfl (en rfl (en rfl (en rfl s5)))))
    have s6 := (hg 6).trans (en rfl (en rfl (en rfl (en rfl (en rfl s6)))))
    have s8 := (hg 8).trans (en rfl (en rfl (en rfl (en rfl (en rfl s8)))))
    have s9 := (hg 9).trans (en rfl (en rfl (en rfl (en rfl (en rfl s9)))))
    have s36 := (hg 36).trans (en rfl (en rfl (en rfl (en rfl (en rfl s36)))))
    have s38 := (hg 38).trans (en rfl (en rfl (en rfl (en rfl (en rfl s38)))))
    have s39 := (hg 39).trans (en rfl (en rfl (en rfl (en rfl (en rfl s39)))))
    have s40 := (hg 40).trans (en rfl (en rfl (en rfl (en rfl (en rfl s40)))))
    have s50 := (hg 50).trans es
    clear hg
    refine xc_cond s50 (fun hc => ?_) (fun hc => ?_)
    ·
      have hcl : i ≤ zs.length + 1 := by have := of_decide_eq_true hc; omega
      have hci := cnt_i (zs := zs) (i := i)
      have hcm := count_le (l := zs) (j := i.toNat) ho
      by_cases h0 : 0 < i
      ·
        skip
        by_cases h1 : i ≤ zs.length
        ·
          skip
          refine xc_skip ?_
          refine hK17 _ _ ?_
          refine xc_seq (fun K hK19 => ?_)
          refine xc_block ?_
          refine xc_seq (fun K hK20 => ?_)
          refine xc_seq (fun K hK21 => ?_)
          obtain ⟨j, hj⟩ : ∃ j : Nat, i = (j : Int) + 1 := ⟨(i - 1).toNat, by omega⟩
          have hj2 : (i - 1).toNat = j := by omega
          have hjl : j < zs.length := by omega
          obtain ⟨r, hr⟩ : ∃ r, zs[j]? = some r := ⟨_, List.getElem?_eq_getElem hjl⟩
          obtain ⟨a', rfl, hcell⟩ := hv.get h.drop.drop hr
          rw [hj2, hr] at hci
          refine xc_region ?_
          refine x_val (r_move s9) (nd_of rfl) rfl ?_
          refine x_val (r_gtr es ec (decide_eq_true (by omega))) (nd_of rfl) rfl ?_
          refine x_val (r_move es) (nd_of rfl) rfl ?_
          refine x_take (d := 55) rfl rfl es ?_
          refine x_val (r_move (en rfl (en rfl (en rfl s9)))) (nd_of rfl) rfl ?_
          refine x_take (d := 55) rfl rfl (en rfl es) ?_
          refine x_val (r_move (en rfl (en rfl (en rfl (en rfl s1))))) (nd_of rfl) rfl ?_
          refine x_take (d := 55) rfl rfl (en rfl (en rfl es)) ?_
          refine x_val (r_len Try.underlying22 es) (nd_of rfl) rfl ?_
          refine x_take (d := 55) rfl rfl (en rfl (en rfl (en rfl es))) ?_
          refine x_val (r_leq (en rfl (en rfl es)) es (decide_eq_true (by omega))) (nd_of rfl) rfl ?_
          refine x_val (r_pick_t (en rfl (en rfl (en rfl (en rfl es)))) es) (nd_of rfl) rfl ?_
          refine x_val (r_move es) (nd_of rfl) rfl ?_
          refine x_take (d := 61) rfl rfl es ?_
          refine x_val (r_move (en rfl (en rfl (en rfl (en rfl (en rfl (en rfl (en rfl (en rfl (en rfl s1)))))))))) (nd_of rfl) rfl ?_
          refine x_take (d := 61) rfl rfl (en rfl es) ?_
          refine x_val (r_move (en rfl (en rfl (en rfl (en rfl (en rfl (en rfl (en rfl (en rfl (en rfl (en rfl s9))))))))))) (nd_of rfl) rfl ?_
          refine x_take (d := 61) rfl rfl (en rfl (en rfl es)) ?_
          refine x_val (r_sub es ec (show _ = ((j : Int) : Int) from by omega) (by unfold I64; omega)) (nd_of rfl) rfl ?_
          refine x_take (d := 61) rfl rfl (en rfl (en rfl (en rfl es))) ?_
          refine x_val (r_index1 Try.underlying22 Try.sizeOf21 (en rfl (en rfl es)) es hjl) (nd_of rfl) rfl ?_
          refine x_take (d := 61) rfl rfl (en rfl (en rfl (en rfl (en rfl es)))) ?_
          refine x_val (r_loadCell Try.isAgg21 es hcell) (nd_of rfl) rfl ?_
          refine x_take (d := 61) rfl rfl (en rfl (en rfl (en rfl (en rfl (en rfl es))))) ?_
          refine x_val (r_eql es ec rfl) (nd_of rfl) rfl ?_
          refine x_val (r_pick_t (en rfl (en rfl (en rfl (en rfl (en rfl (en rfl es)))))) es) (nd_of rfl) rfl ?_
          refine xw_nil ?_
          refine hK21 _ _ ?_
          refine xc_gen (fun g hg => ?_)
          have s0 := (hg 0).trans (en rfl (en rfl (en rfl (en rfl (en rfl (en rfl (en rfl (en rfl (en rfl (en rfl (en rfl (en rfl (en rfl (en rfl (en rfl (en rfl s0))))))))))))))))
          have s1 := (hg 1).trans (en rfl (en rfl (en rfl (en rfl (en rfl (en rfl (en rfl (en rfl (en rfl (en rfl (en rfl (en rfl (en rfl (en rfl (en rfl (en rfl s1))))))))))))))))
          have s2 := (hg 2).trans (en rfl (en rfl (en rfl (en rfl (en rfl (en rfl (en rfl (en rfl (en rfl (en rfl (en rfl (en rfl (en rfl (en rfl (en rfl (en rfl s2))))))))))))))))
          have s5 := (hg 5).trans (en rfl (en rfl (en rfl (en rfl (en rfl (en rfl (en rfl (en rfl (en rfl (en rfl (en rfl (en rfl (en rfl (en rfl (en rfl (en rfl s5))))))))))))))))
          have s6 := (hg 6).trans (en rfl (en rfl (en rfl (en rfl (en rfl (en rfl (en rfl (en rfl (en rfl (en rfl (en rfl (en rfl (en rfl (en rfl (en rfl (en rfl s6))))))))))))))))
          have s8 := (hg 8).trans (en rfl (en rfl (en rfl (en rfl (en rfl (en rfl (en rfl (en rfl (en rfl (en rfl (en rfl (en rfl (en rfl (en rfl (en rfl (en rfl s8))))))))))))))))
          have s9 := (hg 9).trans (en rfl (en rfl (en rfl (en rfl (en rfl (en rfl (en rfl (en rfl (en rfl (en rfl (en rfl (en rfl (en rfl (en rfl (en rfl (en rfl s9))))))))))))))))
          have s36 := (hg 36).trans (en rfl (en rfl (en rfl (en rfl (en rfl (en rfl (en rfl (en rfl (en rfl (en rfl (en rfl (en rfl (en rfl (en rfl (en rfl (en rfl s36))))))))))))))))
          have s38 := (hg 38).trans (en rfl (en rfl (en rfl (en rfl (en rfl (en rfl (en rfl (en rfl (en rfl (en rfl (en rfl (en rfl (en rfl (en rfl (en rfl (en rfl s38))))))))))))))))
          have s39 := (hg 39).trans (en rfl (en rfl (en rfl (en rfl (en rfl (en rfl (en rfl (en rfl (en rfl (en rfl (en rfl (en rfl (en rfl (en rfl (en rfl (en rfl s39))))))))))))))))
          have s40 := (hg 40).trans (en rfl (en rfl (en rfl (en rfl (en rfl (en rfl (en rfl (en rfl (en rfl (en rfl (en rfl (en rfl (en rfl (en rfl (en rfl (en rfl s40))))))))))))))))
          have s50 := (hg 50).trans (en rfl (en rfl (en rfl (en rfl (en rfl (en rfl (en rfl (en rfl (en rfl (en rfl (en rfl (en rfl (en rfl (en rfl (en rfl (en rfl s50))))))))))))))))
          have s68 := (hg 68).trans es
          clear hg
          refine xc_cond s68 (fun hc => ?_) (fun hc => ?_)
          ·
            have h10 : r = 10 := of_decide_eq_true (by assumption)
            rw [if_pos ⟨h0, by rw [h10]⟩] at hci
            refine xc_region ?_
            refine x_val (r_move s8) (nd_of rfl) rfl ?_
            refine x_val (r_add es ec (show _ = (((zs.take i.toNat).count 10 : Int) : Int) from by rw [hci, hj2]; rfl) (by unfold I64; omega)) (nd_of rfl) rfl ?_
            refine x_val (r_assign es) (nd_of rfl) rfl ?_
            refine xw_nil ?_
            refine hK20 _ _ ?_
            refine xc_gen (fun g hg => ?_)
            have s0 := (hg 0).trans (en rfl (en rfl (en rfl s0)))
            have s1 := (hg 1).trans (en rfl (en rfl (en rfl s1)))
            have s2 := (hg 2).trans (en rfl (en rfl (en rfl s2)))
            have s5 := (hg 5).trans (en rfl (en rfl (en rfl s5)))
            have s6 := (hg 6).trans (en rfl (en rfl (en rfl s6)))
            have s8 := (hg 8).trans es
            have s9 := (hg 9).trans (en rfl (en rfl (en rfl s9)))
            have s36 := (hg 36).trans (en rfl (en rfl (en rfl s36)))
            have s38 := (hg 38).trans (en rfl (en rfl (en rfl s38)))
            have s39 := (hg 39).trans (en rfl (en rfl (en rfl s39)))
            have s40 := (hg 40).trans (en rfl (en rfl (en rfl s40)))
            have s50 := (hg 50).trans (en rfl (en rfl (en rfl s50)))
            have s68 := (hg 68).trans (en rfl (en rfl (en rfl s68)))
            clear hg
            refine xc_seq (fun K hK22 => ?_)
            refine xc_seq (fun K hK23 => ?_)
            refine xc_region ?_
            refine x_val (r_loadAgg h 1 rfl Try.isAgg26 Try.sizeOf26 s2 (Ok.le (by first | assumption | exact Ok.node (by assumption) | exact ChOk.ok (by assumption))) (ext_full (Ok.size (by first | assumption | exact Ok.node (by assumption) | exact ChOk.ok (by assumption))))) (nd_of rfl) rfl ?_
            refine x_val (r_move (en rfl s9)) (nd_of rfl) rfl ?_
            refine x_enter (r_call Try.call17 (.cons (en rfl es) (.cons es .nil))) (nd_of rfl) rfl (ahead_ok ho h) ?_
            rintro _ w ⟨rfl, h⟩
            refine x_val (r_move (en rfl (en rfl (en rfl s8)))) (nd_of rfl) rfl ?_
            refine x_val (r_neq (en rfl es) es (decide_eq_false (by omega))) (nd_of rfl) rfl ?_
            refine xw_nil ?_
            refine hK23 _ _ ?_
            refine xc_gen (fun g hg => ?_)
            have s0 := (hg 0).trans (en rfl (en rfl (en rfl (en rfl (en rfl s0)))))
            have s1 := (hg 1).trans (en rfl (en rfl (en rfl (en rfl (en rfl s1)))))
            have s2 := (hg 2).trans (en rfl (en rfl (en rfl (en rfl (en rfl s2)))))
            have s5 := (hg 5).trans (en rfl (en rfl (en rfl (en rfl (en rfl s5)))))
            have s6 := (hg 6).trans (en rfl (en rfl (en rfl (en rfl (en rfl s6)))))
            have s8 := (hg 8).trans (en rfl (en rfl (en rfl (en rfl (en rfl s8)))))
            have s9 := (hg 9).trans (en rfl (en rfl (en rfl (en rfl (en rfl s9)))))
            have s36 := (hg 36).trans (en rfl (en rfl (en rfl (en rfl (en rfl s36)))))
            have s38 := (hg 38).trans (en rfl (en rfl (en rfl (en rfl (en rfl s38)))))
            have s39 := (hg 39).trans (en rfl (en rfl (en rfl (en rfl (en rfl s39)))))
            have s40 := (hg 40).trans (en rfl (en rfl (en rfl (en rfl (en rfl s40)))))
            have s50 := (hg 50).trans (en rfl (en rfl (en rfl (en rfl (en rfl s50)))))
            have s68 := (hg 68).trans (en rfl (en rfl (en rfl (en rfl (en rfl s68)))))
            have s75 := (hg 75).trans es
            clear hg
            by_cases h3 : i < 0
            ·
              skip
              refine xc_cond s75 (fun hc => by cases hc) (fun _ => ?_)
              refine xc_skip ?_
              refine hK22 _ _ ?_
              refine xc_seq (fun K hK24 => ?_)
              refine xc_region ?_
              refine x_val (r_loadAgg h 1 rfl Try.isAgg26 Try.sizeOf26 s2 (Ok.le (by first | assumption | exact Ok.node (by assumption) | exact ChOk.ok (by assumption))) (ext_full (Ok.size (by first | assumption | exact Ok.node (by assumption) | exact ChOk.ok (by assumption))))) (nd_of rfl) rfl ?_
              refine x_val (r_move (en rfl s9)) (nd_of rfl) rfl ?_
              refine x_enter (r_call Try.call16 (.cons (en rfl es) (.cons es .nil))) (nd_of rfl) rfl (chAt_neg h3 h) ?_
              rintro _ w ⟨rfl, h⟩
              refine x_val (r_move es) (nd_of rfl) rfl ?_
              refine x_val (r_extract es gc0) (nd_of rfl) rfl ?_
              refine x_val (r_extract (en rfl es) gc1) (nd_of rfl) rfl ?_
              refine x_val (r_assign (en rfl es)) (nd_of rfl) rfl ?_
              refine x_val (r_assign (en rfl es)) (nd_of rfl) rfl ?_
              refine xw_nil ?_
              refine hK24 _ _ ?_
              refine xc_gen (fun g hg => ?_)
              have s0 := (hg 0).trans (en rfl (en rfl (en rfl (en rfl (en rfl (en rfl (en rfl (en rfl s0))))))))
              have s1 := (hg 1).trans (en rfl (en rfl (en rfl (en rfl (en rfl (en rfl (en rfl (en rfl s1))))))))
              have s2 := (hg 2).trans (en rfl (en rfl (en rfl (en rfl (en rfl (en rfl (en rfl (en rfl s2))))))))
              have s5 := (hg 5).trans (en rfl (en rfl (en rfl (en rfl (en rfl (en rfl (en rfl (en rfl s5))))))))
              have s6 := (hg 6).trans (en rfl (en rfl (en rfl (en rfl (en rfl (en rfl (en rfl (en rfl s6))))))))
              have s8 := (hg 8).trans (en rfl (en rfl (en rfl (en rfl (en rfl (en rfl (en rfl (en rfl s8))))))))
              have s9 := (hg 9).trans (en rfl (en rfl (en rfl (en rfl (en rfl (en rfl (en rfl (en rfl s9))))))))
              have s10 := (hg 10).trans (en rfl es)
              have s11 := (hg 11).trans es
              have s36 := (hg 36).trans (en rfl (en rfl (en rfl (en rfl (en rfl (en rfl (en rfl (en rfl s36))))))))
              have s38 := (hg 38).trans (en rfl (en rfl (en rfl (en rfl (en rfl (en rfl (en rfl (en rfl s38))))))))
              have s39 := (hg 39).trans (en rfl (en rfl (en rfl (en rfl (en rfl (en rfl (en rfl (en rfl s39))))))))
              have s40 := (hg 40).trans (en rfl (en rfl (en rfl (en rfl (en rfl (en rfl (en rfl (en rfl s40))))))))
              have s50 := (hg 50).trans (en rfl (en rfl (en rfl (en rfl (en rfl (en rfl (en rfl (en rfl s50))))))))
              have s68 := (hg 68).trans (en rfl (en rfl (en rfl (en rfl (en rfl (en rfl (en rfl (en rfl s68))))))))
              have s75 := (hg 75).trans (en rfl (en rfl (en rfl (en rfl (en rfl (en rfl (en rfl (en rfl s75))))))))
              clear hg
              refine xc_seq (fun K hK25 => ?_)
              refine xc_region ?_
              refine x_val (r_move s9) (nd_of rfl) rfl ?_
              refine x_val (r_lss es ec (decide_eq_true (by omega))) (nd_of rfl) rfl ?_
              refine x_val (r_move es) (nd_of rfl) rfl ?_
              refine x_pass (d := 84) rfl rfl es rfl ?_
              refine x_pass (d := 84) rfl rfl (en rfl es) rfl ?_
              refine x_pass (d := 84) rfl rfl (en rfl (en rfl es)) rfl ?_
              refine x_pass (d := 84) rfl rfl (en rfl (en rfl (en rfl es))) rfl ?_
              refine x_val (r_pick_t (en rfl (en rfl (en rfl (en rfl es)))) ec) (nd_of rfl) rfl ?_
              refine xw_nil ?_
              refine hK25 _ _ ?_
              refine xc_gen (fun g hg => ?_)
              have s0 := (hg 0).trans (en rfl (en rfl (en rfl (en rfl (en rfl (en rfl (en rfl (en rfl s0))))))))
              have s1 := (hg 1).trans (en rfl (en rfl (en rfl (en rfl (en rfl (en rfl (en rfl (en rfl s1))))))))
              have s2 := (hg 2).trans (en rfl (en rfl (en rfl (en rfl (en rfl (en rfl (en rfl (en rfl s2))))))))
              have s5 := (hg 5).trans (en rfl (en rfl (en rfl (en rfl (en rfl (en rfl (en rfl (en rfl s5))))))))
              have s6 := (hg 6).trans (en rfl (en rfl (en rfl (en rfl (en rfl (en rfl (en rfl (en rfl s6))))))))
              have s8 := (hg 8).trans (en rfl (en rfl (en rfl (en rfl (en rfl (en rfl (en rfl (en rfl s8))))))))
              have s9 := (hg 9).trans (en rfl (en rfl (en rfl (en rfl (en rfl (en rfl (en rfl (en rfl s9))))))))
              have s10 := (hg 10).trans (en rfl (en rfl (en rfl (en rfl (en rfl (en rfl (en rfl (en rfl s10))))))))
              have s11 := (hg 11).trans (en rfl (en rfl (en rfl (en rfl (en rfl (en rfl (en rfl (en rfl s11))))))))
              have s36 := (hg 36).trans (en rfl (en rfl (en rfl (en rfl (en rfl (en rfl (en rfl (en rfl s36))))))))
              have s38 := (hg 38).trans (en rfl (en rfl (en rfl (en rfl (en rfl (en rfl (en rfl (en rfl s38))))))))
              have s39 := (hg 39).trans (en rfl (en rfl (en rfl (en rfl (en rfl (en rfl (en rfl (en rfl s39))))))))
              have s40 := (hg 40).trans (en rfl (en rfl (en rfl (en rfl (en rfl (en rfl (en rfl (en rfl s40))))))))
              have s50 := (hg 50).trans (en rfl (en rfl (en rfl (en rfl (en rfl (en rfl (en rfl (en rfl s50))))))))
              have s68 := (hg 68).trans (en rfl (en rfl (en rfl (en rfl (en rfl (en rfl (en rfl (en rfl s68))))))))
              have s75 := (hg 75).trans (en rfl (en rfl (en rfl (en rfl (en rfl (en rfl (en rfl (en rfl s75))))))))
              have s89 := (hg 89).trans es
              clear hg
              refine xc_cond s89 (fun _ => ?_) (fun hc => by cases hc)
              refine xc_seq (fun K hK26 => ?_)
              refine xc_region ?_
              refine x_val (r_move s10) (nd_of rfl) rfl ?_
              refine x_val (r_neq es ec (r := false) rfl) (nd_of rfl) rfl ?_
              refine x_val (r_move es) (nd_of rfl) rfl ?_
              refine x_take (d := 92) rfl rfl es ?_
              refine x_val (r_move (en rfl (en rfl (en rfl s11)))) (nd_of rfl) rfl ?_
              refine x_take (d := 92) rfl rfl (en rfl es) ?_
              refine x_val (r_neq es ec (r := false) rfl) (nd_of rfl) rfl ?_
              refine x_val (r_pick_f (en rfl (en rfl es)) es) (nd_of rfl) rfl ?_
              refine xw_nil ?_
              refine hK26 _ _ ?_
              refine xc_gen (fun g hg => ?_)
              have s0 := (hg 0).trans (en rfl (en rfl (en rfl (en rfl (en rfl (en rfl s0))))))
              have s1 := (hg 1).trans (en rfl (en rfl (en rfl (en rfl (en rfl (en rfl s1))))))
              have s2 := (hg 2).trans (en rfl (en rfl (en rfl (en rfl (en rfl (en rfl s2))))))
              have s5 := (hg 5).trans (en rfl (en rfl (en rfl (en rfl (en rfl (en rfl s5))))))
              have s6 := (hg 6).trans (en rfl (en rfl (en rfl (en rfl (en rfl (en rfl s6))))))
              have s8 := (hg 8).trans (en rfl (en rfl (en rfl (en rfl (en rfl (en rfl s8))))))
              have s9 := (hg 9).trans (en rfl (en rfl (en rfl (en rfl (en rfl (en rfl s9))))))
              have s10 := (hg 10).trans (en rfl (en rfl (en rfl (en rfl (en rfl (en rfl s10))))))
              have s11 := (hg 11).trans (en rfl (en rfl (en rfl (en rfl (en rfl (en rfl s11))))))
              have s36 := (hg 36).trans (en rfl (en rfl (en rfl (en rfl (en rfl (en rfl s36))))))
              have s38 := (hg 38).trans (en rfl (en rfl (en rfl (en rfl (en rfl (en rfl s38))))))
              have s39 := (hg 39).trans (en rfl (en rfl (en rfl (en rfl (en rfl (en rfl s39))))))
              have s40 := (hg 40).trans (en rfl (en rfl (en rfl (en rfl (en rfl (en rfl s40))))))
              have s50 := (hg 50).trans (en rfl (en rfl (en rfl (en rfl (en rfl (en rfl s50))))))
              have s68 := (hg 68).trans (en rfl (en rfl (en rfl (en rfl (en rfl (en rfl s68))))))
              have s75 := (hg 75).trans (en rfl (en rfl (en rfl (en rfl (en rfl (en rfl s75))))))
              have s89 := (hg 89).trans (en rfl (en rfl (en rfl (en rfl (en rfl (en rfl s89))))))
              have s95 := (hg 95).trans es
              clear hg
              refine xc_cond s95 (fun hc => by cases hc) (fun _ => ?_)
              refine xc_skip ?_
              refine hK19 _ _ ?_
              refine xc_region ?_
              refine x_val (r_move s9) (nd_of rfl) rfl ?_
              refine x_val (r_add es ec (show _ = (i + 1 : Int) from by rfl) (by unfold I64; omega)) (nd_of rfl) rfl ?_
              refine x_val (r_assign es) (nd_of rfl) rfl ?_
              refine xw_nil ?_
              exact ⟨(zs.length + 2 - (i + 1)).toNat, by omega, ⟨i + 1, rfl, by omega, by omega, es, by rw [show i + 1 - 1 = i by omega]; exact (en rfl (en rfl (en rfl s8))), h⟩, ⟨((en rfl (en rfl (en rfl s0)))).trans z0.symm, ((en rfl (en rfl (en rfl s1)))).trans z1.symm, ((en rfl (en rfl (en rfl s2)))).trans z2.symm, ((en rfl (en rfl (en rfl s5)))).trans z5.symm, ((en rfl (en rfl (en rfl s6)))).trans z6.symm, ((en rfl (en rfl (en rfl s36)))).trans z36.symm, ((en rfl (en rfl (en rfl s38)))).trans z38.symm, ((en rfl (en rfl (en rfl s39)))).trans z39.symm, ((en rfl (en rfl (en rfl s40)))).trans z40.symm⟩⟩
            ·
              skip
              by_cases h4 : (zs.length : Int) ≤ i
              ·
                skip
                refine xc_cond s75 (fun hc => by cases hc) (fun _ => ?_)
                refine xc_skip ?_
                refine hK22 _ _ ?_
                refine xc_seq (fun K hK27 => ?_)
                refine xc_region ?_
                refine x_val (r_loadAgg h 1 rfl Try.isAgg26 Try.sizeOf26 s2 (Ok.le (by first | assumption | exact Ok.node (by assumption) | exact ChOk.ok (by assumption))) (ext_full (Ok.size (by first | assumption | exact Ok.node (by assumption) | exact ChOk.ok (by assumption))))) (nd_of rfl) rfl ?_
                refine x_val (r_move (en rfl s9)) (nd_of rfl) rfl ?_
                refine x_enter (r_call Try.call16 (.cons (en rfl es) (.cons es .nil))) (nd_of rfl) rfl (chAt_far ho h4 h) ?_
                rintro _ w ⟨rfl, h⟩
                refine x_val (r_move es) (nd_of rfl) rfl ?_
                refine x_val (r_extract es gc0) (nd_of rfl) rfl ?_
                refine x_val (r_extract (en rfl es) gc1) (nd_of rfl) rfl ?_
                refine x_val (r_assign (en rfl es)) (nd_of rfl) rfl ?_
                refine x_val (r_assign (en rfl es)) (nd_of rfl) rfl ?_
                refine xw_nil ?_
                refine hK27 _ _ ?_
                refine xc_gen (fun g hg => ?_)
                have s0 := (hg 0).trans (en rfl (en rfl (en rfl (en rfl (en rfl (en rfl (en rfl (en rfl s0))))))))
                have s1 := (hg 1).trans (en rfl (en rfl (en rfl (en rfl (en rfl (en rfl (en rfl (en rfl s1))))))))
                have s2 := (hg 2).trans (en rfl (en rfl (en rfl (en rfl (en rfl (en rfl (en rfl (en rfl s2))))))))
                have s5 := (hg 5).trans (en rfl (en rfl (en rfl (en rfl (en rfl (en rfl (en rfl (en rfl s5))))))))
                have s6 := (hg 6).trans (en rfl (en rfl (en rfl (en rfl (en rfl (en rfl (en rfl (en rfl s6))))))))
                have s8 := (hg 8).trans (en rfl (en rfl (en rfl (en rfl (en rfl (en rfl (en rfl (en rfl s8))))))))
                have s9 := (hg 9).trans (en rfl (en rfl (en rfl (en rfl (en rfl (en rfl (en rfl (en rfl s9))))))))
                have s10 := (hg 10).trans (en rfl es)
                have s11 := (hg 11).trans es
                have s36 := (hg 36).trans (en rfl (en rfl (en rfl (en rfl (en rfl (en rfl (en rfl (en rfl s36))))))))
                have s38 := (hg 38).trans (en rfl (en rfl (en rfl (en rfl (en rfl (en rfl (en rfl (en rfl s38))))))))
                have s39 := (hg 39).trans (en rfl (en rfl (en rfl (en rfl (en rfl (en rfl (en rfl (en rfl s39))))))))
                have s40 := (hg 40).trans (en rfl (en rfl (en rfl (en rfl (en rfl (en rfl (en rfl (en rfl s40))))))))
                have s50 := (hg 50).trans (en rfl (en rfl (en rfl (en rfl (en rfl (en rfl (en rfl (en rfl s50))))))))
                have s68 := (hg 68).trans (en rfl (en rfl (en rfl (en rfl (en rfl (en rfl (en rfl (en rfl s68))))))))
                have s75 := (hg 75).trans (en rfl (en rfl (en rfl (en rfl (en rfl (en rfl (en rfl (en rfl s75))))))))
                clear hg
                refine xc_seq (fun K hK28 => ?_)
                refine xc_region ?_
                refine x_val (r_move s9) (nd_of rfl) rfl ?_
                refine x_val (r_lss es ec (decide_eq_false (by omega))) (nd_of rfl) rfl ?_
                refine x_val (r_move es) (nd_of rfl) rfl ?_
                refine x_take (d := 84) rfl rfl es ?_
                refine x_val (r_move (en rfl (en rfl (en rfl s9)))) (nd_of rfl) rfl ?_
                refine x_take (d := 84) rfl rfl (en rfl es) ?_
                refine x_val (r_move (en rfl (en rfl (en rfl (en rfl s1))))) (nd_of rfl) rfl ?_
                refine x_take (d := 84) rfl rfl (en rfl (en rfl es)) ?_
                refine x_val (r_len Try.underlying22 es) (nd_of rfl) rfl ?_
                refine x_take (d := 84) rfl rfl (en rfl (en rfl (en rfl es))) ?_
                refine x_val (r_geq (en rfl (en rfl es)) es (decide_eq_true (by omega))) (nd_of rfl) rfl ?_
                refine x_val (r_pick_f (en rfl (en rfl (en rfl (en rfl es)))) es) (nd_of rfl) rfl ?_
                refine xw_nil ?_
                refine hK28 _ _ ?_
                refine xc_gen (fun g hg => ?_)
                have s0 := (hg 0).trans (en rfl (en rfl (en rfl (en rfl (en rfl (en rfl (en rfl (en rfl s0))))))))
                have s1 := (hg 1).trans (en rfl (en rfl (en rfl (en rfl (en rfl (en rfl (en rfl (en rfl s1))))))))
                have s2 := (hg 2).trans (en rfl (en rfl (en rfl (en rfl (en rfl (en rfl (en rfl (en rfl s2))))))))
                have s5 := (hg 5).trans (en rfl (en rfl (en rfl (en rfl (en rfl (en rfl (en rfl (en rfl s5))))))))
                have s6 := (hg 6).trans (en rfl (en rfl (en rfl (en rfl (en rfl (en rfl (en rfl (en rfl s6))))))))
                have s8 := (hg 8).trans (en rfl (en rfl (en rfl (en rfl (en rfl (en rfl (en rfl (en rfl s8))))))))
                have s9 := (hg 9).trans (en rfl (en rfl (en rfl (en rfl (en rfl (en rfl (en rfl (en rfl s9))))))))
                have s10 := (hg 10).trans (en rfl (en rfl (en rfl (en rfl (en rfl (en rfl (en rfl (en rfl s10))))))))
                have s11 := (hg 11).trans (en rfl (en rfl (en rfl (en rfl (en rfl (en rfl (en rfl (en rfl s11))))))))
                have s36 := (hg 36).trans (en rfl (en rfl (en rfl (en rfl (en rfl (en rfl (en rfl (en rfl s36))))))))
                have s38 := (hg 38).trans (en rfl (en rfl (en rfl (en rfl (en rfl (en rfl (en rfl (en rfl s38))))))))
                have s39 := (hg 39).trans (en rfl (en rfl (en rfl (en rfl (en rfl (en rfl (en rfl (en rfl s39))))))))
                have s40 := (hg 40).trans (en rfl (en rfl (en rfl (en rfl (en rfl (en rfl (en rfl (en rfl s40))))))))
                have s50 := (hg 50).trans (en rfl (en rfl (en rfl (en rfl (en rfl (en rfl (en rfl (en rfl s50))))))))
                have s68 := (hg 68).trans (en rfl (en rfl (en rfl (en rfl (en rfl (en rfl (en rfl (en rfl s68))))))))
                have s75 := (hg 75).trans (en rfl (en rfl (en rfl (en rfl (en rfl (en rfl (en rfl (en rfl s75))))))))
                have s89 := (hg 89).trans es
                clear hg
                refine xc_cond s89 (fun _ => ?_) (fun hc => by cases hc)
                refine xc_seq (fun K hK29 => ?_)
                refine xc_region ?_
                refine x_val (r_move s10) (nd_of rfl) rfl ?_
                refine x_val (r_neq es ec (r := false) rfl) (nd_of rfl) rfl ?_
                refine x_val (r_move es) (nd_of rfl) rfl ?_
                refine x_take (d := 92) rfl rfl es ?_
                refine x_val (r_move (en rfl (en rfl (en rfl s11)))) (nd_of rfl) rfl ?_
                refine x_take (d := 92) rfl rfl (en rfl es) ?_
                refine x_val (r_neq es ec (r := false) rfl) (nd_of rfl) rfl ?_
                refine x_val (r_pick_f (en rfl (en rfl es)) es) (nd_of rfl) rfl ?_
                refine xw_nil ?_
                refine hK29 _ _ ?_
                refine xc_gen (fun g hg => ?_)
                have s0 := (hg 0).trans (en rfl (en rfl (en rfl (en rfl (en rfl (en rfl s0))))))
                have s1 := (hg 1).trans (en rfl (en rfl (en rfl (en rfl (en rfl (en rfl s1))))))
                have s2 := (hg 2).trans (en rfl (en rfl (en rfl (en rfl (en rfl (en rfl s2))))))
                have s5 := (hg 5).trans (en rfl (en rfl (en rfl (en rfl (en rfl (en rfl s5))))))
                have s6 := (hg 6).trans (en rfl (en rfl (en rfl (en rfl (en rfl (en rfl s6))))))
                have s8 := (hg 8).trans (en rfl (en rfl (en rfl (en rfl (en rfl (en rfl s8))))))
                have s9 := (hg 9).trans (en rfl (en rfl (en rfl (en rfl (en rfl (en rfl s9))))))
                have s10 := (hg 10).trans (en rfl (en rfl (en rfl (en rfl (en rfl (en rfl s10))))))
                have s11 := (hg 11).trans (en rfl (en rfl (en rfl (en rfl (en rfl (en rfl s11))))))
                have s36 := (hg 36).trans (en rfl (en rfl (en rfl (en rfl (en rfl (en rfl s36))))))
                have s38 := (hg 38).trans (en rfl (en rfl (en rfl (en rfl (en rfl (en rfl s38))))))
                have s39 := (hg 39).trans (en rfl (en rfl (en rfl (en rfl (en rfl (en rfl s39))))))
                have s40 := (hg 40).trans (en rfl (en rfl (en rfl (en rfl (en rfl (en rfl s40))))))
                have s50 := (hg 50).trans (en rfl (en rfl (en rfl (en rfl (en rfl (en rfl s50))))))
                have s68 := (hg 68).trans (en rfl (en rfl (en rfl (en rfl (en rfl (en rfl s68))))))
                have s75 := (hg 75).trans (en rfl (en rfl (en rfl (en rfl (en rfl (en rfl s75))))))
                have s89 := (hg 89).trans (en rfl (en rfl (en rfl (en rfl (en rfl (en rfl s89))))))
                have s95 := (hg 95).trans es
                clear hg
                refine xc_cond s95 (fun hc => by cases hc) (fun _ => ?_)
                refine xc_skip ?_
                refine hK19 _ _ ?_
                refine xc_region ?_
                refine x_val (r_move s9) (nd_of rfl) rfl ?_
                refine x_val (r_add es ec (show _ = (i + 1 : Int) from by rfl) (by unfold I64; omega)) (nd_of rfl) rfl ?_
                refine x_val (r_assign es) (nd_of rfl) rfl ?_
                refine xw_nil ?_
                exact ⟨(zs.length + 2 - (i + 1)).toNat, by omega, ⟨i + 1, rfl, by omega, by omega, es, by rw [show i + 1 - 1 = i by omega]; exact (en rfl (en rfl (en rfl s8))), h⟩, ⟨((en rfl (en rfl (en rfl s0)))).trans z0.symm, ((en rfl (en rfl (en rfl s1)))).trans z1.symm, ((en rfl (en rfl (en rfl s2)))).trans z2.symm, ((en rfl (en rfl (en rfl s5)))).trans z5.symm, ((en rfl (en rfl (en rfl s6)))).trans z6.symm, ((en rfl (en rfl (en rfl s36)))).trans z36.symm, ((en rfl (en rfl (en rfl s38)))).trans z38.symm, ((en rfl (en rfl (en rfl s39)))).trans z39.symm, ((en rfl (en rfl (en rfl s40)))).trans z40.symm⟩⟩
              ·
                skip
                refine xc_cond s75 (fun hc => by cases hc) (fun _ => ?_)
                refine xc_skip ?_
                refine hK22 _ _ ?_
                refine xc_seq (fun K hK30 => ?_)
                obtain ⟨r3, hr3⟩ : ∃ r, zs[i.toNat]? = some r := ⟨_, List.getElem?_eq_getElem (by omega)⟩
                obtain ⟨a3, e3, hcell3⟩ := hv.get h.drop.drop hr3
                cases e3
                refine xc_region ?_
                refine x_val (r_loadAgg h 1 rfl Try.isAgg26 Try.sizeOf26 s2 (Ok.le (by first | assumption | exact Ok.node (by assumption) | exact ChOk.ok (by assumption))) (ext_full (Ok.size (by first | assumption | exact Ok.node (by assumption) | exact ChOk.ok (by assumption))))) (nd_of rfl) rfl ?_
                refine x_val (r_move (en rfl s9)) (nd_of rfl) rfl ?_
                refine x_enter (r_call Try.call16 (.cons (en rfl es) (.cons es .nil))) (nd_of rfl) rfl (chAt_i ho (by omega) hr3 h) ?_
                rintro _ w ⟨rfl, h⟩
                refine x_val (r_move es) (nd_of rfl) rfl ?_
                refine x_val (r_extract es gc0) (nd_of rfl) rfl ?_
                refine x_val (r_extract (en rfl es) gc1) (nd_of rfl) rfl ?_
                refine x_val (r_assign (en rfl es)) (nd_of rfl) rfl ?_
                refine x_val (r_assign (en rfl es)) (nd_of rfl) rfl ?_
                refine xw_nil ?_
                refine hK30 _ _ ?_
                refine xc_gen (fun g hg => ?_)
                have s0 := (hg 0).trans (en rfl (en rfl (en rfl (en rfl (en rfl (en rfl (en rfl (en rfl s0))))))))
                have s1 := (hg 1).trans (en rfl (en rfl (en rfl (en rfl (en rfl (en rfl (en rfl (en rfl s1))))))))
                have s2 := (hg 2).trans (en rfl (en rfl (en rfl (en rfl (en rfl (en rfl (en rfl (en rfl s2))))))))
                have s5 := (hg 5).trans (en rfl (en rfl (en rfl (en rfl (en rfl (en rfl (en rfl (en rfl s5))))))))
                have s6 := (hg 6).trans (en rfl (en rfl (en rfl (en rfl (en rfl (en rfl (en rfl (en rfl s6))))))))
                have s8 := (hg 8).trans (en rfl (en rfl (en rfl (en rfl (en rfl (en rfl (en rfl (en rfl s8))))))))
                have s9 := (hg 9).trans (en rfl (en rfl (en rfl (en rfl (en rfl (en rfl (en rfl (en rfl s9))))))))
                have s10 := (hg 10).trans (en rfl es)
                have s11 := (hg 11).trans es
                have s36 := (hg 36).trans (en rfl (en rfl (en rfl (en rfl (en rfl (en rfl (en rfl (en rfl s36))))))))
                have s38 := (hg 38).trans (en rfl (en rfl (en rfl (en rfl (en rfl (en rfl (en rfl (en rfl s38))))))))
                have s39 := (hg 39).trans (en rfl (en rfl (en rfl (en rfl (en rfl (en rfl (en rfl (en rfl s39))))))))
                have s40 := (hg 40).trans (en rfl (en rfl (en rfl (en rfl (en rfl (en rfl (en rfl (en rfl s40))))))))
                have s50 := (hg 50).trans (en rfl (en rfl (en rfl (en rfl (en rfl (en rfl (en rfl (en rfl s50))))))))
                have s68 := (hg 68).trans (en rfl (en rfl (en rfl (en rfl (en rfl (en rfl (en rfl (en rfl s68))))))))
                have s75 := (hg 75).trans (en rfl (en rfl (en rfl (en rfl (en rfl (en rfl (en rfl (en rfl s75))))))))
                clear hg
                refine xc_seq (fun K hK31 => ?_)
                refine xc_region ?_
                refine x_val (r_move s9) (nd_of rfl) rfl ?_
                refine x_val (r_lss es ec (decide_eq_false (by omega))) (nd_of rfl) rfl ?_
                refine x_val (r_move es) (nd_of rfl) rfl ?_
                refine x_take (d := 84) rfl rfl es ?_
                refine x_val (r_move (en rfl (en rfl (en rfl s9)))) (nd_of rfl) rfl ?_
                refine x_take (d := 84) rfl rfl (en rfl es) ?_
                refine x_val (r_move (en rfl (en rfl (en rfl (en rfl s1))))) (nd_of rfl) rfl ?_
                refine x_take (d := 84) rfl rfl (en rfl (en rfl es)) ?_
                refine x_val (r_len Try.underlying22 es) (nd_of rfl) rfl ?_
                refine x_take (d := 84) rfl rfl (en rfl (en rfl (en rfl es))) ?_
                refine x_val (r_geq (en rfl (en rfl es)) es (decide_eq_false (by omega))) (nd_of rfl) rfl ?_
                refine x_val (r_pick_f (en rfl (en rfl (en rfl (en rfl es)))) es) (nd_of rfl) rfl ?_
                refine xw_nil ?_
                refine hK31 _ _ ?_
                refine xc_gen (fun g hg => ?_)
                have s0 := (hg 0).trans (en rfl (en rfl (en rfl (en rfl (en rfl (en rfl (en rfl (en rfl s0))))))))
                have s1 := (hg 1).trans (en rfl (en rfl (en rfl (en rfl (en rfl (en rfl (en rfl (en rfl s1))))))))
                have s2 := (hg 2).trans (en rfl (en rfl (en rfl (en rfl (en rfl (en rfl (en rfl (en rfl s2))))))))
                have s5 := (hg 5).trans (en rfl (en rfl (en rfl (en rfl (en rfl (en rfl (en rfl (en rfl s5))))))))
                have s6 := (hg 6).trans (en rfl (en rfl (en rfl (en rfl (en rfl (en rfl (en rfl (en rfl s6))))))))
                have s8 := (hg 8).trans (en rfl (en rfl (en rfl (en rfl (en rfl (en rfl (en rfl (en rfl s8))))))))
                have s9 := (hg 9).trans (en rfl (en rfl (en rfl (en rfl (en rfl (en rfl (en rfl (en rfl s9))))))))
                have s10 := (hg 10).trans (en rfl (en rfl (en rfl (en rfl (en rfl (en rfl (en rfl (en rfl s10))))))))
                have s11 := (hg 11).trans (en rfl (en rfl (en rfl (en rfl (en rfl (en rfl (en rfl (en rfl s11))))))))
                have s36 := (hg 36).trans (en rfl (en rfl (en rfl (en rfl (en rfl (en rfl (en rfl (en rfl s36))))))))
                have s38 := (hg 38).trans (en rfl (en rfl (en rfl (en rfl (en rfl (en rfl (en rfl (en rfl s38))))))))
                have s39 := (hg 39).trans (en rfl (en rfl (en rfl (en rfl (en rfl (en rfl (en rfl (en rfl s39))))))))
                have s40 := (hg 40).trans (en rfl (en rfl (en rfl (en rfl (en rfl (en rfl (en rfl (en rfl s40))))))))
                have s50 := (hg 50).trans (en rfl (en rfl (en rfl (en rfl (en rfl (en rfl (en rfl (en rfl s50))))))))
                have s68 := (hg 68).trans (en rfl (en rfl (en rfl (en rfl (en rfl (en rfl (en rfl (en rfl s68))))))))
                have s75 := (hg 75).trans (en rfl (en rfl (en rfl (en rfl (en rfl (en rfl (en rfl (en rfl s75))))))))
                have s89 := (hg 89).trans es
                clear hg
                refine xc_cond s89 (fun hc => by cases hc) (fun _ => ?_)
                refine xc_seq (fun K hK32 => ?_)
                refine xc_region ?_
                refine x_val (r_move s10) (nd_of rfl) rfl ?_
                refine x_val (r_move (en rfl s1)) (nd_of rfl) rfl ?_
                refine x_val (r_move (en rfl (en rfl s9))) (nd_of rfl) rfl ?_
                refine x_val (r_indexAny Try.underlying22 Try.sizeOf21 (en rfl es) es (by omega) (by omega)) (nd_of rfl) rfl ?_
                refine x_val (r_loadCell Try.isAgg21 es (by obtain ⟨b1, e1, c1⟩ := hv.get h.drop.drop hr3; cases e1; rw [Nat.mul_one]; exact c1)) (nd_of rfl) rfl ?_
                refine x_val (r_neq (en rfl (en rfl (en rfl (en rfl es)))) es (decide_eq_false (by omega))) (nd_of rfl) rfl ?_
                refine x_val (r_move es) (nd_of rfl) rfl ?_
                refine x_take (d := 102) rfl rfl es ?_
                refine x_val (r_move (en rfl (en rfl (en rfl (en rfl (en rfl (en rfl (en rfl s11)))))))) (nd_of rfl) rfl ?_
                refine x_take (d := 102) rfl rfl (en rfl es) ?_
                refine x_val (r_neq es ec (r := false) rfl) (nd_of rfl) rfl ?_
                refine x_val (r_pick_f (en rfl (en rfl es)) es) (nd_of rfl) rfl ?_
                refine xw_nil ?_
                refine hK32 _ _ ?_
                refine xc_gen (fun g hg => ?_)
                have s0 := (hg 0).trans (en rfl (en rfl (en rfl (en rfl (en rfl (en rfl (en rfl (en rfl (en rfl (en rfl s0))))))))))
                have s1 := (hg 1).trans (en rfl (en rfl (en rfl (en rfl (en rfl (en rfl (en rfl (en rfl (en rfl (en rfl s1))))))))))
                have s2 := (hg 2).trans (en rfl (en rfl (en rfl (en rfl (en rfl (en rfl (en rfl (en rfl (en rfl (en rfl s2))))))))))
                have s5 := (hg 5).trans (en rfl (en rfl (en rfl (en rfl (en rfl (en rfl (en rfl (en rfl (en rfl (en rfl s5))))))))))
                have s6 := (hg 6).trans (en rfl (en rfl (en rfl (en rfl (en rfl (en rfl (en rfl (en rfl (en rfl (en rfl s6))))))))))
                have s8 := (hg 8).trans (en rfl (en rfl (en rfl (en rfl (en rfl (en rfl (en rfl (en rfl (en rfl (en rfl s8))))))))))
                have s9 := (hg 9).trans (en rfl (en rfl (en rfl (en rfl (en rfl (en rfl (en rfl (en rfl (en rfl (en rfl s9))))))))))
                have s10 := (hg 10).trans (en rfl (en rfl (en rfl (en rfl (en rfl (en rfl (en rfl (en rfl (en rfl (en rfl s10))))))))))
                have s11 := (hg 11).trans (en rfl (en rfl (en rfl (en rfl (en rfl (en rfl (en rfl (en rfl (en rfl (en rfl s11))))))))))
                have s36 := (hg 36).trans (en rfl (en rfl (en rfl (en rfl (en rfl (en rfl (en rfl (en rfl (en rfl (en rfl s36))))))))))
                have s38 := (hg 38).trans (en rfl (en rfl (en rfl (en rfl (en rfl (en rfl (en rfl (en rfl (en rfl (en rfl s38))))))))))
                have s39 := (hg 39).trans (en rfl (en rfl (en rfl (en rfl (en rfl (en rfl (en rfl (en rfl (en rfl (en rfl s39))))))))))
                have s40 := (hg 40).trans (en rfl (en rfl (en rfl (en rfl (en rfl (en rfl (en rfl (en rfl (en rfl (en rfl s40))))))))))
                have s50 := (hg 50).trans (en rfl (en rfl (en rfl (en rfl (en rfl (en rfl (en rfl (en rfl (en rfl (en rfl s50))))))))))
                have s68 := (hg 68).trans (en rfl (en rfl (en rfl (en rfl (en rfl (en rfl (en rfl (en rfl (en rfl (en rfl s68))))))))))
                have s75 := (hg 75).trans (en rfl (en rfl (en rfl (en rfl (en rfl (en rfl (en rfl (en rfl (en rfl (en rfl s75))))))))))
                have s89 := (hg 89).trans (en rfl (en rfl (en rfl (en rfl (en rfl (en rfl (en rfl (en rfl (en rfl (en rfl s89))))))))))
                have s105 := (hg 105).trans es
                clear hg
                refine xc_cond s105 (fun hc => by cases hc) (fun _ => ?_)
                refine xc_skip ?_
                refine hK19 _ _ ?_
                refine xc_region ?_
                refine x_val (r_move s9) (nd_of rfl) rfl ?_
                refine x_val (r_add es ec (show _ = (i + 1 : Int) from by rfl) (by unfold I64; omega)) (nd_of rfl) rfl ?_
                refine x_val (r_assign es) (nd_of rfl) rfl ?_
                refine xw_nil ?_
                exact ⟨(zs.length + 2 - (i + 1)).toNat, by omega, ⟨i + 1, rfl, by omega, by omega, es, by rw [show i + 1 - 1 = i by omega]; exact (en rfl (en rfl (en rfl s8))), h⟩, ⟨((en rfl (en rfl (en rfl s0)))).trans z0.symm, ((en rfl (en rfl (en rfl s1)))).trans z1.symm, ((en rfl (en rfl (en rfl s2)))).trans z2.symm, ((en rfl (en rfl (en rfl s5)))).trans z5.symm, ((en rfl (en rfl (en rfl s6)))).trans z6.symm, ((en rfl (en rfl (en rfl s36)))).trans z36.symm, ((en rfl (en rfl (en rfl s38)))).trans z38.symm, ((en rfl (en rfl (en rfl s39)))).trans z39.symm, ((en rfl (en rfl (en rfl s40)))).trans z40.symm⟩⟩
          ·
            refine xc_skip ?_
            refine hK20 _ _ ?_
            refine xc_seq (fun K hK33 => ?_)
            refine xc_seq (fun K hK34 => ?_)
            have h10 : ¬ r = 10 := of_decide_eq_false (by assumption)
            rw [if_neg (fun hh => h10 (by simpa using hh.2))] at hci
            have s8 : g 8 = .int .i64 ((zs.take i.toNat).count 10 : Int) := by rw [s8, hci, hj2]; rfl
            refine xc_region ?_
            refine x_val (r_loadAgg h 1 rfl Try.isAgg26 Try.sizeOf26 s2 (Ok.le (by first | assumption | exact Ok.node (by assumption) | exact ChOk.ok (by assumption))) (ext_full (Ok.size (by first | assumption | exact Ok.node (by assumption) | exact ChOk.ok (by assumption))))) (nd_of rfl) rfl ?_
            refine x_val (r_move (en rfl s9)) (nd_of rfl) rfl ?_
            refine x_enter (r_call Try.call17 (.cons (en rfl es) (.cons es .nil))) (nd_of rfl) rfl (ahead_ok ho h) ?_
            rintro _ w ⟨rfl, h⟩
            refine x_val (r_move (en rfl (en rfl (en rfl s8)))) (nd_of rfl) rfl ?_
            refine x_val (r_neq (en rfl es) es (decide_eq_false (by omega))) (nd_of rfl) rfl ?_
            refine xw_nil ?_
            refine hK34 _ _ ?_
            refine xc_gen (fun g hg => ?_)
            have s0 := (hg 0).trans (en rfl (en rfl (en rfl (en rfl (en rfl s0)))))
            have s1 := (hg 1).trans (en rfl (en rfl (en rfl (en rfl (en rfl s1)))))
            have s2 := (hg 2).trans (en rfl (en rfl (en rfl (en rfl (en rfl s2)))))
            have s5 := (hg 5).trans (en rfl (en rfl (en rfl (en rfl (en rfl s5)))))
            have s6 := (hg 6).trans (en rfl (en rfl (en rfl (en rfl (en rfl s6)))))
            have s8 := (hg 8).trans (en rfl (en rfl (en rfl (en rfl (en rfl s8)))))
            have s9 := (hg 9).trans (en rfl (en rfl (en rfl (en rfl (en rfl s9)))))
            have s36 := (hg 36).trans (en rfl (en rfl (en rfl (en rfl (en rfl s36)))))
            have s38 := (hg 38).trans (en rfl (en rfl (en rfl (en rfl (en rfl s38)))))
            have s39 := (hg 39).trans (en rfl (en rfl (en rfl (en rfl (en rfl s39)))))
            have s40 := (hg 40).trans (en rfl (en rfl (en rfl (en rfl (en rfl s40)))))
            have s50 := (hg 50).trans (en rfl (en rfl (en rfl (en rfl (en rfl s50)))))
            have s68 := (hg 68).trans (en rfl (en rfl (en rfl (en rfl (en rfl s68)))))
            have s75 := (hg 75).trans es
            clear hg
            by_cases h3 : i < 0
            ·
              skip
              refine xc_cond s75 (fun hc => by cases hc) (fun _ => ?_)
              refine xc_skip ?_
              refine hK33 _ _ ?_
              refine xc_seq (fun K hK35 => ?_)
              refine xc_region ?_
              refine x_val (r_loadAgg h 1 rfl Try.isAgg26 Try.sizeOf26 s2 (Ok.le (by first | assumption | exact Ok.node (by assumption) | exact ChOk.ok (by assumption))) (ext_full (Ok.size (by first | assumption | exact Ok.node (by assumption) | exact ChOk.ok (by assumption))))) (nd_of rfl) rfl ?_
              refine x_val (r_move (en rfl s9)) (nd_of rfl) rfl ?_
              refine x_enter (r_call Try.call16 (.cons (en rfl es) (.cons es .nil))) (nd_of rfl) rfl (chAt_neg h3 h) ?_
              rintro _ w ⟨rfl, h⟩
              refine x_val (r_move es) (nd_of rfl) rfl ?_
              refine x_val (r_extract es gc0) (nd_of rfl) rfl ?_
              refine x_val (r_extract (en rfl es) gc1) (nd_of rfl) rfl ?_
              refine x_val (r_assign (en rfl es)) (nd_of rfl) rfl ?_
              refine x_val (r_assign (en rfl es)) (nd_of rfl) rfl ?_
              refine xw_nil ?_
              refine hK35 _ _ ?_
              refine xc_gen (fun g hg => ?_)
              have s0 := (hg 0).trans (en rfl (en rfl (en rfl (en rfl (en rfl (en rfl (en rfl (en rfl s0))))))))
              have s1 := (hg 1).trans (en rfl (en rfl (en rfl (en rfl (en rfl (en rfl (en rfl (en rfl s1))))))))
              have s2 := (hg 2).trans (en rfl (en rfl (en rfl (en rfl (en rfl (en rfl (en rfl (en rfl s2))))))))
              have s5 := (hg 5).trans (en rfl (en rfl (en rfl (en rfl (en rfl (en rfl (en rfl (en rfl s5))))))))
              have s6 := (hg 6).trans (en rfl (en rfl (en rfl (en rfl (en rfl (en rfl (en rfl (en rfl s6))))))))
              have s8 := (hg 8).trans (en rfl (en rfl (en rfl (en rfl (en rfl (en rfl (en rfl (en rfl s8))))))))
              have s9 := (hg 9).trans (en rfl (en rfl (en rfl (en rfl (en rfl (en rfl (en rfl (en rfl s9))))))))
              have s10 := (hg 10).trans (en rfl es)
              have s11 := (hg 11).trans es
              have s36 := (hg 36).trans (en rfl (en rfl (en rfl (en rfl (en rfl (en rfl (en rfl (en rfl s36))))))))
              have s38 := (hg 38).trans (en rfl (en rfl (en rfl (en rfl (en rfl (en rfl (en rfl (en rfl s38))))))))
              have s39 := (hg 39).trans (en rfl (en rfl (en rfl (en rfl (en rfl (en rfl (en rfl (en rfl s39))))))))
              have s40 := (hg 40).trans (en rfl (en rfl (en rfl (en rfl (en rfl (en rfl (en rfl (en rfl s40))))))))
              have s50 := (hg 50).trans (en rfl (en rfl (en rfl (en rfl (en rfl (en rfl (en rfl (en rfl s50))))))))
              have s68 := (hg 68).trans (en rfl (en rfl (en rfl (en rfl (en rfl (en rfl (en rfl (en rfl s68))))))))
              have s75 := (hg 75).trans (en rfl (en rfl (en rfl (en rfl (en rfl (en rfl (en rfl (en rfl s75))))))))
              clear hg
              refine xc_seq (fun K hK36 => ?_)
              refine xc_region ?_
              refine x_val (r_move s9) (nd_of rfl) rfl ?_
              refine x_val (r_lss es ec (decide_eq_true (by omega))) (nd_of rfl) rfl ?_
              refine x_val (r_move es) (nd_of rfl) rfl ?_
              refine x_pass (d := 84) rfl rfl es rfl ?_
              refine x_pass (d := 84) rfl rfl (en rfl es) rfl ?_
              refine x_pass (d := 84) rfl rfl (en rfl (en rfl es)) rfl ?_
              refine x_pass (d := 84) rfl rfl (en rfl (en rfl (en rfl es))) rfl ?_
              refine x_val (r_pick_t (en rfl (en rfl (en rfl (en rfl es)))) ec) (nd_of rfl) rfl ?_
              refine xw_nil ?_
              refine hK36 _ _ ?_
              refine xc_gen (fun g hg => ?_)
              have s0 := (hg 0).trans (en rfl (en rfl (en rfl (en rfl (en rfl (en rfl (en rfl (en rfl s0))))))))
              have s1 := (hg 1).trans (en rfl (en rfl (en rfl (en rfl (en rfl (en rfl (en rfl (en rfl s1))))))))
              have s2 := (hg 2).trans (en rfl (en rfl (en rfl (en rfl (en rfl (en rfl (en rfl (en rfl s2))))))))
              have s5 := (hg 5).trans (en rfl (en rfl (en rfl (en rfl (en rfl (en rfl (en rfl (en rfl s5))))))))
              have s6 := (hg 6).trans (en rfl (en rfl (en rfl (en rfl (en rfl (en rfl (en rfl (en rfl s6))))))))
              have s8 := (hg 8).trans (en rfl (en rfl (en rfl (en rfl (en rfl (en rfl (en rfl (en rfl s8))))))))
              have s9 := (hg 9).trans (en rfl (en rfl (en rfl (en rfl (en rfl (en rfl (en rfl (en rfl s9))))))))
              have s10 := (hg 10).trans (en rfl (en rfl (en rfl (en rfl (en rfl (en rfl (en rfl (en rfl s10))))))))
              have s11 := (hg 11).trans (en rfl (en rfl (en rfl (en rfl (en rfl (en rfl (en rfl (en rfl s11))))))))
              have s36 := (hg 36).trans (en rfl (en rfl (en rfl (en rfl (en rfl (en rfl (en rfl (en rfl s36))))))))
              have s38 := (hg 38).trans (en rfl (en rfl (en rfl (en rfl (en rfl (en rfl (en rfl (en rfl s38))))))))
              have s39 := (hg 39).trans (en rfl (en rfl (en rfl (en rfl (en rfl (en rfl (en rfl (en rfl s39))))))))
              have s40 := (hg 40).trans (en rfl (en rfl (en rfl (en rfl (en rfl (en rfl (en rfl (en rfl s40))))))))
              have s50 := (hg 50).trans (en rfl (en rfl (en rfl (en rfl (en rfl (en rfl (en rfl (en rfl s50))))))))
              have s68 := (hg 68).trans (en rfl (en rfl (en rfl (en rfl (en rfl (en rfl (en rfl (en rfl s68))))))))
              have s75 := (hg 75).trans (en rfl (en rfl (en rfl (en rfl (en rfl (en rfl (en rfl (en rfl s75))))))))
              have s89 := (hg 89).trans es
              clear hg
              refine xc_cond s89 (fun _ => ?_) (fun hc => by cases hc)
              refine xc_seq (fun K hK37 => ?_)
              refine xc_region ?_
              refine x_val (r_move s10) (nd_of rfl) rfl ?_
              refine x_val (r_neq es ec (r := false) rfl) (nd_of rfl) rfl ?_
              refine x_val (r_move es) (nd_of rfl) rfl ?_
              refine x_take (d := 92) rfl rfl es ?_
              refine x_val (r_move (en rfl (en rfl (en rfl s11)))) (nd_of rfl) rfl ?_
              refine x_take (d := 92) rfl rfl (en rfl es) ?_
              refine x_val (r_neq es ec (r := false) rfl) (nd_of rfl) rfl ?_
              refine x_val (r_pick_f (en rfl (en rfl es)) es) (nd_of rfl) rfl ?_
              refine xw_nil ?_
              refine hK37 _ _ ?_
              refine xc_gen (fun g hg => ?_)
              have s0 := (hg 0).trans (en rfl (en rfl (en rfl (en rfl (en rfl (en rfl s0))))))
              have s1 := (hg 1).trans (en rfl (en rfl (en rfl (en rfl (en rfl (en rfl s1))))))
              have s2 := (hg 2).trans (en rfl (en rfl (en rfl (en rfl (en rfl (en rfl s2))))))
              have s5 := (hg 5).trans (en rfl (en rfl (en rfl (en rfl (en rfl (en rfl s5))))))
              have s6 := (hg 6).trans (en rfl (en rfl (en rfl (en rfl (en rfl (en rfl s6))))))
              have s8 := (hg 8).trans (en rfl (en rfl (en rfl (en rfl (en rfl (en rfl s8))))))
              have s9 := (hg 9).trans (en rfl (en rfl (en rfl (en rfl (en rfl (en rfl s9))))))
              have s10 := (hg 10).trans (en rfl (en rfl (en rfl (en rfl (en rfl (en rfl s10))))))
              have s11 := (hg 11).trans (en rfl (en rfl (en rfl (en rfl (en rfl (en rfl s11))))))
              have s36 := (hg 36).trans (en rfl (en rfl (en rfl (en rfl (en rfl (en rfl s36))))))
              have s38 := (hg 38).trans (en rfl (en rfl (en rfl (en rfl (en rfl (en rfl s38))))))
              have s39 := (hg 39).trans (en rfl (en rfl (en rfl (en rfl (en rfl (en rfl s39))))))
              have s40 := (hg 40).trans (en rfl (en rfl (en rfl (en rfl (en rfl (en rfl s40))))))
              have s50 := (hg 50).trans (en rfl (en rfl (en rfl (en rfl (en rfl (en rfl s50))))))
              have s68 := (hg 68).trans (en rfl (en rfl (en rfl (en rfl (en rfl (en rfl s68))))))
              have s75 := (hg 75).trans (en rfl (en rfl (en rfl (en rfl (en rfl (en rfl s75))))))
              have s89 := (hg 89).trans (en rfl (en rfl (en rfl (en rfl (en rfl (en rfl s89))))))
              have s95 := (hg 95).trans es
              clear hg
              refine xc_cond s95 (fun hc => by cases hc) (fun _ => ?_)
              refine xc_skip ?_
              refine hK19 _ _ ?_
              refine xc_region ?_
              refine x_val (r_move s9) (nd_of rfl) rfl ?_
              refine x_val (r_add es ec (show _ = (i + 1 : Int) from by rfl) (by unfold I64; omega)) (nd_of rfl) rfl ?_
              refine x_val (r_assign es) (nd_of rfl) rfl ?_
              refine xw_nil ?_
              exact ⟨(zs.length + 2 - (i + 1)).toNat, by omega, ⟨i + 1, rfl, by omega, by omega, es, by rw [show i + 1 - 1 = i by omega]; exact (en rfl (en rfl (en rfl s8))), h⟩, ⟨((en rfl (en rfl (en rfl s0)))).trans z0.symm, ((en rfl (en rfl (en rfl s1)))).trans z1.symm, ((en rfl (en rfl (en rfl s2)))).trans z2.symm, ((en rfl (en rfl (en rfl s5)))).trans z5.symm, ((en rfl (en rfl (en rfl s6)))).trans z6.symm, ((en rfl (en rfl (en rfl s36)))).trans z36.symm, ((en rfl (en rfl (en rfl s38)))).trans z38.symm, ((en rfl (en rfl (en rfl s39)))).trans z39.symm, ((en rfl (en rfl (en rfl s40)))).trans z40.symm⟩⟩
            ·
              skip
              by_cases h4 : (zs.length : Int) ≤ i
              ·
                skip
                refine xc_cond s75 (fun hc => by cases hc) (fun _ => ?_)
                refine xc_skip ?_
                refine hK33 _ _ ?_
                refine xc_seq (fun K hK38 => ?_)
                refine xc_region ?_
                refine x_val (r_loadAgg h 1 rfl Try.isAgg26 Try.sizeOf26 s2 (Ok.le (by first | assumption | exact Ok.node (by assumption) | exact ChOk.ok (by assumption))) (ext_full (Ok.size (by first | assumption | exact Ok.node (by assumption) | exact ChOk.ok (by assumption))))) (nd_of rfl) rfl ?_
                refine x_val (r_move (en rfl s9)) (nd_of rfl) rfl ?_
                refine x_enter (r_call Try.call16 (.cons (en rfl es) (.cons es .nil))) (nd_of rfl) rfl (chAt_far ho h4 h) ?_
                rintro _ w ⟨rfl, h⟩
                refine x_val (r_move es) (nd_of rfl) rfl ?_
                refine x_val (r_extract es gc0) (nd_of rfl) rfl ?_
                refine x_val (r_extract (en rfl es) gc1) (nd_of rfl) rfl ?_
                refine x_val (r_assign (en rfl es)) (nd_of rfl) rfl ?_
                refine x_val (r_assign (en rfl es)) (nd_of rfl) rfl ?_
                refine xw_nil ?_
                refine hK38 _ _ ?_
                refine xc_gen (fun g hg => ?_)
                have s0 := (hg 0).trans (en rfl (en rfl (en rfl (en rfl (en rfl (en rfl (en rfl (en rfl s0))))))))
                have s1 := (hg 1).trans (en rfl (en rfl (en rfl (en rfl (en rfl (en rfl (en rfl (en rfl s1))))))))
                have s2 := (hg 2).trans (en rfl (en rfl (en rfl (en rfl (en rfl (en rfl (en rfl (en rfl s2))))))))
                have s5 := (hg 5).trans (en rfl (en rfl (en rfl (en rfl (en rfl (en rfl (en rfl (en rfl s5))))))))
                have s6 := (hg 6).trans (en rfl (en rfl (en rfl (en rfl (en rfl (en rfl (en rfl (en rfl s6))))))))
                have s8 := (hg 8).trans (en rfl (en rfl (en rfl (en rfl (en rfl (en rfl (en rfl (en rfl s8))))))))
                have s9 := (hg 9).trans (en rfl (en rfl (en rfl (en rfl (en rfl (en rfl (en rfl (en rfl s9))))))))
                have s10 := (hg 10).trans (en rfl es)
                have s11 := (hg 11).trans es
                have s36 := (hg 36).trans (en rfl (en rfl (en rfl (en rfl (en rfl (en rfl (en rfl (en rfl s36))))))))
                have s38 := (hg 38).trans (en rfl (en rfl (en rfl (en rfl (en rfl (en rfl (en rfl (en rfl s38))))))))
                have s39 := (hg 39).trans (en rfl (en rfl (en rfl (en rfl (en rfl (en rfl (en rfl (en rfl s39))))))))
                have s40 := (hg 40).trans (en rfl (en rfl (en rfl (en rfl (en rfl (en rfl (en rfl (en rfl s40))))))))
                have s50 := (hg 50).trans (en rfl (en rfl (en rfl (en rfl (en rfl (en rfl (en rfl (en rfl s50))))))))
                have s68 := (hg 68).trans (en rfl (en rfl (en rfl (en rfl (en rfl (en rfl (en rfl (en rfl s68))))))))
                have s75 := (hg 75).trans (en rfl (en rfl (en rfl (en rfl (en rfl (en rfl (en rfl (en rfl s75))))))))
                clear hg
                refine xc_seq (fun K hK39 => ?_)
                refine xc_region ?_
                refine x_val (r_move s9) (nd_of rfl) rfl ?_
                refine x_val (r_lss es ec (decide_eq_false (by omega))) (nd_of rfl) rfl ?_
                refine x_val (r_move es) (nd_of rfl) rfl ?_
                refine x_take (d := 84) rfl rfl es ?_
                refine x_val (r_move (en rfl (en rfl (en rfl s9)))) (nd_of rfl) rfl ?_
                refine x_take (d := 84) rfl rfl (en rfl es) ?_
                refine x_val (r_move (en rfl (en rfl (en rfl (en rfl s1))))) (nd_of rfl) rfl ?_
                refine x_take (d := 84) rfl rfl (en rfl (en rfl es)) ?_
                refine x_val (r_len Try.underlying22 es) (nd_of rfl) rfl ?_
                refine x_take (d := 84) rfl rfl (en rfl (en rfl (en rfl es))) ?_
                refine x_val (r_geq (en rfl (en rfl es)) es (decide_eq_true (by omega))) (nd_of rfl) rfl ?_
                refine x_val (r_pick_f (en rfl (en rfl (en rfl (en rfl es)))) es) (nd_of rfl) rfl ?_
                refine xw_nil ?_
                refine hK39 _ _ ?_
                refine xc_gen (fun g hg => ?_)
                have s0 := (hg 0).trans (en rfl (en rfl (en rfl (en rfl (en rfl (en rfl (en rfl (en rfl s0))))))))
                have s1 := (hg 1).trans (en rfl (en rfl (en rfl (en rfl (en rfl (en rfl (en rfl (en rfl s1))))))))
                have s2 := (hg 2).trans (en rfl (en rfl (en rfl (en rfl (en rfl (en rfl (en rfl (en rfl s2))))))))
                have s5 := (hg 5).trans (en rfl (en rfl (en rfl (en rfl (en rfl (en rfl (en rfl (en rfl s5))))))))
                have s6 := (hg 6).trans (en rfl (en rfl (en rfl (en rfl (en rfl (en rfl (en rfl (en rfl s6))))))))
                have s8 := (hg 8).trans (en rfl (en rfl (en rfl (en rfl (en rfl (en rfl (en rfl (en rfl s8))))))))
                have s9 := (hg 9).trans (en rfl (en rfl (en rfl (en rfl (en rfl (en rfl (en rfl (en rfl s9))))))))
                have s10 := (hg 10).trans (en rfl (en rfl (en rfl (en rfl (en rfl (en rfl (en rfl (en rfl s10))))))))
                have s11 := (hg 11).trans (en rfl (en rfl (en rfl (en rfl (en rfl (en rfl (en rfl (en rfl s11))))))))
                have s36 := (hg 36).trans (en rfl (en rfl (en rfl (en rfl (en rfl (en rfl (en rfl (en rfl s36))))))))
                have s38 := (hg 38).trans (en rfl (en rfl (en rfl (en rfl (en rfl (en rfl (en rfl (en rfl s38))))))))
                have s39 := (hg 39).trans (en rfl (en rfl (en rfl (en rfl (en rfl (en rfl (en rfl (en rfl s39))))))))
                have s40 := (hg 40).trans (en rfl (en rfl (en rfl (en rfl (en rfl (en rfl (en rfl (en rfl s40))))))))
                have s50 := (hg 50).trans (en rfl (en rfl (en rfl (en rfl (en rfl (en rfl (en rfl (en rfl s50))))))))
                have s68 := (hg 68).trans (en rfl (en rfl (en rfl (en rfl (en rfl (en rfl (en rfl (en rfl s68))))))))
                have s75 := (hg 75).trans (en rfl (en rfl (en rfl (en rfl (en rfl (en rfl (en rfl (en rfl s75))))))))
                have s89 := (hg 89).trans es
                clear hg
                refine xc_cond s89 (fun _ => ?_) (fun hc => by cases hc)
                refine xc_seq (fun K hK40 => ?_)
                refine xc_region ?_
                refine x_val (r_move s10) (nd_of rfl) rfl ?_
                refine x_val (r_neq es ec (r := false) rfl) (nd_of rfl) rfl ?_
                refine x_val (r_move es) (nd_of rfl) rfl ?_
                refine x_take (d := 92) rfl rfl es ?_
                refine x_val (r_move (en rfl (en rfl (en rfl s11)))) (nd_of rfl) rfl ?_
                refine x_take (d := 92) rfl rfl (en rfl es) ?_
                refine x_val (r_neq es ec (r := false) rfl) (nd_of rfl) rfl ?_
                refine x_val (r_pick_f (en rfl (en rfl es)) es) (nd_of rfl) rfl ?_
                refine xw_nil ?_
                refine hK40 _ _ ?_
                refine xc_gen (fun g hg => ?_)
                have s0 := (hg 0).trans (en rfl (en rfl (en rfl (en rfl (en rfl (en rfl s0))))))
                have s1 := (hg 1).trans (en rfl (en rfl (en rfl (en rfl (en rfl (en rfl s1))))))
                have s2 := (hg 2).trans (en rfl (en rfl (en rfl (en rfl (en rfl (en rfl s2))))))
                have s5 := (hg 5).trans (en rfl (en rfl (en rfl (en rfl (en rfl (en rfl s5))))))
                have s6 := (hg 6).trans (en rfl (en rfl (en rfl (en rfl (en rfl (en rfl s6))))))
                have s8 := (hg 8).trans (en rfl (en rfl (en rfl (en rfl (en rfl (en rfl s8))))))
                have s9 := (hg 9).trans (en rfl (en rfl (en rfl (en rfl (en rfl (en rfl s9))))))
                have s10 := (hg 10).trans (en rfl (en rfl (en rfl (en rfl (en rfl (en rfl s10))))))
                have s11 := (hg 11).trans (en rfl (en rfl (en rfl (en rfl (en rfl (en rfl s11))))))
                have s36 := (hg 36).trans (en rfl (en rfl (en rfl (en rfl (en rfl (en rfl s36))))))
                have s38 := (hg 38).trans (en rfl (en rfl (en rfl (en rfl (en rfl (en rfl s38))))))
                have s39 := (hg 39).trans (en rfl (en rfl (en rfl (en rfl (en rfl (en rfl s39))))))
                have s40 := (hg 40).trans (en rfl (en rfl (en rfl (en rfl (en rfl (en rfl s40))))))
                have s50 := (hg 50).trans (en rfl (en rfl (en rfl (en rfl (en rfl (en rfl s50))))))
                have s68 := (hg 68).trans (en rfl (en rfl (en rfl (en rfl (en rfl (en rfl s68))))))
                have s75 := (hg 75).trans (en rfl (en rfl (en rfl (en rfl (en rfl (en rfl s75))))))
                have s89 := (hg 89).trans (en rfl (en rfl (en rfl (en rfl (en rfl (en rfl s89))))))
                have s95 := (hg 95).trans es
                clear hg
                refine xc_cond s95 (fun hc => by cases hc) (fun _ => ?_)
                refine xc_skip ?_
                refine hK19 _ _ ?_
                refine xc_region ?_
                refine x_val (r_move s9) (nd_of rfl) rfl ?_
                refine x_val (r_add es ec (show _ = (i + 1 : Int) from by rfl) (by unfold I64; omega)) (nd_of rfl) rfl ?_
                refine x_val (r_assign es) (nd_of rfl) rfl ?_
                refine xw_nil ?_
                exact ⟨(zs.length + 2 - (i + 1)).toNat, by omega, ⟨i + 1, rfl, by omega, by omega, es, by rw [show i + 1 - 1 = i by omega]; exact (en rfl (en rfl (en rfl s8))), h⟩, ⟨((en rfl (en rfl (en rfl s0)))).trans z0.symm, ((en rfl (en rfl (en rfl s1)))).trans z1.symm, ((en rfl (en rfl (en rfl s2)))).trans z2.symm, ((en rfl (en rfl (en rfl s5)))).trans z5.symm, ((en rfl (en rfl (en rfl s6)))).trans z6.symm, ((en rfl (en rfl (en rfl s36)))).trans z36.symm, ((en rfl (en rfl (en rfl s38)))).trans z38.symm, ((en rfl (en rfl (en rfl s39)))).trans z39.symm, ((en rfl (en rfl (en rfl s40)))).trans z40.symm⟩⟩
              ·
                skip
                refine xc_cond s75 (fun hc => by cases hc) (fun _ => ?_)
                refine xc_skip ?_
                refine hK33 _ _ ?_
                refine xc_seq (fun K hK41 => ?_)
                obtain ⟨r3, hr3⟩ : ∃ r, zs[i.toNat]? = some r := ⟨_, List.getElem?_eq_getElem (by omega)⟩
                obtain ⟨a3, e3, hcell3⟩ := hv.get h.drop.drop hr3
                cases e3
                refine xc_region ?_
                refine x_val (r_loadAgg h 1 rfl Try.isAgg26 Try.sizeOf26 s2 (Ok.le (by first | assumption | exact Ok.node (by assumption) | exact ChOk.ok (by assumption))) (ext_full (Ok.size (by first | assumption | exact Ok.node (by assumption) | exact ChOk.ok (by assumption))))) (nd_of rfl) rfl ?_
                refine x_val (r_move (en rfl s9)) (nd_of rfl) rfl ?_
                refine x_enter (r_call Try.call16 (.cons (en rfl es) (.cons es .nil))) (nd_of rfl) rfl (chAt_i ho (by omega) hr3 h) ?_
                rintro _ w ⟨rfl, h⟩
                refine x_val (r_move es) (nd_of rfl) rfl ?_
                refine x_val (r_extract es gc0) (nd_of rfl) rfl ?_
                refine x_val (r_extract (en rfl es) gc1) (nd_of rfl) rfl ?_
                refine x_val (r_assign (en rfl es)) (nd_of rfl) rfl ?_
                refine x_val (r_assign (en rfl es)) (nd_of rfl) rfl ?_
                refine xw_nil ?_
                refine hK41 _ _ ?_
                refine xc_gen (fun g hg => ?_)
                have s0 := (hg 0).trans (en rfl (en rfl (en rfl (en rfl (en rfl (en rfl (en rfl (en rfl s0))))))))
                have s1 := (hg 1).trans (en rfl (en rfl (en rfl (en rfl (en rfl (en rfl (en rfl (en rfl s1))))))))
                have s2 := (hg 2).trans (en rfl (en rfl (en rfl (en rfl (en rfl (en rfl (en rfl (en rfl s2))))))))
                have s5 := (hg 5).trans (en rfl (en rfl (en rfl (en rfl (en rfl (en rfl (en rfl (en rfl s5))))))))
                have s6 := (hg 6).trans (en rfl (en rfl (en rfl (en rfl (en rfl (en rfl (en rfl (en rfl s6))))))))
                have s8 := (hg 8).trans (en rfl (en rfl (en rfl (en rfl (en rfl (en rfl (en rfl (en rfl s8))))))))
                have s9 := (hg 9).trans (en rfl (en rfl (en rfl (en rfl (en rfl (en rfl (en rfl (en rfl s9))))))))
                have s10 := (hg 10).trans (en rfl es)
                have s11 := (hg 11).trans es
                have s36 := (hg 36).trans (en rfl (en rfl (en rfl (en rfl (en rfl (en rfl (en rfl (en rfl s36))))))))
                have s38 := (hg 38).trans (en rfl (en rfl (en rfl (en rfl (en rfl (en rfl (en rfl (en rfl s38))))))))
                have s39 := (hg 39).trans (en rfl (en rfl (en rfl (en rfl (en rfl (en rfl (en rfl (en rfl s39))))))))
                have s40 := (hg 40).trans (en rfl (en rfl (en rfl (en rfl (en rfl (en rfl (en rfl (en rfl s40))))))))
                have s50 := (hg 50).trans (en rfl (en rfl (en rfl (en rfl (en rfl (en rfl (en rfl (en rfl s50))))))))
                have s68 := (hg 68).trans (en rfl (en rfl (en rfl (en rfl (en rfl (en rfl (en rfl (en rfl s68))))))))
                have s75 := (hg 75).trans (en rfl (en rfl (en rfl (en rfl (en rfl (en rfl (en rfl (en rfl s75))))))))
                clear hg
                refine xc_seq (fun K hK42 => ?_)
                refine xc_region ?_
                refine x_val (r_move s9) (nd_of rfl) rfl ?_
                refine x_val (r_lss es ec (decide_eq_false (by omega))) (nd_of rfl) rfl ?_
                refine x_val (r_move es) (nd_of rfl) rfl ?_
                refine x_take (d := 84) rfl rfl es ?_
                refine x_val (r_move (en rfl (en rfl (en rfl s9)))) (nd_of rfl) rfl ?_
                refine x_take (d := 84) rfl rfl (en rfl es) ?_
                refine x_val (r_move (en rfl (en rfl (en rfl (en rfl s1))))) (nd_of rfl) rfl ?_
                refine x_take (d := 84) rfl rfl (en rfl (en rfl es)) ?_
                refine x_val (r_len Try.underlying22 es) (nd_of rfl) rfl ?_
                refine x_take (d := 84) rfl rfl (en rfl (en rfl (en rfl es))) ?_
                refine x_val (r_geq (en rfl (en rfl es)) es (decide_eq_false (by omega))) (nd_of rfl) rfl ?_
                refine x_val (r_pick_f (en rfl (en rfl (en rfl (en rfl es)))) es) (nd_of rfl) rfl ?_
                refine xw_nil ?_
                refine hK42 _ _ ?_
                refine xc_gen (fun g hg => ?_)
                have s0 := (hg 0).trans (en rfl (en rfl (en rfl (en rfl (en rfl (en rfl (en rfl (en rfl s0))))))))
                have s1 := (hg 1).trans (en rfl (en rfl (en rfl (en rfl (en rfl (en rfl (en rfl (en rfl s1))))))))
                have s2 := (hg 2).trans (en rfl (en rfl (en rfl (en rfl (en rfl (en rfl (en rfl (en rfl s2))))))))
                have s5 := (hg 5).trans (en rfl (en rfl (en rfl (en rfl (en rfl (en rfl (en rfl (en rfl s5))))))))
                have s6 := (hg 6).trans (en rfl (en rfl (en rfl (en rfl (en rfl (en rfl (en rfl (en rfl s6))))))))
                have s8 := (hg 8).trans (en rfl (en rfl (en rfl (en rfl (en rfl (en rfl (en rfl (en rfl s8))))))))
                have s9 := (hg 9).trans (en rfl (en rfl (en rfl (en rfl (en rfl (en rfl (en rfl (en rfl s9))))))))
                have s10 := (hg 10).trans (en rfl (en rfl (en rfl (en rfl (en rfl (en rfl (en rfl (en rfl s10))))))))
                have s11 := (hg 11).trans (en rfl (en rfl (en rfl (en rfl (en rfl (en rfl (en rfl (en rfl s11))))))))
                have s36 := (hg 36).trans (en rfl (en rfl (en rfl (en rfl (en rfl (en rfl (en rfl (en rfl s36))))))))
                have s38 := (hg 38).trans (en rfl (en rfl (en rfl (en rfl (en rfl (en rfl (en rfl (en rfl s38))))))))
                have s39 := (hg 39).trans (en rfl (en rfl (en rfl (en rfl (en rfl (en rfl (en rfl (en rfl s39))))))))
                have s40 := (hg 40).trans (en rfl (en rfl (en rfl (en rfl (en rfl (en rfl (en rfl (en rfl s40))))))))
                have s50 := (hg 50).trans (en rfl (en rfl (en rfl (en rfl (en rfl (en rfl (en rfl (en rfl s50))))))))
                have s68 := (hg 68).trans (en rfl (en rfl (en rfl (en rfl (en rfl (en rfl (en rfl (en rfl s68))))))))
                have s75 := (hg 75).trans (en rfl (en rfl (en rfl (en rfl (en rfl (en rfl (en rfl (en rfl s75))))))))
                have s89 := (hg 89).trans es
                clear hg
                refine xc_cond s89 (fun hc => by cases hc) (fun _ => ?_)
                refine xc_seq (fun K hK43 => ?_)
                refine xc_region ?_
                refine x_val (r_move s10) (nd_of rfl) rfl ?_
                refine x_val (r_move (en rfl s1)) (nd_of rfl) rfl ?_
                refine x_val (r_move (en rfl (en rfl s9))) (nd_of rfl) rfl ?_
                refine x_val (r_indexAny Try.underlying22 Try.sizeOf21 (en rfl es) es (by omega) (by omega)) (nd_of rfl) rfl ?_
                refine x_val (r_loadCell Try.isAgg21 es (by obtain ⟨b1, e1, c1⟩ := hv.get h.drop.drop hr3; cases e1; rw [Nat.mul_one]; exact c1)) (nd_of rfl) rfl ?_
                refine x_val (r_neq (en rfl (en rfl (en rfl (en rfl es)))) es (decide_eq_false (by omega))) (nd_of rfl) rfl ?_
                refine x_val (r_move es) (nd_of rfl) rfl ?_
                refine x_take (d := 102) rfl rfl es ?_
                refine x_val (r_move (en rfl (en rfl (en rfl (en rfl (en rfl (en rfl (en rfl s11)))))))) (nd_of rfl) rfl ?_
                refine x_take (d := 102) rfl rfl (en rfl es) ?_
                refine x_val (r_neq es ec (r := false) rfl) (nd_of rfl) rfl ?_
                refine x_val (r_pick_f (en rfl (en rfl es)) es) (nd_of rfl) rfl ?_
                refine xw_nil ?_
                refine hK43 _ _ ?_
                refine xc_gen (fun g hg => ?_)
                have s0 := (hg 0).trans (en rfl (en rfl (en rfl (en rfl (en rfl (en rfl (en rfl (en rfl (en rfl (en rfl s0))))))))))
                have s1 := (hg 1).trans (en rfl (en rfl (en rfl (en rfl (en rfl (en rfl (en rfl (en rfl (en rfl (en rfl s1))))))))))
                have s2 := (hg 2).trans (en rfl (en rfl (en rfl (en rfl (en rfl (en rfl (en rfl (en rfl (en rfl (en rfl s2))))))))))
                have s5 := (hg 5).trans (en rfl (en rfl (en rfl (en rfl (en rfl (en rfl (en rfl (en rfl (en rfl (en rfl s5))))))))))
                have s6 := (hg 6).trans (en rfl (en rfl (en rfl (en rfl (en rfl (en rfl (en rfl (en rfl (en rfl (en rfl s6))))))))))
                have s8 := (hg 8).trans (en rfl (en rfl (en rfl (en rfl (en rfl (en rfl (en rfl (en rfl (en rfl (en rfl s8))))))))))
                have s9 := (hg 9).trans (en rfl (en rfl (en rfl (en rfl (en rfl (en rfl (en rfl (en rfl (en rfl (en rfl s9))))))))))
                have s10 := (hg 10).trans (en rfl (en rfl (en rfl (en rfl (en rfl (en rfl (en rfl (en rfl (en rfl (en rfl s10))))))))))
                have s11 := (hg 11).trans (en rfl (en rfl (en rfl (en rfl (en rfl (en rfl (en rfl (en rfl (en rfl (en rfl s11))))))))))
                have s36 := (hg 36).trans (en rfl (en rfl (en rfl (en rfl (en rfl (en rfl (en rfl (en rfl (en rfl (en rfl s36))))))))))
                have s38 := (hg 38).trans (en rfl (en rfl (en rfl (en rfl (en rfl (en rfl (en rfl (en rfl (en rfl (en rfl s38))))))))))
                have s39 := (hg 39).trans (en rfl (en rfl (en rfl (en rfl (en rfl (en rfl (en rfl (en rfl (en rfl (en rfl s39))))))))))
                have s40 := (hg 40).trans (en rfl (en rfl (en rfl (en rfl (en rfl (en rfl (en rfl (en rfl (en rfl (en rfl s40))))))))))
                have s50 := (hg 50).trans (en rfl (en rfl (en rfl (en rfl (en rfl (en rfl (en rfl (en rfl (en rfl (en rfl s50))))))))))
                have s68 := (hg 68).trans (en rfl (en rfl (en rfl (en rfl (en rfl (en rfl (en rfl (en rfl (en rfl (en rfl s68))))))))))
                have s75 := (hg 75).trans (en rfl (en rfl (en rfl (en rfl (en rfl (en rfl (en rfl (en rfl (en rfl (en rfl s75))))))))))
                have s89 := (hg 89).trans (en rfl (en rfl (en rfl (en rfl (en rfl (en rfl (en rfl (en rfl (en rfl (en rfl s89))))))))))
                have s105 := (hg 105).trans es
                clear hg
                refine xc_cond s105 (fun hc => by cases hc) (fun _ => ?_)
                refine xc_skip ?_
                refine hK19 _ _ ?_
                refine xc_region ?_
                refine x_val (r_move s9) (nd_of rfl) rfl ?_
                refine x_val (r_add es ec (show _ = (i + 1 : Int) from by rfl) (by unfold I64; omega)) (nd_of rfl) rfl ?_
                refine x_val (r_assign es) (nd_of rfl) rfl ?_
                refine xw_nil ?_
                exact ⟨(zs.length + 2 - (i + 1)).toNat, by omega, ⟨i + 1, rfl, by omega, by omega, es, by rw [show i + 1 - 1 = i by omega]; exact (en rfl (en rfl (en rfl s8))), h⟩, ⟨((en rfl (en rfl (en rfl s0)))).trans z0.symm, ((en rfl (en rfl (en rfl s1)))).trans z1.symm, ((en rfl (en rfl (en rfl s2)))).trans z2.symm, ((en rfl (en rfl (en rfl s5)))).trans z5.symm, ((en rfl (en rfl (en rfl s6)))).trans z6.symm, ((en rfl (en rfl (en rfl s36)))).trans z36.symm, ((en rfl (en rfl (en rfl s38)))).trans z38.symm, ((en rfl (en rfl (en rfl s39)))).trans z39.symm, ((en rfl (en rfl (en rfl s40)))).trans z40.symm⟩⟩
        ·
          skip
          refine xc_skip ?_
          refine hK17 _ _ ?_
          refine xc_seq (fun K hK44 => ?_)
          refine xc_block ?_
          refine xc_seq (fun K hK45 => ?_)
          refine xc_seq (fun K hK46 => ?_)
          refine xc_region ?_
          refine x_val (r_move s9) (nd_of rfl) rfl ?_
          refine x_val (r_gtr es ec (decide_eq_true (by omega))) (nd_of rfl) rfl ?_
          refine x_val (r_move es) (nd_of rfl) rfl ?_
          refine x_take (d := 55) rfl rfl es ?_
          refine x_val (r_move (en rfl (en rfl (en rfl s9)))) (nd_of rfl) rfl ?_
          refine x_take (d := 55) rfl rfl (en rfl es) ?_
          refine x_val (r_move (en rfl (en rfl (en rfl (en rfl s1))))) (nd_of rfl) rfl ?_
          refine x_take (d := 55) rfl rfl (en rfl (en rfl es)) ?_
          refine x_val (r_len Try.underlying22 es) (nd_of rfl) rfl ?_
          refine x_take (d := 55) rfl rfl (en rfl (en rfl (en rfl es))) ?_
          refine x_val (r_leq (en rfl (en rfl es)) es (decide_eq_false (by omega))) (nd_of rfl) rfl ?_
          rw [List.getElem?_eq_none (by omega), if_neg (fun hh => by cases hh.2)] at hci
          have s8 : g 8 = .int .i64 ((zs.take i.toNat).count 10 : Int) := by rw [s8, hci]; rfl
          refine x_val (r_pick_t (en rfl (en rfl (en rfl (en rfl es)))) es) (nd_of rfl) rfl ?_
          refine x_val (r_move es) (nd_of rfl) rfl ?_
          refine x_pass (d := 61) rfl rfl es rfl ?_
          refine x_pass (d := 61) rfl rfl (en rfl es) rfl ?_
          refine x_pass (d := 61) rfl rfl (en rfl (en rfl es)) rfl ?_
          refine x_pass (d := 61) rfl rfl (en rfl (en rfl (en rfl es))) rfl ?_
          refine x_pass (d := 61) rfl rfl (en rfl (en rfl (en rfl (en rfl es)))) rfl ?_
          refine x_pass (d := 61) rfl rfl (en rfl (en rfl (en rfl (en rfl (en rfl es))))) rfl ?_
          refine x_val (r_pick_f (en rfl (en rfl (en rfl (en rfl (en rfl (en rfl es)))))) ec) (nd_of rfl) rfl ?_
          refine xw_nil ?_
          refine hK46 _ _ ?_
          refine xc_gen (fun g hg => ?_)
          have s0 := (hg 0).trans (en rfl (en rfl (en rfl (en rfl (en rfl (en rfl (en rfl (en rfl (en rfl (en rfl (en rfl (en rfl (en rfl (en rfl (en rfl (en rfl s0))))))))))))))))
          have s1 := (hg 1).trans (en rfl (en rfl (en rfl (en rfl (en rfl (en rfl (en rfl (en rfl (en rfl (en rfl (en rfl (en rfl (en rfl (en rfl (en rfl (en rfl s1))))))))))))))))
          have s2 := (hg 2).trans (en rfl (en rfl (en rfl (en rfl (en rfl (en rfl (en rfl (en rfl (en rfl (en rfl (en rfl (en rfl (en rfl (en rfl (en rfl (en rfl s2))))))))))))))))
          have s5 := (hg 5).trans (en rfl (en rfl (en rfl (en rfl (en rfl (en rfl (en rfl (en rfl (en rfl (en rfl (en rfl (en rfl (en rfl (en rfl (en rfl (en rfl s5))))))))))))))))
          have s6 := (hg 6).trans (en rfl (en rfl (en rfl (en rfl (en rfl (en rfl (en rfl (en rfl (en rfl (en rfl (en rfl (en rfl (en rfl (en rfl (en rfl (en rfl s6))))))))))))))))
          have s8 := (hg 8).trans (en rfl (en rfl (en rfl (en rfl (en rfl (en rfl (en rfl (en rfl (en rfl (en rfl (en rfl (en rfl (en rfl (en rfl (en rfl (en rfl s8))))))))))))))))
          have s9 := (hg 9).trans (en rfl (en rfl (en rfl (en rfl (en rfl (en rfl (en rfl (en rfl (en rfl (en rfl (en rfl (en rfl (en rfl (en rfl (en rfl (en rfl s9))))))))))))))))
          have s36 := (hg 36).trans (en rfl (en rfl (en rfl (en rfl (en rfl (en rfl (en rfl (en rfl (en rfl (en rfl (en rfl (en rfl (en rfl (en rfl (en rfl (en rfl s36))))))))))))))))
          have s38 := (hg 38).trans (en rfl (en rfl (en rfl (en rfl (en rfl (en rfl (en rfl (en rfl (en rfl (en rfl (en rfl (en rfl (en rfl (en rfl (en rfl (en rfl s38))))))))))))))))
          have s39 := (hg 39).trans (en rfl (en rfl (en rfl (en rfl (en rfl (en rfl (en rfl (en rfl (en rfl (en rfl (en rfl (en rfl (en rfl (en rfl (en rfl (en rfl s39))))))))))))))))
          have s40 := (hg 40).trans (en rfl (en rfl (en rfl (en rfl (en rfl (en rfl (en rfl (en rfl (en rfl (en rfl (en rfl (en rfl (en rfl (en rfl (en rfl (en rfl s40))))))))))))))))
          have s50 := (hg 50).trans (en rfl (en rfl (en rfl (en rfl (en rfl (en rfl (en rfl (en rfl (en rfl (en rfl (en rfl (en rfl (en rfl (en rfl (en rfl (en rfl s50))))))))))))))))
          have s68 := (hg 68).trans es
          clear hg
          refine xc_cond s68 (fun hc => by cases hc) (fun _ => ?_)
          refine xc_skip ?_
          refine hK45 _ _ ?_
          refine xc_seq (fun K hK47 => ?_)
          refine xc_seq (fun K hK48 => ?_)
          refine xc_region ?_
          refine x_val (r_loadAgg h 1 rfl Try.isAgg26 Try.sizeOf26 s2 (Ok.le (by first | assumption | exact Ok.node (by assumption) | exact ChOk.ok (by assumption))) (ext_full (Ok.size (by first | assumption | exact Ok.node (by assumption) | exact ChOk.ok (by assumption))))) (nd_of rfl) rfl ?_
          refine x_val (r_move (en rfl s9)) (nd_of rfl) rfl ?_
          refine x_enter (r_call Try.call17 (.cons (en rfl es) (.cons es .nil))) (nd_of rfl) rfl (ahead_ok ho h) ?_
          rintro _ w ⟨rfl, h⟩
          refine x_val (r_move (en rfl (en rfl (en rfl s8)))) (nd_of rfl) rfl ?_
          refine x_val (r_neq (en rfl es) es (decide_eq_false (by omega))) (nd_of rfl) rfl ?_
          refine xw_nil ?_
          refine hK48 _ _ ?_
          refine xc_gen (fun g hg => ?_)
          have s0 := (hg 0).trans (en rfl (en rfl (en rfl (en rfl (en rfl s0)))))
          have s1 := (hg 1).trans (en rfl (en rfl (en rfl (en rfl (en rfl s1)))))
          have s2 := (hg 2).trans (en rfl (en rfl (en rfl (en rfl (en rfl s2)))))
          have s5 := (hg 5).trans (en rfl (en rfl (en rfl (en rfl (en rfl s5)))))
          have s6 := (hg 6).trans (en rfl (en rfl (en rfl (en rfl (en rfl s6)))))
          have s8 := (hg 8).trans (en rfl (en rfl (en rfl (en rfl (en rfl s8)))))
          have s9 := (hg 9).trans (en rfl (en rfl (en rfl (en rfl (en rfl s9)))))
          have s36 := (hg 36).trans (en rfl (en rfl (en rfl (en rfl (en rfl s36)))))
          have s38 := (hg 38).trans (en rfl (en rfl (en rfl (en rfl (en rfl s38)))))
          have s39 := (hg 39).trans (en rfl (en rfl (en rfl (en rfl (en rfl s39)))))
          have s40 := (hg 40).trans (en rfl (en rfl (en rfl (en rfl (en rfl s40)))))
          have s50 := (hg 50).trans (en rfl (en rfl (en rfl (en rfl (en rfl s50)))))
          have s68 := (hg 68).trans (en rfl (en rfl (en rfl (en rfl (en rfl s68)))))
          have s75 := (hg 75).trans es
          clear hg
          by_cases h3 : i < 0
          ·
            skip
            refine xc_cond s75 (fun hc => by cases hc) (fun _ => ?_)
            refine xc_skip ?_
            refine hK47 _ _ ?_
            refine xc_seq (fun K hK49 => ?_)
            refine xc_region ?_
            refine x_val (r_loadAgg h 1 rfl Try.isAgg26 Try.sizeOf26 s2 (Ok.le (by first | assumption | exact Ok.node (by assumption) | exact ChOk.ok (by assumption))) (ext_full (Ok.size (by first | assumption | exact Ok.node (by assumption) | exact ChOk.ok (by assumption))))) (nd_of rfl) rfl ?_
            refine x_val (r_move (en rfl s9)) (nd_of rfl) rfl ?_
            refine x_enter (r_call Try.call16 (.cons (en rfl es) (.cons es .nil))) (nd_of rfl) rfl (chAt_neg h3 h) ?_
            rintro _ w ⟨rfl, h⟩
            refine x_val (r_move es) (nd_of rfl) rfl ?_
            refine x_val (r_extract es gc0) (nd_of rfl) rfl ?_
            refine x_val (r_extract (en rfl es) gc1) (nd_of rfl) rfl ?_
            refine x_val (r_assign (en rfl es)) (nd_of rfl) rfl ?_
            refine x_val (r_assign (en rfl es)) (nd_of rfl) rfl ?_
            refine xw_nil ?_
            refine hK49 _ _ ?_
            refine xc_gen (fun g hg => ?_)
            have s0 := (hg 0).trans (en rfl (en rfl (en rfl (en rfl (en rfl (en rfl (en rfl (en rfl s0))))))))
            have s1 := (hg 1).trans (en rfl (en rfl (en rfl (en rfl (en rfl (en rfl (en rfl (en rfl s1))))))))
            have s2 := (hg 2).trans (en rfl (en rfl (en rfl (en rfl (en rfl (en rfl (en rfl (en rfl s2))))))))
            have s5 := (hg 5).trans (en rfl (en rfl (en rfl (en rfl (en rfl (en rfl (en rfl (en rfl s5))))))))
            have s6 := (hg 6).trans (en rfl (en rfl (en rfl (en rfl (en rfl (en rfl (en rfl (en rfl s6))))))))
            have s8 := (hg 8).trans (en rfl (en rfl (en rfl (en rfl (en rfl (en rfl (en rfl (en rfl s8))))))))
            have s9 := (hg 9).trans (en rfl (en rfl (en rfl (en rfl (en rfl (en rfl (en rfl (en rfl s9))))))))
            have s10 := (hg 10).trans (en rfl es)
            have s11 := (hg 11).trans es
            have s36 := (hg 36).trans (en rfl (en rfl (en rfl (en rfl (en rfl (en rfl (en rfl (en rfl s36))))))))
            have s38 := (hg 38).trans (en rfl (en rfl (en rfl (en rfl (en rfl (en rfl (en rfl (en rfl s38))))))))
            have s39 := (hg 39).trans (en rfl (en rfl (en rfl (en rfl (en rfl (en rfl (en rfl (en rfl s39))))))))
            have s40 := (hg 40).trans (en rfl (en rfl (en rfl (en rfl (en rfl (en rfl (en rfl (en rfl s40))))))))
            have s50 := (hg 50).trans (en rfl (en rfl (en rfl (en rfl (en rfl (en rfl (en rfl (en rfl s50))))))))
            have s68 := (hg 68).trans (en rfl (en rfl (en rfl (en rfl (en rfl (en rfl (en rfl (en rfl s68))))))))
            have s75 := (hg 75).trans (en rfl (en rfl (en rfl (en rfl (en rfl (en rfl (en rfl (en rfl s75))))))))
            clear hg
            refine xc_seq (fun K hK50 => ?_)
            refine xc_region ?_
            refine x_val (r_move s9) (nd_of rfl) rfl ?_
            refine x_val (r_lss es ec (decide_eq_true (by omega))) (nd_of rfl) rfl ?_
            refine x_val (r_move es) (nd_of rfl) rfl ?_
            refine x_pass (d := 84) rfl rfl es rfl ?_
            refine x_pass (d := 84) rfl rfl (en rfl es) rfl ?_
            refine x_pass (d := 84) rfl rfl (en rfl (en rfl es)) rfl ?_
            refine x_pass (d := 84) rfl rfl (en rfl (en rfl (en rfl es))) rfl ?_
            refine x_val (r_pick_t (en rfl (en rfl (en rfl (en rfl es)))) ec) (nd_of rfl) rfl ?_
            refine xw_nil ?_
            refine hK50 _ _ ?_
            refine xc_gen (fun g hg => ?_)
            have s0 := (hg 0).trans (en rfl (en rfl (en rfl (en rfl (en rfl (en rfl (en rfl (en rfl s0))))))))
            have s1 := (hg 1).trans (en rfl (en rfl (en rfl (en rfl (en rfl (en rfl (en rfl (en rfl s1))))))))
            have s2 := (hg 2).trans (en rfl (en rfl (en rfl (en rfl (en rfl (en rfl (en rfl (en rfl s2))))))))
            have s5 := (hg 5).trans (en rfl (en rfl (en rfl (en rfl (en rfl (en rfl (en rfl (en rfl s5))))))))
            have s6 := (hg 6).trans (en rfl (en rfl (en rfl (en rfl (en rfl (en rfl (en rfl (en rfl s6))))))))
            have s8 := (hg 8).trans (en rfl (en rfl (en rfl (en rfl (en rfl (en rfl (en rfl (en rfl s8))))))))
            have s9 := (hg 9).trans (en rfl (en rfl (en rfl (en rfl (en rfl (en rfl (en rfl (en rfl s9))))))))
            have s10 := (hg 10).trans (en rfl (en rfl (en rfl (en rfl (en rfl (en rfl (en rfl (en rfl s10))))))))
            have s11 := (hg 11).trans (en rfl (en rfl (en rfl (en rfl (en rfl (en rfl (en rfl (en rfl s11))))))))
            have s36 := (hg 36).trans (en rfl (en rfl (en rfl (en rfl (en rfl (en rfl (en rfl (en rfl s36))))))))
            have s38 := (hg 38).trans (en rfl (en rfl (en rfl (en rfl (en rfl (en rfl (en rfl (en rfl s38))))))))
            have s39 := (hg 39).trans (en rfl (en rfl (en rfl (en rfl (en rfl (en rfl (en rfl (en rfl s39))))))))
            have s40 := (hg 40).trans (en rfl (en rfl (en rfl (en rfl (en rfl (en rfl (en rfl (en rfl s40))))))))
            have s50 := (hg 50).trans (en rfl (en rfl (en rfl (en rfl (en rfl (en rfl (en rfl (en rfl s50))))))))
            have s68 := (hg 68).trans (en rfl (en rfl (en rfl (en rfl (en rfl (en rfl (en rfl (en rfl s68))))))))
            have s75 := (hg 75).trans (en rfl (en rfl (en rfl (en rfl (en rfl (en rfl (en rfl (en rfl s75))))))))
            have s89 := (hg 89).trans es
            clear hg
            refine xc_cond s89 (fun _ => ?_) (fun hc => by cases hc)
            refine xc_seq (fun K hK51 => ?_)
            refine xc_region ?_
            refine x_val (r_move s10) (nd_of rfl) rfl ?_
            refine x_val (r_neq es ec (r := false) rfl) (nd_of rfl) rfl ?_
            refine x_val (r_move es) (nd_of rfl) rfl ?_
            refine x_take (d := 92) rfl rfl es ?_
            refine x_val (r_move (en rfl (en rfl (en rfl s11)))) (nd_of rfl) rfl ?_
            refine x_take (d := 92) rfl rfl (en rfl es) ?_
            refine x_val (r_neq es ec (r := false) rfl) (nd_of rfl) rfl ?_
            refine x_val (r_pick_f (en rfl (en rfl es)) es) (nd_of rfl) rfl ?_
            refine xw_nil ?_
            refine hK51 _ _ ?_
            refine xc_gen (fun g hg => ?_)
            have s0 := (hg 0).trans (en rfl (en rfl (en rfl (en rfl (en rfl (en rfl s0))))))
            have s1 := (hg 1).trans (en rfl (en rfl (en rfl (en rfl (en rfl (en rfl s1))))))
            have s2 := (hg 2).trans (en rfl (en rfl (en rfl (en rfl (en rfl (en rfl s2))))))
            have s5 := (hg 5).trans (en rfl (en rfl (en rfl (en rfl (en rfl (en rfl s5))))))
            have s6 := (hg 6).trans (en rfl (en rfl (en rfl (en rfl (en rfl (en rfl s6))))))
            have s8 := (hg 8).trans (en rfl (en rfl (en rfl (en rfl (en rfl (en rfl s8))))))
            have s9 := (hg 9).trans (en rfl (en rfl (en rfl (en rfl (en rfl (en rfl s9))))))
            have s10 := (hg 10).trans (en rfl (en rfl (en rfl (en rfl (en rfl (en rfl s10))))))
            have s11 := (hg 11).trans (en rfl (en rfl (en rfl (en rfl (en rfl (en rfl s11))))))
            have s36 := (hg 36).trans (en rfl (en rfl (en rfl (en rfl (en rfl (en rfl s36))))))
            have s38 := (hg 38).trans (en rfl (en rfl (en rfl (en rfl (en rfl (en rfl s38))))))
            have s39 := (hg 39).trans (en rfl (en rfl (en rfl (en rfl (en rfl (en rfl s39))))))
            have s40 := (hg 40).trans (en rfl (en rfl (en rfl (en rfl (en rfl (en rfl s40))))))
            have s50 := (hg 50).trans (en rfl (en rfl (en rfl (en rfl (en rfl (en rfl s50))))))
            have s68 := (hg 68).trans (en rfl (en rfl (en rfl (en rfl (en rfl (en rfl s68))))))
            have s75 := (hg 75).trans (en rfl (en rfl (en rfl (en rfl (en rfl (en rfl s75))))))
            have s89 := (hg 89).trans (en rfl (en rfl (en rfl (en rfl (en rfl (en rfl s89))))))
            have s95 := (hg 95).trans es
            clear hg
            refine xc_cond s95 (fun hc => by cases hc) (fun _ => ?_)
            refine xc_skip ?_
            refine hK44 _ _ ?_
            refine xc_region ?_
            refine x_val (r_move s9) (nd_of rfl) rfl ?_
            refine x_val (r_add es ec (show _ = (i + 1 : Int) from by rfl) (by unfold I64; omega)) (nd_of rfl) rfl ?_
            refine x_val (r_assign es) (nd_of rfl) rfl ?_
            refine xw_nil ?_
            exact ⟨(zs.length + 2 - (i + 1)).toNat, by omega, ⟨i + 1, rfl, by omega, by omega, es, by rw [show i + 1 - 1 = i by omega]; exact (en rfl (en rfl (en rfl s8))), h⟩, ⟨((en rfl (en rfl (en rfl s0)))).trans z0.symm, ((en rfl (en rfl (en rfl s1)))).trans z1.symm, ((en rfl (en rfl (en rfl s2)))).trans z2.symm, ((en rfl (en rfl (en rfl s5)))).trans z5.symm, ((en rfl (en rfl (en rfl s6)))).trans z6.symm, ((en rfl (en rfl (en rfl s36)))).trans z36.symm, ((en rfl (en rfl (en rfl s38)))).trans z38.symm, ((en rfl (en rfl (en rfl s39)))).trans z39.symm, ((en rfl (en rfl (en rfl s40)))).trans z40.symm⟩⟩
          ·
            skip
            by_cases h4 : (zs.length : Int) ≤ i
            ·
              skip
              refine xc_cond s75 (fun hc => by cases hc) (fun _ => ?_)
              refine xc_skip ?_
              refine hK47 _ _ ?_
              refine xc_seq (fun K hK52 => ?_)
              refine xc_region ?_
              refine x_val (r_loadAgg h 1 rfl Try.isAgg26 Try.sizeOf26 s2 (Ok.le (by first | assumption | exact Ok.node (by assumption) | exact ChOk.ok (by assumption))) (ext_full (Ok.size (by first | assumption | exact Ok.node (by assumption) | exact ChOk.ok (by assumption))))) (nd_of rfl) rfl ?_
              refine x_val (r_move (en rfl s9)) (nd_of rfl) rfl ?_
              refine x_enter (r_call Try.call16 (.cons (en rfl es) (.cons es .nil))) (nd_of rfl) rfl (chAt_far ho h4 h) ?_
              rintro _ w ⟨rfl, h⟩
              refine x_val (r_move es) (nd_of rfl) rfl ?_
              refine x_val (r_extract es gc0) (nd_of rfl) rfl ?_
              refine x_val (r_extract (en rfl es) gc1) (nd_of rfl) rfl ?_
              refine x_val (r_assign (en rfl es)) (nd_of rfl) rfl ?_
              refine x_val (r_assign (en rfl es)) (nd_of rfl) rfl ?_
              refine xw_nil ?_
              refine hK52 _ _ ?_
              refine xc_gen (fun g hg => ?_)
              have s0 := (hg 0).trans (en rfl (en rfl (en rfl (en rfl (en rfl (en rfl (en rfl (en rfl s0))))))))
              have s1 := (hg 1).trans (en rfl (en rfl (en rfl (en rfl (en rfl (en rfl (en rfl (en rfl s1))))))))
              have s2 := (hg 2).trans (en rfl (en rfl (en rfl (en rfl (en rfl (en rfl (en rfl (en rfl s2))))))))
              have s5 := (hg 5).trans (en rfl (en rfl (en rfl (en rfl (en rfl (en rfl (en rfl (en rfl s5))))))))
              have s6 := (hg 6).trans (en rfl (en rfl (en rfl (en rfl (en rfl (en rfl (en rfl (en rfl s6))))))))
              have s8 := (hg 8).trans (en rfl (en rfl (en rfl (en rfl (en rfl (en rfl (en rfl (en rfl s8))))))))
              have s9 := (hg 9).trans (en rfl (en rfl (en rfl (en rfl (en rfl (en rfl (en rfl (en rfl s9))))))))
              have s10 := (hg 10).trans (en rfl es)
              have s11 := (hg 11).trans es
              have s36 := (hg 36).trans (en rfl (en rfl (en rfl (en rfl (en rfl (en rfl (en rfl (en rfl s36))))))))
              have s38 := (hg 38).trans (en rfl (en rfl (en rfl (en rfl (en rfl (en rfl (en rfl (en rfl s38))))))))
              have s39 := (hg 39).trans (en rfl (en rfl (en rfl (en rfl (en rfl (en rfl (en rfl (en rfl s39))))))))
              have s40 := (hg 40).trans (en rfl (en rfl (en rfl (en rfl (en rfl (en rfl (en rfl (en rfl s40))))))))
              have s50 := (hg 50).trans (en rfl (en rfl (en rfl (en rfl (en rfl (en rfl (en rfl (en rfl s50))))))))
              have s68 := (hg 68).trans (en rfl (en rfl (en rfl (en rfl (en rfl (en rfl (en rfl (en rfl s68))))))))
              have s75 := (hg 75).trans (en rfl (en rfl (en rfl (en rfl (en rfl (en rfl (en rfl (en rfl s75))))))))
              clear hg
              refine xc_seq (fun K hK53 => ?_)
              refine xc_region ?_
              refine x_val (r_move s9) (nd_of rfl) rfl ?_
              refine x_val (r_lss es ec (decide_eq_false (by omega))) (nd_of rfl) rfl ?_
              refine x_val (r_move es) (nd_of rfl) rfl ?_
              refine x_take (d := 84) rfl rfl es ?_
              refine x_val (r_move (en rfl (en rfl (en rfl s9)))) (nd_of rfl) rfl ?_
              refine x_take (d := 84) rfl rfl (en rfl es) ?_
              refine x_val (r_move (en rfl (en rfl (en rfl (en rfl s1))))) (nd_of rfl) rfl ?_
              refine x_take (d := 84) rfl rfl (en rfl (en rfl es)) ?_
              refine x_val (r_len Try.underlying22 es) (nd_of rfl) rfl ?_
              refine x_take (d := 84) rfl rfl (en rfl (en rfl (en rfl es))) ?_
              refine x_val (r_geq (en rfl (en rfl es)) es (decide_eq_true (by omega))) (nd_of rfl) rfl ?_
              refine x_val (r_pick_f (en rfl (en rfl (en rfl (en rfl es)))) es) (nd_of rfl) rfl ?_
              refine xw_nil ?_
              refine hK53 _ _ ?_
              refine xc_gen (fun g hg => ?_)
              have s0 := (hg 0).trans (en rfl (en rfl (en rfl (en rfl (en rfl (en rfl (en rfl (en rfl s0))))))))
              have s1 := (hg 1).trans (en rfl (en rfl (en rfl (en rfl (en rfl (en rfl (en rfl (en rfl s1))))))))
              have s2 := (hg 2).trans (en rfl (en rfl (en rfl (en rfl (en rfl (en rfl (en rfl (en rfl s2))))))))
              have s5 := (hg 5).trans (en rfl (en rfl (en rfl (en rfl (en rfl (en rfl (en rfl (en rfl s5))))))))
              have s6 := (hg 6).trans (en rfl (en rfl (en rfl (en rfl (en rfl (en rfl (en rfl (en rfl s6))))))))
              have s8 := (hg 8).trans (en rfl (en rfl (en rfl (en rfl (en rfl (en rfl (en rfl (en rfl s8))))))))
              have s9 := (hg 9).trans (en rfl (en rfl (en rfl (en rfl (en rfl (en rfl (en rfl (en rfl s9))))))))
              have s10 := (hg 10).trans (en rfl (en rfl (en rfl (en rfl (en rfl (en rfl (en rfl (en rfl s10))))))))
              have s11 := (hg 11).trans (en rfl (en rfl (en rfl (en rfl (en rfl (en rfl (en rfl (en rfl s11))))))))
              have s36 := (hg 36).trans (en rfl (en rfl (en rfl (en rfl (en rfl (en rfl (en rfl (en rfl s36))))))))
              have s38 := (hg 38).trans (en rfl (en rfl (en rfl (en rfl (en rfl (en rfl (en rfl (en rfl s38))))))))
              have s39 := (hg 39).trans (en rfl (en rfl (en rfl (en rfl (en rfl (en rfl (en rfl (en rfl s39))))))))
              have s40 := (hg 40).trans (en rfl (en rfl (en rfl (en rfl (en rfl (en rfl (en rfl (en rfl s40))))))))
              have s50 := (hg 50).trans (en rfl (en rfl (en rfl (en rfl (en rfl (en rfl (en rfl (en rfl s50))))))))
              have s68 := (hg 68).trans (en rfl (en rfl (en rfl (en rfl (en rfl (en rfl (en rfl (en rfl s68))))))))
              have s75 := (hg 75).trans (en rfl (en rfl (en rfl (en rfl (en rfl (en rfl (en rfl (en rfl s75))))))))
              have s89 := (hg 89).trans es
              clear hg
              refine xc_cond s89 (fun _ => ?_) (fun hc => by cases hc)
              refine xc_seq (fun K hK54 => ?_)
              refine xc_region ?_
              refine x_val (r_move s10) (nd_of rfl) rfl ?_
              refine x_val (r_neq es ec (r := false) rfl) (nd_of rfl) rfl ?_
              refine x_val (r_move es) (nd_of rfl) rfl ?_
              refine x_take (d := 92) rfl rfl es ?_
              refine x_val (r_move (en rfl (en rfl (en rfl s11)))) (nd_of rfl) rfl ?_
              refine x_take (d := 92) rfl rfl (en rfl es) ?_
              refine x_val (r_neq es ec (r := false) rfl) (nd_of rfl) rfl ?_
              refine x_val (r_pick_f (en rfl (en rfl es)) es) (nd_of rfl) rfl ?_
              refine xw_nil ?_
              refine hK54 _ _ ?_
              refine xc_gen (fun g hg => ?_)
              have s0 := (hg 0).trans (en rfl (en rfl (en rfl (en rfl (en rfl (en rfl s0))))))
              have s1 := (hg 1).trans (en rfl (en rfl (en rfl (en rfl (en rfl (en rfl s1))))))
              have s2 := (hg 2).trans (en rfl (en rfl (en rfl (en rfl (en rfl (en rfl s2))))))
              have s5 := (hg 5).trans (en rfl (en rfl (en rfl (en rfl (en rfl (en rfl s5))))))
              have s6 := (hg 6).trans (en rfl (en rfl (en rfl (en rfl (en rfl (en rfl s6))))))
              have s8 := (hg 8).trans (en rfl (en rfl (en rfl (en rfl (en rfl (en rfl s8))))))
              have s9 := (hg 9).trans (en rfl (en rfl (en rfl (en rfl (en rfl (en rfl s9))))))
              have s10 := (hg 10).trans (en rfl (en rfl (en rfl (en rfl (en rfl (en rfl s10))))))
              have s11 := (hg 11).trans (en rfl (en rfl (en rfl (en rfl (en rfl (en rfl s11))))))
              have s36 := (hg 36).trans (en rfl (en rfl (en rfl (en rfl (en rfl (en rfl s36))))))
              have s38 := (hg 38).trans (en rfl (en rfl (en rfl (en rfl (en rfl (en rfl s38))))))
              have s39 := (hg 39).trans (en rfl (en rfl (en rfl (en rfl (en rfl (en rfl s39))))))
              have s40 := (hg 40).trans (en rfl (en rfl (en rfl (en rfl (en rfl (en rfl s40))))))
              have s50 := (hg 50).trans (en rfl (en rfl (en rfl (en rfl (en rfl (en rfl s50))))))
              have s68 := (hg 68).trans (en rfl (en rfl (en rfl (en rfl (en rfl (en rfl s68))))))
              have s75 := (hg 75).trans (en rfl (en rfl (en rfl (en rfl (en rfl (en rfl s75))))))
              have s89 := (hg 89).trans (en rfl (en rfl (en rfl (en rfl (en rfl (en rfl s89))))))
              have s95 := (hg 95).trans es
              clear hg
              refine xc_cond s95 (fun hc => by cases hc) (fun _ => ?_)
              refine xc_skip ?_
              refine hK44 _ _ ?_
              refine xc_region ?_
              refine x_val (r_move s9) (nd_of rfl) rfl ?_
              refine x_val (r_add es ec (show _ = (i + 1 : Int) from by rfl) (by unfold I64; omega)) (nd_of rfl) rfl ?_
              refine x_val (r_assign es) (nd_of rfl) rfl ?_
              refine xw_nil ?_
              exact ⟨(zs.length + 2 - (i + 1)).toNat, by omega, ⟨i + 1, rfl, by omega, by omega, es, by rw [show i + 1 - 1 = i by omega]; exact (en rfl (en rfl (en rfl s8))), h⟩, ⟨((en rfl (en rfl (en rfl s0)))).trans z0.symm, ((en rfl (en rfl (en rfl s1)))).trans z1.symm, ((en rfl (en rfl (en rfl s2)))).trans z2.symm, ((en rfl (en rfl (en rfl s5)))).trans z5.symm, ((en rfl (en rfl (en rfl s6)))).trans z6.symm, ((en rfl (en rfl (en rfl s36)))).trans z36.symm, ((en rfl (en rfl (en rfl s38)))).trans z38.symm, ((en rfl (en rfl (en rfl s39)))).trans z39.symm, ((en rfl (en rfl (en rfl s40)))).trans z40.symm⟩⟩
            ·
              skip
              refine xc_cond s75 (fun hc => by cases hc) (fun _ => ?_)
              refine xc_skip ?_
              refine hK47 _ _ ?_
              refine xc_seq (fun K hK55 => ?_)
              obtain ⟨r3, hr3⟩ : ∃ r, zs[i.toNat]? = some r := ⟨_, List.getElem?_eq_getElem (by omega)⟩
              obtain ⟨a3, e3, hcell3⟩ := hv.get h.drop.drop hr3
              cases e3
              refine xc_region ?_
              refine x_val (r_loadAgg h 1 rfl Try.isAgg26 Try.sizeOf26 s2 (Ok.le (by first | assumption | exact Ok.node (by assumption) | exact ChOk.ok (by assumption))) (ext_full (Ok.size (by first | assumption | exact Ok.node (by assumption) | exact ChOk.ok (by assumption))))) (nd_of rfl) rfl ?_
              refine x_val (r_move (en rfl s9)) (nd_of rfl) rfl ?_
              refine x_enter (r_call Try.call16 (.cons (en rfl es) (.cons es .nil))) (nd_of rfl) rfl (chAt_i ho (by omega) hr3 h) ?_
              rintro _ w ⟨rfl, h⟩
              refine x_val (r_move es) (nd_of rfl) rfl ?_
              refine x_val (r_extract es gc0) (nd_of rfl) rfl ?_
              refine x_val (r_extract (en rfl es) gc1) (nd_of rfl) rfl ?_
              refine x_val (r_assign (en rfl es)) (nd_of rfl) rfl ?_
              refine x_val (r_assign (en rfl es)) (nd_of rfl) rfl ?_
              refine xw_nil ?_
              refine hK55 _ _ ?_
              refine xc_gen (fun g hg => ?_)
              have s0 := (hg 0).trans (en rfl (en rfl (en rfl (en rfl (en rfl (en rfl (en rfl (en rfl s0))))))))
              have s1 := (hg 1).trans (en rfl (en rfl (en rfl (en rfl (en rfl (en rfl (en rfl (en rfl s1))))))))
              have s2 := (hg 2).trans (en rfl (en rfl (en rfl (en rfl (en rfl (en rfl (en rfl (en rfl s2))))))))
              have s5 := (hg 5).trans (en rfl (en rfl (en rfl (en rfl (en rfl (en rfl (en rfl (en rfl s5))))))))
              have s6 := (hg 6).trans (en rfl (en rfl (en rfl (en rfl (en rfl (en rfl (en rfl (en rfl s6))))))))
              have s8 := (hg 8).trans (en rfl (en rfl (en rfl (en rfl (en rfl (en rfl (en rfl (en rfl s8))))))))
              have s9 := (hg 9).trans (en rfl (en rfl (en rfl (en rfl (en rfl (en rfl (en rfl (en rfl s9))))))))
              have s10 := (hg 10).trans (en rfl es)
              have s11 := (hg 11).trans es
              have s36 := (hg 36).trans (en rfl (en rfl (en rfl (en rfl (en rfl (en rfl (en rfl (en rfl s36))))))))
              have s38 := (hg 38).trans (en rfl (en rfl (en rfl (en rfl (en rfl (en rfl (en rfl (en rfl s38))))))))
              have s39 := (hg 39).trans (en rfl (en rfl (en rfl (en rfl (en rfl (en rfl (en rfl (en rfl s39))))))))
              have s40 := (hg 40).trans (en rfl (en rfl (en rfl (en rfl (en rfl (en rfl (en rfl (en rfl s40))))))))
              have s50 := (hg 50).trans (en rfl (en rfl (en rfl (en rfl (en rfl (en rfl (en rfl (en rfl s50))))))))
              have s68 := (hg 68).trans (en rfl (en rfl (en rfl (en rfl (en rfl (en rfl (en rfl (en rfl s68))))))))
              have s75 := (hg 75).trans (en rfl (en rfl (en rfl (en rfl (en rfl (en rfl (en rfl (en rfl s75))))))))
              clear hg
              refine xc_seq (fun K hK56 => ?_)
              refine xc_region ?_
              refine x_val (r_move s9) (nd_of rfl) rfl ?_
              refine x_val (r_lss es ec (decide_eq_false (by omega))) (nd_of rfl) rfl ?_
              refine x_val (r_move es) (nd_of rfl) rfl ?_
              refine x_take (d := 84) rfl rfl es ?_
              refine x_val (r_move (en rfl (en rfl (en rfl s9)))) (nd_of rfl) rfl ?_
              refine x_take (d := 84) rfl rfl (en rfl es) ?_
              refine x_val (r_move (en rfl (en rfl (en rfl (en rfl s1))))) (nd_of rfl) rfl ?_
              refine x_take (d := 84) rfl rfl (en rfl (en rfl es)) ?_
              refine x_val (r_len Try.underlying22 es) (nd_of rfl) rfl ?_
              refine x_take (d := 84) rfl rfl (en rfl (en rfl (en rfl es))) ?_
              refine x_val (r_geq (en rfl (en rfl es)) es (decide_eq_false (by omega))) (nd_of rfl) rfl ?_
              refine x_val (r_pick_f (en rfl (en rfl (en rfl (en rfl es)))) es) (nd_of rfl) rfl ?_
              refine xw_nil ?_
              refine hK56 _ _ ?_
              refine xc_gen (fun g hg => ?_)
              have s0 := (hg 0).trans (en rfl (en rfl (en rfl (en rfl (en rfl (en rfl (en rfl (en rfl s0))))))))
              have s1 := (hg 1).trans (en rfl (en rfl (en rfl (en rfl (en rfl (en rfl (en rfl (en rfl s1))))))))
              have s2 := (hg 2).trans (en rfl (en rfl (en rfl (en rfl (en rfl (en rfl (en rfl (en rfl s2))))))))
              have s5 := (hg 5).trans (en rfl (en rfl (en rfl (en rfl (en rfl (en rfl (en rfl (en rfl s5))))))))
              have s6 := (hg 6).trans (en rfl (en rfl (en rfl (en rfl (en rfl (en rfl (en rfl (en rfl s6))))))))
              have s8 := (hg 8).trans (en rfl (en rfl (en rfl (en rfl (en rfl (en rfl (en rfl (en rfl s8))))))))
              have s9 := (hg 9).trans (en rfl (en rfl (en rfl (en rfl (en rfl (en rfl (en rfl (en rfl s9))))))))
              have s10 := (hg 10).trans (en rfl (en rfl (en rfl (en rfl (en rfl (en rfl (en rfl (en rfl s10))))))))
              have s11 := (hg 11).trans (en rfl (en rfl (en rfl (en rfl (en rfl (en rfl (en rfl (en rfl s11))))))))
              have s36 := (hg 36).trans (en rfl (en rfl (en rfl (en rfl (en rfl (en rfl (en rfl (en rfl s36))))))))
              have s38 := (hg 38).trans (en rfl (en rfl (en rfl (en rfl (en rfl (en rfl (en rfl (en rfl s38))))))))
              have s39 := (hg 39).trans (en rfl (en rfl (en rfl (en rfl (en rfl (en rfl (en rfl (en rfl s39))))))))
              have s40 := (hg 40).trans (en rfl (en rfl (en rfl (en rfl (en rfl (en rfl (en rfl (en rfl s40))))))))
              have s50 := (hg 50).trans (en rfl (en rfl (en rfl (en rfl (en rfl (en rfl (en rfl (en rfl s50))))))))
              have s68 := (hg 68).trans (en rfl (en rfl (en rfl (en rfl (en rfl (en rfl (en rfl (en rfl s68))))))))
              have s75 := (hg 75).trans (en rfl (en rfl (en rfl (en rfl (en rfl (en rfl (en rfl (en rfl s75))))))))
              have s89 := (hg 89).trans es
              clear hg
              refine xc_cond s89 (fun hc => by cases hc) (fun _ => ?_)
              refine xc_seq (fun K hK57 => ?_)
              refine xc_region ?_
              refine x_val (r_move s10) (nd_of rfl) rfl ?_
              refine x_val (r_move (en rfl s1)) (nd_of rfl) rfl ?_
              refine x_val (r_move (en rfl (en rfl s9))) (nd_of rfl) rfl ?_
              refine x_val (r_indexAny Try.underlying22 Try.sizeOf21 (en rfl es) es (by omega) (by omega)) (nd_of rfl) rfl ?_
              refine x_val (r_loadCell Try.isAgg21 es (by obtain ⟨b1, e1, c1⟩ := hv.get h.drop.drop hr3; cases e1; rw [Nat.mul_one]; exact c1)) (nd_of rfl) rfl ?_
              refine x_val (r_neq (en rfl (en rfl (en rfl (en rfl es)))) es (decide_eq_false (by omega))) (nd_of rfl) rfl ?_
              refine x_val (r_move es) (nd_of rfl) rfl ?_
              refine x_take (d := 102) rfl rfl es ?_
              refine x_val (r_move (en rfl (en rfl (en rfl (en rfl (en rfl (en rfl (en rfl s11)))))))) (nd_of rfl) rfl ?_
              refine x_take (d := 102) rfl rfl (en rfl es) ?_
              refine x_val (r_neq es ec (r := false) rfl) (nd_of rfl) rfl ?_
              refine x_val (r_pick_f (en rfl (en rfl es)) es) (nd_of rfl) rfl ?_
              refine xw_nil ?_
              refine hK57 _ _ ?_
              refine xc_gen (fun g hg => ?_)
              have s0 := (hg 0).trans (en rfl (en rfl (en rfl (en rfl (en rfl (en rfl (en rfl (en rfl (en rfl (en rfl s0))))))))))
              have s1 := (hg 1).trans (en rfl (en rfl (en rfl (en rfl (en rfl (en rfl (en rfl (en rfl (en rfl (en rfl s1))))))))))
              have s2 := (hg 2).trans (en rfl (en rfl (en rfl (en rfl (en rfl (en rfl (en rfl (en rfl (en rfl (en rfl s2))))))))))
              have s5 := (hg 5).trans (en rfl (en rfl (en rfl (en rfl (en rfl (en rfl (en rfl (en rfl (en rfl (en rfl s5))))))))))
              have s6 := (hg 6).trans (en rfl (en rfl (en rfl (en rfl (en rfl (en rfl (en rfl (en rfl (en rfl (en rfl s6))))))))))
              have s8 := (hg 8).trans (en rfl (en rfl (en rfl (en rfl (en rfl (en rfl (en rfl (en rfl (en rfl (en rfl s8))))))))))
              have s9 := (hg 9).trans (en rfl (en rfl (en rfl (en rfl (en rfl (en rfl (en rfl (en rfl (en rfl (en rfl s9))))))))))
              have s10 := (hg 10).trans (en rfl (en rfl (en rfl (en rfl (en rfl (en rfl (en rfl (en rfl (en rfl (en rfl s10))))))))))
              have s11 := (hg 11).trans (en rfl (en rfl (en rfl (en rfl (en rfl (en rfl (en rfl (en rfl (en rfl (en rfl s11))))))))))
              have s36 := (hg 36).trans (en rfl (en rfl (en rfl (en rfl (en rfl (en rfl (en rfl (en rfl (en rfl (en rfl s36))))))))))
              have s38 := (hg 38).trans (en rfl (en rfl (en rfl (en rfl (en rfl (en rfl (en rfl (en rfl (en rfl (en rfl s38))))))))))
              have s39 := (hg 39).trans (en rfl (en rfl (en rfl (en rfl (en rfl (en rfl (en rfl (en rfl (en rfl (en rfl s39))))))))))
              have s40 := (hg 40).trans (en rfl (en rfl (en rfl (en rfl (en rfl (en rfl (en rfl (en rfl (en rfl (en rfl s40))))))))))
              have s50 := (hg 50).trans (en rfl (en rfl (en rfl (en rfl (en rfl (en rfl (en rfl (en rfl (en rfl (en rfl s50))))))))))
              have s68 := (hg 68).trans (en rfl (en rfl (en rfl (en rfl (en rfl (en rfl (en rfl (en rfl (en rfl (en rfl s68))))))))))
              have s75 := (hg 75).trans (en rfl (en rfl (en rfl (en rfl (en rfl (en rfl (en rfl (en rfl (en rfl (en rfl s75))))))))))
              have s89 := (hg 89).trans (en rfl (en rfl (en rfl (en rfl (en rfl (en rfl (en rfl (en rfl (en rfl (en rfl s89))))))))))
              have s105 := (hg 105).trans es
              clear hg
              refine xc_cond s105 (fun hc => by cases hc) (fun _ => ?_)
              refine xc_skip ?_
              refine hK44 _ _ ?_
              refine xc_region ?_
              refine x_val (r_move s9) (nd_of rfl) rfl ?_
              refine x_val (r_add es ec (show _ = (i + 1 : Int) from by rfl) (by unfold I64; omega)) (nd_of rfl) rfl ?_
              refine x_val (r_assign es) (nd_of rfl) rfl ?_
              refine xw_nil ?_
              exact ⟨(zs.length + 2 - (i + 1)).toNat, by omega, ⟨i + 1, rfl, by omega, by omega, es, by rw [show i + 1 - 1 = i by omega]; exact (en rfl (en rfl (en rfl s8))), h⟩, ⟨((en rfl (en rfl (en rfl s0)))).trans z0.symm, ((en rfl (en rfl (en rfl s1)))).trans z1.symm, ((en rfl (en rfl (en rfl s2)))).trans z2.symm, ((en rfl (en rfl (en rfl s5)))).trans z5.symm, ((en rfl (en rfl (en rfl s6)))).trans z6.symm, ((en rfl (en rfl (en rfl s36)))).trans z36.symm, ((en rfl (en rfl (en rfl s38)))).trans z38.symm, ((en rfl (en rfl (en rfl s39)))).trans z39.symm, ((en rfl (en rfl (en rfl s40)))).trans z40.symm⟩⟩
      ·
        skip
        refine xc_skip ?_
        refine hK17 _ _ ?_
        refine xc_seq (fun K hK58 => ?_)
        refine xc_block ?_
        refine xc_seq (fun K hK59 => ?_)
        refine xc_seq (fun K hK60 => ?_)
        refine xc_region ?_
        refine x_val (r_move s9) (nd_of rfl) rfl ?_
        refine x_val (r_gtr es ec (decide_eq_false (by omega))) (nd_of rfl) rfl ?_
        rw [if_neg (fun hh => h0 hh.1)] at hci
        have s8 : g 8 = .int .i64 ((zs.take i.toNat).count 10 : Int) := by rw [s8, hci]; rfl
        refine x_val (r_move es) (nd_of rfl) rfl ?_
        refine x_pass (d := 55) rfl rfl es rfl ?_
        refine x_pass (d := 55) rfl rfl (en rfl es) rfl ?_
        refine x_pass (d := 55) rfl rfl (en rfl (en rfl es)) rfl ?_
        refine x_pass (d := 55) rfl rfl (en rfl (en rfl (en rfl es))) rfl ?_
        refine x_val (r_pick_f (en rfl (en rfl (en rfl (en rfl es)))) ec) (nd_of rfl) rfl ?_
        refine x_val (r_move es) (nd_of rfl) rfl ?_
        refine x_pass (d := 61) rfl rfl es rfl ?_
        refine x_pass (d := 61) rfl rfl (en rfl es) rfl ?_
        refine x_pass (d := 61) rfl rfl (en rfl (en rfl es)) rfl ?_
        refine x_pass (d := 61) rfl rfl (en rfl (en rfl (en rfl es))) rfl ?_
        refine x_pass (d := 61) rfl rfl (en rfl (en rfl (en rfl (en rfl es)))) rfl ?_
        refine x_pass (d := 61) rfl rfl (en rfl (en rfl (en rfl (en rfl (en rfl es))))) rfl ?_
        refine x_val (r_pick_f (en rfl (en rfl (en rfl (en rfl (en rfl (en rfl es)))))) ec) (nd_of rfl) rfl ?_
        refine xw_nil ?_
        refine hK60 _ _ ?_
        refine xc_gen (fun g hg => ?_)
        have s0 := (hg 0).trans (en rfl (en rfl (en rfl (en rfl (en rfl (en rfl (en rfl (en rfl (en rfl (en rfl (en rfl (en rfl (en rfl (en rfl (en rfl (en rfl s0))))))))))))))))
        have s1 := (hg 1).trans (en rfl (en rfl (en rfl (en rfl (en rfl (en rfl (en rfl (en rfl (en rfl (en rfl (en rfl (en rfl (en rfl (en rfl (en rfl (en rfl s1))))))))))))))))
        have s2 := (hg 2).trans (en rfl (en rfl (en rfl (en rfl (en rfl (en rfl (en rfl (en rfl (en rfl (en rfl (en rfl (en rfl (en rfl (en rfl (en rfl (en rfl s2))))))))))))))))
        have s5 := (hg 5).trans (en rfl (en rfl (en rfl (en rfl (en rfl (en rfl (en rfl (en rfl (en rfl (en rfl (en rfl (en rfl (en rfl (en rfl (en rfl (en rfl s5))))))))))))))))
        have s6 := (hg 6).trans (en rfl (en rfl (en rfl (en rfl (en rfl (en rfl (en rfl (en rfl (en rfl (en rfl (en rfl (en rfl (en rfl (en rfl (en rfl (en rfl s6))))))))))))))))
        have s8 := (hg 8).trans (en rfl (en rfl (en rfl (en rfl (en rfl (en rfl (en rfl (en rfl (en rfl (en rfl (en rfl (en rfl (en rfl (en rfl (en rfl (en rfl s8))))))))))))))))
        have s9 := (hg 9).trans (en rfl (en rfl (en rfl (en rfl (en rfl (en rfl (en rfl (en rfl (en rfl (en rfl (en rfl (en rfl (en rfl (en rfl (en rfl (en rfl s9))))))))))))))))
        have s36 := (hg 36).trans (en rfl (en rfl (en rfl (en rfl (en rfl (en rfl (en rfl (en rfl (en rfl (en rfl (en rfl (en rfl (en rfl (en rfl (en rfl (en rfl s36))))))))))))))))
        have s38 := (hg 38).trans (en rfl (en rfl (en rfl (en rfl (en rfl (en rfl (en rfl (en rfl (en rfl (en rfl (en rfl (en rfl (en rfl (en rfl (en rfl (en rfl s38))))))))))))))))
        have s39 := (hg 39).trans (en rfl (en rfl (en rfl (en rfl (en rfl (en rfl (en rfl (en rfl (en rfl (en rfl (en rfl (en rfl (en rfl (en rfl (en rfl (en rfl s39))))))))))))))))
        have s40 := (hg 40).trans (en rfl (en rfl (en rfl (en rfl (en rfl (en rfl (en rfl (en rfl (en rfl (en rfl (en rfl (en rfl (en rfl (en rfl (en rfl (en rfl s40))))))))))))))))
        have s50 := (hg 50).trans (en rfl (en rfl (en rfl (en rfl (en rfl (en rfl (en rfl (en rfl (en rfl (en rfl (en rfl (en rfl (en rfl (en rfl (en rfl (en rfl s50))))))))))))))))
        have s68 := (hg 68).trans es
        clear hg
        refine xc_cond s68 (fun hc => by cases hc) (fun _ => ?_)
        refine xc_skip ?_
        refine hK59 _ _ ?_
        refine xc_seq (fun K hK61 => ?_)
        refine xc_seq (fun K hK62 => ?_)
        refine xc_region ?_
        refine x_val (r_loadAgg h 1 rfl Try.isAgg26 Try.sizeOf26 s2 (Ok.le (by first | assumption | exact Ok.node (by assumption) | exact ChOk.ok (by assumption))) (ext_full (Ok.size (by first | assumption | exact Ok.node (by assumption) | exact ChOk.ok (by assumption))))) (nd_of rfl) rfl ?_
        refine x_val (r_move (en rfl s9)) (nd_of rfl) rfl ?_
        refine x_enter (r_call Try.call17 (.cons (en rfl es) (.cons es .nil))) (nd_of rfl) rfl (ahead_ok ho h) ?_
        rintro _ w ⟨rfl, h⟩
        refine x_val (r_move (en rfl (en rfl (en rfl s8)))) (nd_of rfl) rfl ?_
        refine x_val (r_neq (en rfl es) es (decide_eq_false (by omega))) (nd_of rfl) rfl ?_
        refine xw_nil ?_
        refine hK62 _ _ ?_
        refine xc_gen (fun g hg => ?_)
        have s0 := (hg 0).trans (en rfl (en rfl (en rfl (en rfl (en rfl s0)))))
        have s1 := (hg 1).trans (en rfl (en rfl (en rfl (en rfl (en rfl s1)))))
        have s2 := (hg 2).trans (en rfl (en rfl (en rfl (en rfl (en rfl s2)))))
        have s5 := (hg 5).trans (en rfl (en rfl (en rfl (en rfl (en rfl s5)))))
        have s6 := (hg 6).trans (en rfl (en rfl (en rfl (en rfl (en rfl s6)))))
        have s8 := (hg 8).trans (en rfl (en rfl (en rfl (en rfl (en rfl s8)))))
        have s9 := (hg 9).trans (en rfl (en rfl (en rfl (en rfl (en rfl s9)))))
        have s36 := (hg 36).trans (en rfl (en rfl (en rfl (en rfl (en rfl s36)))))
        have s38 := (hg 38).trans (en rfl (en rfl (en rfl (en rfl (en rfl s38)))))
        have s39 := (hg 39).trans (en rfl (en rfl (en rfl (en rfl (en rfl s39)))))
        have s40 := (hg 40).trans (en rfl (en rfl (en rfl (en rfl (en rfl s40)))))
        have s50 := (hg 50).trans (en rfl (en rfl (en rfl (en rfl (en rfl s50)))))
        have s68 := (hg 68).trans (en rfl (en rfl (en rfl (en rfl (en rfl s68)))))
        have s75 := (hg 75).trans es
        clear hg
        by_cases h3 : i < 0
        ·
          skip
          refine xc_cond s75 (fun hc => by cases hc) (fun _ => ?_)
          refine xc_skip ?_
          refine hK61 _ _ ?_
          refine xc_seq (fun K hK63 => ?_)
          refine xc_region ?_
          refine x_val (r_loadAgg h 1 rfl Try.isAgg26 Try.sizeOf26 s2 (Ok.le (by first | assumption | exact Ok.node (by assumption) | exact ChOk.ok (by assumption))) (ext_full (Ok.size (by first | assumption | exact Ok.node (by assumption) | exact ChOk.ok (by assumption))))) (nd_of rfl) rfl ?_
          refine x_val (r_move (en rfl s9)) (nd_of rfl) rfl ?_
          refine x_enter (r_call Try.call16 (.cons (en rfl es) (.cons es .nil))) (nd_of rfl) rfl (chAt_neg h3 h) ?_
          rintro _ w ⟨rfl, h⟩
          refine x_val (r_move es) (nd_of rfl) rfl ?_
          refine x_val (r_extract es gc0) (nd_of rfl) rfl ?_
          refine x_val (r_extract (en rfl es) gc1) (nd_of rfl) rfl ?_
          refine x_val (r_assign (en rfl es)) (nd_of rfl) rfl ?_
          refine x_val (r_assign (en rfl es)) (nd_of rfl) rfl ?_
          refine xw_nil ?_
          refine hK63 _ _ ?_
          refine xc_gen (fun g hg => ?_)
          have s0 := (hg 0).trans (en rfl (en rfl (en rfl (en rfl (en rfl (en rfl (en rfl (en rfl s0))))))))
          have s1 := (hg 1).trans (en rfl (en rfl (en rfl (en rfl (en rfl (en rfl (en rfl (en rfl s1))))))))
          have s2 := (hg 2).trans (en rfl (en rfl (en rfl (en rfl (en rfl (en rfl (en rfl (en rfl s2))))))))
          have s5 := (hg 5).trans (en rfl (en rfl (en rfl (en rfl (en rfl (en rfl (en rfl (en rfl s5))))))))
          have s6 := (hg 6).trans (en rfl (en rfl (en rfl (en rfl (en rfl (en rfl (en rfl (en rfl s6))))))))
          have s8 := (hg 8).trans (en rfl (en rfl (en rfl (en rfl (en rfl (en rfl (en rfl (en rfl s8))))))))
          have s9 := (hg 9).trans (en rfl (en rfl (en rfl (en rfl (en rfl (en rfl (en rfl (en rfl s9))))))))
          have s10 := (hg 10).trans (en rfl es)
          have s11 := (hg 11).trans es
          have s36 := (hg 36).trans (en rfl (en rfl (en rfl (en rfl (en rfl (en rfl (en rfl (en rfl s36))))))))
          have s38 := (hg 38).trans (en rfl (en rfl (en rfl (en rfl (en rfl (en rfl (en rfl (en rfl s38))))))))
          have s39 := (hg 39).trans (en rfl (en rfl (en rfl (en rfl (en rfl (en rfl (en rfl (en rfl s39))))))))
          have s40 := (hg 40).trans (en rfl (en rfl (en rfl (en rfl (en rfl (en rfl (en rfl (en rfl s40))))))))
          have s50 := (hg 50).trans (en rfl (en rfl (en rfl (en rfl (en rfl (en rfl (en rfl (en rfl s50))))))))
          have s68 := (hg 68).trans (en rfl (en rfl (en rfl (en rfl (en rfl (en rfl (en rfl (en rfl s68))))))))
          have s75 := (hg 75).trans (en rfl (en rfl (en rfl (en rfl (en rfl (en rfl (en rfl (en rfl s75))))))))
          clear hg
          refine xc_seq (fun K hK64 => ?_)
          refine xc_region ?_
          refine x_val (r_move s9) (nd_of rfl) rfl ?_
          refine x_val (r_lss es ec (decide_eq_true (by omega))) (nd_of rfl) rfl ?_
          refine x_val (r_move es) (nd_of rfl) rfl ?_
          refine x_pass (d := 84) rfl rfl es rfl ?_
          refine x_pass (d := 84) rfl rfl (en rfl es) rfl ?_
          refine x_pass (d := 84) rfl rfl (en rfl (en rfl es)) rfl ?_
          refine x_pass (d := 84) rfl rfl (en rfl (en rfl (en rfl es))) rfl ?_
          refine x_val (r_pick_t (en rfl (en rfl (en rfl (en rfl es)))) ec) (nd_of rfl) rfl ?_
          refine xw_nil ?_
          refine hK64 _ _ ?_
          refine xc_gen (fun g hg => ?_)
          have s0 := (hg 0).trans (en rfl (en rfl (en rfl (en rfl (en rfl (en rfl (en rfl (en rfl s0))))))))
          have s1 := (hg 1).trans (en rfl (en rfl (en rfl (en rfl (en rfl (en rfl (en rfl (en rfl s1))))))))
          have s2 := (hg 2).trans (en rfl (en rfl (en rfl (en rfl (en rfl (en rfl (en rfl (en rfl s2))))))))
          have s5 := (hg 5).trans (en rfl (en rfl (en rfl (en rfl (en rfl (en rfl (en rfl (en rfl s5))))))))
          have s6 := (hg 6).trans (en rfl (en rfl (en rfl (en rfl (en rfl (en rfl (en rfl (en rfl s6))))))))
          have s8 := (hg 8).trans (en rfl (en rfl (en rfl (en rfl (en rfl (en rfl (en rfl (en rfl s8))))))))
          have s9 := (hg 9).trans (en rfl (en rfl (en rfl (en rfl (en rfl (en rfl (en rfl (en rfl s9))))))))
          have s10 := (hg 10).trans (en rfl (en rfl (en rfl (en rfl (en rfl (en rfl (en rfl (en rfl s10))))))))
          have s11 := (hg 11).trans (en rfl (en rfl (en rfl (en rfl (en rfl (en rfl (en rfl (en rfl s11))))))))
          have s36 := (hg 36).trans (en rfl (en rfl (en rfl (en rfl (en rfl (en rfl (en rfl (en rfl s36))))))))
          have s38 := (hg 38).trans (en rfl (en rfl (en rfl (en rfl (en rfl (en rfl (en rfl (en rfl s38))))))))
          have s39 := (hg 39).trans (en rfl (en rfl (en rfl (en rfl (en rfl (en rfl (en rfl (en rfl s39))))))))
          have s40 := (hg 40).trans (en rfl (en rfl (en rfl (en rfl (en rfl (en rfl (en rfl (en rfl s40))))))))
          have s50 := (hg 50).trans (en rfl (en rfl (en rfl (en rfl (en rfl (en rfl (en rfl (en rfl s50))))))))
          have s68 := (hg 68).trans (en rfl (en rfl (en rfl (en rfl (en rfl (en rfl (en rfl (en rfl s68))))))))
          have s75 := (hg 75).trans (en rfl (en rfl (en rfl (en rfl (en rfl (en rfl (en rfl (en rfl s75))))))))
          have s89 := (hg 89).trans es
          clear hg
          refine xc_cond s89 (fun _ => ?_) (fun hc => by cases hc)
          refine xc_seq (fun K hK65 => ?_)
          refine xc_region ?_
          refine x_val (r_move s10) (nd_of rfl) rfl ?_
          refine x_val (r_neq es ec (r := false) rfl) (nd_of rfl) rfl ?_
          refine x_val (r_move es) (nd_of rfl) rfl ?_
          refine x_take (d := 92) rfl rfl es ?_
          refine x_val (r_move (en rfl (en rfl (en rfl s11)))) (nd_of rfl) rfl ?_
          refine x_take (d := 92) rfl rfl (en rfl es) ?_
          refine x_val (r_neq es ec (r := false) rfl) (nd_of rfl) rfl ?_
          refine x_val (r_pick_f (en rfl (en rfl es)) es) (nd_of rfl) rfl ?_
          refine xw_nil ?_
          refine hK65 _ _ ?_
          refine xc_gen (fun g hg => ?_)
          have s0 := (hg 0).trans (en rfl (en rfl (en rfl (en rfl (en rfl (en rfl s0))))))
          have s1 := (hg 1).trans (en rfl (en rfl (en rfl (en rfl (en rfl (en rfl s1))))))
          have s2 := (hg 2).trans (en rfl (en rfl (en rfl (en rfl (en rfl (en rfl s2))))))
          have s5 := (hg 5).trans (en rfl (en rfl (en rfl (en rfl (en rfl (en rfl s5))))))
          have s6 := (hg 6).trans (en rfl (en rfl (en rfl (en rfl (en rfl (en rfl s6))))))
          have s8 := (hg 8).trans (en rfl (en rfl (en rfl (en rfl (en rfl (en rfl s8))))))
          have s9 := (hg 9).trans (en rfl (en rfl (en rfl (en rfl (en rfl (en rfl s9))))))
          have s10 := (hg 10).trans (en rfl (en rfl (en rfl (en rfl (en rfl (en rfl s10))))))
          have s11 := (hg 11).trans (en rfl (en rfl (en rfl (en rfl (en rfl (en rfl s11))))))
          have s36 := (hg 36).trans (en rfl (en rfl (en rfl (en rfl (en rfl (en rfl s36))))))
          have s38 := (hg 38).trans (en rfl (en rfl (en rfl (en rfl (en rfl (en rfl s38))))))
          have s39 := (hg 39).trans (en rfl (en rfl (en rfl (en rfl (en rfl (en rfl s39))))))
          have s40 := (hg 40).trans (en rfl (en rfl (en rfl (en rfl (en rfl (en rfl s40))))))
          have s50 := (hg 50).trans (en rfl (en rfl (en rfl (en rfl (en rfl (en rfl s50))))))
          have s68 := (hg 68).trans (en rfl (en rfl (en rfl (en rfl (en rfl (en rfl s68))))))
          have s75 := (hg 75).trans (en rfl (en rfl (en rfl (en rfl (en rfl (en rfl s75))))))
          have s89 := (hg 89).trans (en rfl (en rfl (en rfl (en rfl (en rfl (en rfl s89))))))
          have s95 := (hg 95).trans es
          clear hg
          refine xc_cond s95 (fun hc => by cases hc) (fun _ => ?_)
          refine xc_skip ?_
          refine hK58 _ _ ?_
          refine xc_region ?_
          refine x_val (r_move s9) (nd_of rfl) rfl ?_
          refine x_val (r_add es ec (show _ = (i + 1 : Int) from by rfl) (by unfold I64; omega)) (nd_of rfl) rfl ?_
          refine x_val (r_assign es) (nd_of rfl) rfl ?_
          refine xw_nil ?_
          exact ⟨(zs.length + 2 - (i + 1)).toNat, by omega, ⟨i + 1, rfl, by omega, by omega, es, by rw [show i + 1 - 1 = i by omega]; exact (en rfl (en rfl (en rfl s8))), h⟩, ⟨((en rfl (en rfl (en rfl s0)))).trans z0.symm, ((en rfl (en rfl (en rfl s1)))).trans z1.symm, ((en rfl (en rfl (en rfl s2)))).trans z2.symm, ((en rfl (en rfl (en rfl s5)))).trans z5.symm, ((en rfl (en rfl (en rfl s6)))).trans z6.symm, ((en rfl (en rfl (en rfl s36)))).trans z36.symm, ((en rfl (en rfl (en rfl s38)))).trans z38.symm, ((en rfl (en rfl (en rfl s39)))).trans z39.symm, ((en rfl (en rfl (en rfl s40)))).trans z40.symm⟩⟩
        ·
          skip
          by_cases h4 : (zs.length : Int) ≤ i
          ·
            skip
            refine xc_cond s75 (fun hc => by cases hc) (fun _ => ?_)
            refine xc_skip ?_
            refine hK61 _ _ ?_
            refine xc_seq (fun K hK66 => ?_)
            refine xc_region ?_
            refine x_val (r_loadAgg h 1 rfl Try.isAgg26 Try.sizeOf26 s2 (Ok.le (by first | assumption | exact Ok.node (by assumption) | exact ChOk.ok (by assumption))) (ext_full (Ok.size (by first | assumption | exact Ok.node (by assumption) | exact ChOk.ok (by assumption))))) (nd_of rfl) rfl ?_
            refine x_val (r_move (en rfl s9)) (nd_of rfl) rfl ?_
            refine x_enter (r_call Try.call16 (.cons (en rfl es) (.cons es .nil))) (nd_of rfl) rfl (chAt_far ho h4 h) ?_
            rintro _ w ⟨rfl, h⟩
            refine x_val (r_move es) (nd_of rfl) rfl ?_
            refine x_val (r_extract es gc0) (nd_of rfl) rfl ?_
            refine x_val (r_extract (en rfl es) gc1) (nd_of rfl) rfl ?_
            refine x_val (r_assign (en rfl es)) (nd_of rfl) rfl ?_
            refine x_val (r_assign (en rfl es)) (nd_of rfl) rfl ?_
            refine xw_nil ?_
            refine hK66 _ _ ?_
            refine xc_gen (fun g hg => ?_)
            have s0 := (hg 0).trans (en rfl (en rfl (en rfl (en rfl (en rfl (en rfl (en rfl (en rfl s0))))))))
            have s1 := (hg 1).trans (en rfl (en rfl (en rfl (en rfl (en rfl (en rfl (en rfl (en rfl s1))))))))
            have s2 := (hg 2).trans (en rfl (en rfl (en rfl (en rfl (en rfl (en rfl (en rfl (en rfl s2))))))))
            have s5 := (hg 5).trans (en rfl (en rfl (en rfl (en rfl (en rfl (en rfl (en rfl (en rfl s5))))))))
            have s6 := (hg 6).trans (en rfl (en rfl (en rfl (en rfl (en rfl (en rfl (en rfl (en rfl s6))))))))
            have s8 := (hg 8).trans (en rfl (en rfl (en rfl (en rfl (en rfl (en rfl (en rfl (en rfl s8))))))))
            have s9 := (hg 9).trans (en rfl (en rfl (en rfl (en rfl (en rfl (en rfl (en rfl (en rfl s9))))))))
            have s10 := (hg 10).trans (en rfl es)
            have s11 := (hg 11).trans es
            have s36 := (hg 36).trans (en rfl (en rfl (en rfl (en rfl (en rfl (en rfl (en rfl (en rfl s36))))))))
            have s38 := (hg 38).trans (en rfl (en rfl (en rfl (en rfl (en rfl (en rfl (en rfl (en rfl s38))))))))
            have s39 := (hg 39).trans (en rfl (en rfl (en rfl (en rfl (en rfl (en rfl (en rfl (en rfl s39))))))))
            have s40 := (hg 40).trans (en rfl (en rfl (en rfl (en rfl (en rfl (en rfl (en rfl (en rfl s40))))))))
            have s50 := (hg 50).trans (en rfl (en rfl (en rfl (en rfl (en rfl (en rfl (en rfl (en rfl s50))))))))
            have s68 := (hg 68).trans (en rfl (en rfl (en rfl (en rfl (en rfl (en rfl (en rfl (en rfl s68))))))))
            have s75 := (hg 75).trans (en rfl (en rfl (en rfl (en rfl (en rfl (en rfl (en rfl (en rfl s75))))))))
            clear hg
            refine xc_seq (fun K hK67 => ?_)
            refine xc_region ?_
            refine x_val (r_move s9) (nd_of rfl) rfl ?_
            refine x_val (r_lss es ec (decide_eq_false (by omega))) (nd_of rfl) rfl ?_
            refine x_val (r_move es) (nd_of rfl) rfl ?_
            refine x_take (d := 84) rfl rfl es ?_
            refine x_val (r_move (en rfl (en rfl (en rfl s9)))) (nd_of rfl) rfl ?_
            refine x_take (d := 84) rfl rfl (en rfl es) ?_
            refine x_val (r_move (en rfl (en rfl (en rfl (en rfl s1))))) (nd_of rfl) rfl ?_
            refine x_take (d := 84) rfl rfl (en rfl (en rfl es)) ?_
            refine x_val (r_len Try.underlying22 es) (nd_of rfl) rfl ?_
            refine x_take (d := 84) rfl rfl (en rfl (en rfl (en rfl es))) ?_
            refine x_val (r_geq (en rfl (en rfl es)) es (decide_eq_true (by omega))) (nd_of rfl) rfl ?_
            refine x_val (r_pick_f (en rfl (en rfl (en rfl (en rfl es)))) es) (nd_of rfl) rfl ?_
            refine xw_nil ?_
            refine hK67 _ _ ?_
            refine xc_gen (fun g hg => ?_)
            have s0 := (hg 0).trans (en rfl (en rfl (en rfl (en rfl (en rfl (en rfl (en rfl (en rfl s0))))))))
            have s1 := (hg 1).trans (en rfl (en rfl (en rfl (en rfl (en rfl (en rfl (en rfl (en rfl s1))))))))
            have s2 := (hg 2).trans (en rfl (en rfl (en rfl (en rfl (en rfl (en rfl (en rfl (en rfl s2))))))))
            have s5 := (hg 5).trans (en rfl (en rfl (en rfl (en rfl (en rfl (en rfl (en rfl (en rfl s5))))))))
            have s6 := (hg 6).trans (en rfl (en rfl (en rfl (en rfl (en rfl (en rfl (en rfl (en rfl s6))))))))
            have s8 := (hg 8).trans (en rfl (en rfl (en rfl (en rfl (en rfl (en rfl (en rfl (en rfl s8))))))))
            have s9 := (hg 9).trans (en rfl (en rfl (en rfl (en rfl (en rfl (en rfl (en rfl (en rfl s9))))))))
            have s10 := (hg 10).trans (en rfl (en rfl (en rfl (en rfl (en rfl (en rfl (en rfl (en rfl s10))))))))
            have s11 := (hg 11).trans (en rfl (en rfl (en rfl (en rfl (en rfl (en rfl (en rfl (en rfl s11))))))))
            have s36 := (hg 36).trans (en rfl (en rfl (en rfl (en rfl (en rfl (en rfl (en rfl (en rfl s36))))))))
            have s38 := (hg 38).trans (en rfl (en rfl (en rfl (en rfl (en rfl (en rfl (en rfl (en rfl s38))))))))
            have s39 := (hg 39).trans (en rfl (en rfl (en rfl (en rfl (en rfl (en rfl (en rfl (en rfl s39))))))))
            have s40 := (hg 40).trans (en rfl (en rfl (en rfl (en rfl (en rfl (en rfl (en rfl (en rfl s40))))))))
            have s50 := (hg 50).trans (en rfl (en rfl (en rfl (en rfl (en rfl (en rfl (en rfl (en rfl s50))))))))
            have s68 := (hg 68).trans (en rfl (en rfl (en rfl (en rfl (en rfl (en rfl (en rfl (en rfl s68))))))))
            have s75 := (hg 75).trans (en rfl (en rfl (en rfl (en rfl (en rfl (en rfl (en rfl (en rfl s75))))))))
            have s89 := (hg 89).trans es
            clear hg
            refine xc_cond s89 (fun _ => ?_) (fun hc => by cases hc)
            refine xc_seq (fun K hK68 => ?_)
            refine xc_region ?_
            refine x_val (r_move s10) (nd_of rfl) rfl ?_
            refine x_val (r_neq es ec (r := false) rfl) (nd_of rfl) rfl ?_
            refine x_val (r_move es) (nd_of rfl) rfl ?_
            refine x_take (d := 92) rfl rfl es ?_
            refine x_val (r_move (en rfl (en rfl (en rfl s11)))) (nd_of rfl) rfl ?_
            refine x_take (d := 92) rfl rfl (en rfl es) ?_
            refine x_val (r_neq es ec (r := false) rfl) (nd_of rfl) rfl ?_
            refine x_val (r_pick_f (en rfl (en rfl es)) es) (nd_of rfl) rfl ?_
            refine xw_nil ?_
            refine hK68 _ _ ?_
            refine xc_gen (fun g hg => ?_)
            have s0 := (hg 0).trans (en rfl (en rfl (en rfl (en rfl (en rfl (en rfl s0))))))
            have s1 := (hg 1).trans (en rfl (en rfl (en rfl (en rfl (en rfl (en rfl s1))))))
            have s2 := (hg 2).trans (en rfl (en rfl (en rfl (en rfl (en rfl (en rfl s2))))))
            have s5 := (hg 5).trans (en rfl (en rfl (en rfl (en rfl (en rfl (en rfl s5))))))
            have s6 := (hg 6).trans (en rfl (en rfl (en rfl (en rfl (en rfl (en rfl s6))))))
            have s8 := (hg 8).trans (en rfl (en rfl (en rfl (en rfl (en rfl (en rfl s8))))))
            have s9 := (hg 9).trans (en rfl (en rfl (en rfl (en rfl (en rfl (en rfl s9))))))
            have s10 := (hg 10).trans (en rfl (en rfl (en rfl (en rfl (en rfl (en rfl s10))))))
            have s11 := (hg 11).trans (en rfl (en rfl (en rfl (en rfl (en rfl (en rfl s11))))))
            have s36 := (hg 36).trans (en rfl (en rfl (en rfl (en rfl (en rfl (en rfl s36))))))
            have s38 := (hg 38).trans (en rfl (en rfl (en rfl (en rfl (en rfl (en rfl s38))))))
            have s39 := (hg 39).trans (en rfl (en rfl (en rfl (en rfl (en rfl (en rfl s39))))))
            have s40 := (hg 40).trans (en rfl (en rfl (en rfl (en rfl (en rfl (en rfl s40))))))
            have s50 := (hg 50).trans (en rfl (en rfl (en rfl (en rfl (en rfl (en rfl s50))))))
            have s68 := (hg 68).trans (en rfl (en rfl (en rfl (en rfl (en rfl (en rfl s68))))))
            have s75 := (hg 75).trans (en rfl (en rfl (en rfl (en rfl (en rfl (en rfl s75))))))
            have s89 := (hg 89).trans (en rfl (en rfl (en rfl (en rfl (en rfl (en rfl s89))))))
            have s95 := (hg 95).trans es
            clear hg
            refine xc_cond s95 (fun hc => by cases hc) (fun _ => ?_)
            refine xc_skip ?_
            refine hK58 _ _ ?_
            refine xc_region ?_
            refine x_val (r_move s9) (nd_of rfl) rfl ?_
            refine x_val (r_add es ec (show _ = (i + 1 : Int) from by rfl) (by unfold I64; omega)) (nd_of rfl) rfl ?_
            refine x_val (r_assign es) (nd_of rfl) rfl ?_
            refine xw_nil ?_
            exact ⟨(zs.length + 2 - (i + 1)).toNat, by omega, ⟨i + 1, rfl, by omega, by omega, es, by rw [show i + 1 - 1 = i by omega]; exact (en rfl (en rfl (en rfl s8))), h⟩, ⟨((en rfl (en rfl (en rfl s0)))).trans z0.symm, ((en rfl (en rfl (en rfl s1)))).trans z1.symm, ((en rfl (en rfl (en rfl s2)))).trans z2.symm, ((en rfl (en rfl (en rfl s5)))).trans z5.symm, ((en rfl (en rfl (en rfl s6)))).trans z6.symm, ((en rfl (en rfl (en rfl s36)))).trans z36.symm, ((en rfl (en rfl (en rfl s38)))).trans z38.symm, ((en rfl (en rfl (en rfl s39)))).trans z39.symm, ((en rfl (en rfl (en rfl s40)))).trans z40.symm⟩⟩
          ·
            skip
            refine xc_cond s75 (fun hc => by cases hc) (fun _ => ?_)
            refine xc_skip ?_
            refine hK61 _ _ ?_
            refine xc_seq (fun K hK69 => ?_)
            obtain ⟨r3, hr3⟩ : ∃ r, zs[i.toNat]? = some r := ⟨_, List.getElem?_eq_getElem (by omega)⟩
            obtain ⟨a3, e3, hcell3⟩ := hv.get h.drop.drop hr3
            cases e3
            refine xc_region ?_
            refine x_val (r_loadAgg h 1 rfl Try.isAgg26 Try.sizeOf26 s2 (Ok.le (by first | assumption | exact Ok.node (by assumption) | exact ChOk.ok (by assumption))) (ext_full (Ok.size (by first | assumption | exact Ok.node (by assumption) | exact ChOk.ok (by assumption))))) (nd_of rfl) rfl ?_
            refine x_val (r_move (en rfl s9)) (nd_of rfl) rfl ?_
            refine x_enter (r_call Try.call16 (.cons (en rfl es) (.cons es .nil))) (nd_of rfl) rfl (chAt_i ho (by omega) hr3 h) ?_
            rintro _ w ⟨rfl, h⟩
            refine x_val (r_move es) (nd_of rfl) rfl ?_
            refine x_val (r_extract es gc0) (nd_of rfl) rfl ?_
            refine x_val (r_extract (en rfl es) gc1) (nd_of rfl) rfl ?_
            refine x_val (r_assign (en rfl es)) (nd_of rfl) rfl ?_
            refine x_val (r_assign (en rfl es)) (nd_of rfl) rfl ?_
            refine xw_nil ?_
            refine hK69 _ _ ?_
            refine xc_gen (fun g hg => ?_)
            have s0 := (hg 0).trans (en rfl (en rfl (en rfl (en rfl (en rfl (en rfl (en rfl (en rfl s0))))))))
            have s1 := (hg 1).trans (en rfl (en rfl (en rfl (en rfl (en rfl (en rfl (en rfl (en rfl s1))))))))
            have s2 := (hg 2).trans (en rfl (en rfl (en rfl (en rfl (en rfl (en rfl (en rfl (en rfl s2))))))))
            have s5 := (hg 5).trans (en rfl (en rfl (en rfl (en rfl (en rfl (en rfl (en rfl (en rfl s5))))))))
            have s6 := (hg 6).trans (en rfl (en rfl (en rfl (en rfl (en rfl (en rfl (en rfl (en rfl s6))))))))
            have s8 := (hg 8).trans (en rfl (en rfl (en rfl (en rfl (en rfl (en rfl (en rfl (en rfl s8))))))))
            have s9 := (hg 9).trans (en rfl (en rfl (en rfl (en rfl (en rfl (en rfl (en rfl (en rfl s9))))))))
            have s10 := (hg 10).trans (en rfl es)
            have s11 := (hg 11).trans es
            have s36 := (hg 36).trans (en rfl (en rfl (en rfl (en rfl (en rfl (en rfl (en rfl (en rfl s36))))))))
            have s38 := (hg 38).trans (en rfl (en rfl (en rfl (en rfl (en rfl (en rfl (en rfl (en rfl s38))))))))
            have s39 := (hg 39).trans (en rfl (en rfl (en rfl (en rfl (en rfl (en rfl (en rfl (en rfl s39))))))))
            have s40 := (hg 40).trans (en rfl (en rfl (en rfl (en rfl (en rfl (en rfl (en rfl (en rfl s40))))))))
            have s50 := (hg 50).trans (en rfl (en rfl (en rfl (en rfl (en rfl (en rfl (en rfl (en rfl s50))))))))
            have s68 := (hg 68).trans (en rfl (en rfl (en rfl (en rfl (en rfl (en rfl (en rfl (en rfl s68))))))))
            have s75 := (hg 75).trans (en rfl (en rfl (en rfl (en rfl (en rfl (en rfl (en rfl (en rfl s75))))))))
            clear hg
            refine xc_seq (fun K hK70 => ?_)
            refine xc_region ?_
            refine x_val (r_move s9) (nd_of rfl) rfl ?_
            refine x_val (r_lss es ec (decide_eq_false (by omega))) (nd_of rfl) rfl ?_
            refine x_val (r_move es) (nd_of rfl) rfl ?_
            refine x_take (d := 84) rfl rfl es ?_
            refine x_val (r_move (en rfl (en rfl (en rfl s9)))) (nd_of rfl) rfl ?_
            refine x_take (d := 84) rfl rfl (en rfl es) ?_
            refine x_val (r_move (en rfl (en rfl (en rfl (en rfl s1))))) (nd_of rfl) rfl ?_
            refine x_take (d := 84) rfl rfl (en rfl (en rfl es)) ?_
            refine x_val (r_len Try.underlying22 es) (nd_of rfl) rfl ?_
            refine x_take (d := 84) rfl rfl (en rfl (en rfl (en rfl es))) ?_
            refine x_val (r_geq (en rfl (en rfl es)) es (decide_eq_false (by omega))) (nd_of rfl) rfl ?_
            refine x_val (r_pick_f (en rfl (en rfl (en rfl (en rfl es)))) es) (nd_of rfl) rfl ?_
            refine xw_nil ?_
            refine hK70 _ _ ?_
            refine xc_gen (fun g hg => ?_)
            have s0 := (hg 0).trans (en rfl (en rfl (en rfl (en rfl (en rfl (en rfl (en rfl (en rfl s0))))))))
            have s1 := (hg 1).trans (en rfl (en rfl (en rfl (en rfl (en rfl (en rfl (en rfl (en rfl s1))))))))
            have s2 := (hg 2).trans (en rfl (en rfl (en rfl (en rfl (en rfl (en rfl (en rfl (en rfl s2))))))))
            have s5 := (hg 5).trans (en rfl (en rfl (en rfl (en rfl (en rfl (en rfl (en rfl (en rfl s5))))))))
            have s6 := (hg 6).trans (en rfl (en rfl (en rfl (en rfl (en rfl (en rfl (en rfl (en rfl s6))))))))
            have s8 := (hg 8).trans (en rfl (en rfl (en rfl (en rfl (en rfl (en rfl (en rfl (en rfl s8))))))))
            have s9 := (hg 9).trans (en rfl (en rfl (en rfl (en rfl (en rfl (en rfl (en rfl (en rfl s9))))))))
            have s10 := (hg 10).trans (en rfl (en rfl (en rfl (en rfl (en rfl (en rfl (en rfl (en rfl s10))))))))
            have s11 := (hg 11).trans (en rfl (en rfl (en rfl (en rfl (en rfl (en rfl (en rfl (en rfl s11))))))))
            have s36 := (hg 36).trans (en rfl (en rfl (en rfl (en rfl (en rfl (en rfl (en rfl (en rfl s36))))))))
            have s38 := (hg 38).trans (en rfl (en rfl (en rfl (en rfl (en rfl (en rfl (en rfl (en rfl s38))))))))
            have s39 := (hg 39).trans (en rfl (en rfl (en rfl (en rfl (en rfl (en rfl (en rfl (en rfl s39))))))))
            have s40 := (hg 40).trans (en rfl (en rfl (en rfl (en rfl (en rfl (en rfl (en rfl (en rfl s40))))))))
            have s50 := (hg 50).trans (en rfl (en rfl (en rfl (en rfl (en rfl (en rfl (en rfl (en rfl s50))))))))
            have s68 := (hg 68).trans (en rfl (en rfl (en rfl (en rfl (en rfl (en rfl (en rfl (en rfl s68))))))))
            have s75 := (hg 75).trans (en rfl (en rfl (en rfl (en rfl (en rfl (en rfl (en rfl (en rfl s75))))))))
            have s89 := (hg 89).trans es
            clear hg
            refine xc_cond s89 (fun hc => by cases hc) (fun _ => ?_)
            refine xc_seq (fun K hK71 => ?_)
            refine xc_region ?_
            refine x_val (r_move s10) (nd_of rfl) rfl ?_
            refine x_val (r_move (en rfl s1)) (nd_of rfl) rfl ?_
            refine x_val (r_move (en rfl (en rfl s9))) (nd_of rfl) rfl ?_
            refine x_val (r_indexAny Try.underlying22 Try.sizeOf21 (en rfl es) es (by omega) (by omega)) (nd_of rfl) rfl ?_
            refine x_val (r_loadCell Try.isAgg21 es (by obtain ⟨b1, e1, c1⟩ := hv.get h.drop.drop hr3; cases e1; rw [Nat.mul_one]; exact c1)) (nd_of rfl) rfl ?_
            refine x_val (r_neq (en rfl (en rfl (en rfl (en rfl es)))) es (decide_eq_false (by omega))) (nd_of rfl) rfl ?_
            refine x_val (r_move es) (nd_of rfl) rfl ?_
            refine x_take (d := 102) rfl rfl es ?_
            refine x_val (r_move (en rfl (en rfl (en rfl (en rfl (en rfl (en rfl (en rfl s11)))))))) (nd_of rfl) rfl ?_
            refine x_take (d := 102) rfl rfl (en rfl es) ?_
            refine x_val (r_neq es ec (r := false) rfl) (nd_of rfl) rfl ?_
            refine x_val (r_pick_f (en rfl (en rfl es)) es) (nd_of rfl) rfl ?_
            refine xw_nil ?_
            refine hK71 _ _ ?_
            refine xc_gen (fun g hg => ?_)
            have s0 := (hg 0).trans (en rfl (en rfl (en rfl (en rfl (en rfl (en rfl (en rfl (en rfl (en rfl (en rfl s0))))))))))
            have s1 := (hg 1).trans (en rfl (en rfl (en rfl (en rfl (en rfl (en rfl (en rfl (en rfl (en rfl (en rfl s1))))))))))
            have s2 := (hg 2).trans (en rfl (en rfl (en rfl (en rfl (en rfl (en rfl (en rfl (en rfl (en rfl (en rfl s2))))))))))
            have s5 := (hg 5).trans (en rfl (en rfl (en rfl (en rfl (en rfl (en rfl (en rfl (en rfl (en rfl (en rfl s5))))))))))
            have s6 := (hg 6).trans (en rfl (en rfl (en rfl (en rfl (en rfl (en rfl (en rfl (en rfl (en rfl (en rfl s6))))))))))
            have s8 := (hg 8).trans (en rfl (en rfl (en rfl (en rfl (en rfl (en rfl (en rfl (en rfl (en rfl (en rfl s8))))))))))
            have s9 := (hg 9).trans (en rfl (en rfl (en rfl (en rfl (en rfl (en rfl (en rfl (en rfl (en rfl (en rfl s9))))))))))
            have s10 := (hg 10).trans (en rfl (en rfl (en rfl (en rfl (en rfl (en rfl (en rfl (en rfl (en rfl (en rfl s10))))))))))
            have s11 := (hg 11).trans (en rfl (en rfl (en rfl (en rfl (en rfl (en rfl (en rfl (en rfl (en rfl (en rfl s11))))))))))
            have s36 := (hg 36).trans (en rfl (en rfl (en rfl (en rfl (en rfl (en rfl (en rfl (en rfl (en rfl (en rfl s36))))))))))
            have s38 := (hg 38).trans (en rfl (en rfl (en rfl (en rfl (en rfl (en rfl (en rfl (en rfl (en rfl (en rfl s38))))))))))
            have s39 := (hg 39).trans (en rfl (en rfl (en rfl (en rfl (en rfl (en rfl (en rfl (en rfl (en rfl (en rfl s39))))))))))
            have s40 := (hg 40).trans (en rfl (en rfl (en rfl (en rfl (en rfl (en rfl (en rfl (en rfl (en rfl (en rfl s40))))))))))
            have s50 := (hg 50).trans (en rfl (en rfl (en rfl (en rfl (en rfl (en rfl (en rfl (en rfl (en rfl (en rfl s50))))))))))
            have s68 := (hg 68).trans (en rfl (en rfl (en rfl (en rfl (en rfl (en rfl (en rfl (en rfl (en rfl (en rfl s68))))))))))
            have s75 := (hg 75).trans (en rfl (en rfl (en rfl (en rfl (en rfl (en rfl (en rfl (en rfl (en rfl (en rfl s75))))))))))
            have s89 := (hg 89).trans (en rfl (en rfl (en rfl (en rfl (en rfl (en rfl (en rfl (en rfl (en rfl (en rfl s89))))))))))
            have s105 := (hg 105).trans es
            clear hg
            refine xc_cond s105 (fun hc => by cases hc) (fun _ => ?_)
            refine xc_skip ?_
            refine hK58 _ _ ?_
            refine xc_region ?_
            refine x_val (r_move s9) (nd_of rfl) rfl ?_
            refine x_val (r_add es ec (show _ = (i + 1 : Int) from by rfl) (by unfold I64; omega)) (nd_of rfl) rfl ?_
            refine x_val (r_assign es) (nd_of rfl) rfl ?_
            refine xw_nil ?_
            exact ⟨(zs.length + 2 - (i + 1)).toNat, by omega, ⟨i + 1, rfl, by omega, by omega, es, by rw [show i + 1 - 1 = i by omega]; exact (en rfl (en rfl (en rfl s8))), h⟩, ⟨((en rfl (en rfl (en rfl s0)))).trans z0.symm, ((en rfl (en rfl (en rfl s1)))).trans z1.symm, ((en rfl (en rfl (en rfl s2)))).trans z2.symm, ((en rfl (en rfl (en rfl s5)))).trans z5.symm, ((en rfl (en rfl (en rfl s6)))).trans z6.symm, ((en rfl (en rfl (en rfl s36)))).trans z36.symm, ((en rfl (en rfl (en rfl s38)))).trans z38.symm, ((en rfl (en rfl (en rfl s39)))).trans z39.symm, ((en rfl (en rfl (en rfl s40)))).trans z40.symm⟩⟩
    ·
      refine xc_exit ?_
      refine hK14 _ _ ?_
      refine xc_seq (fun K hK72 => ?_)
      refine xc_seq (fun K hK73 => ?_)
      refine xc_region ?_
      refine x_val (r_assign ec) (nd_of rfl) rfl ?_
      refine xw_nil ?_
      refine hK73 _ _ ?_
      refine xc_gen (fun g hg => ?_)
      have s0 := (hg 0).trans (en rfl s0)
      have s1 := (hg 1).trans (en rfl s1)
      have s2 := (hg 2).trans (en rfl s2)
      have s5 := (hg 5).trans (en rfl s5)
      have s6 := (hg 6).trans (en rfl s6)
      have s8 := (hg 8).trans (en rfl s8)
      have s9 := (hg 9).trans (en rfl s9)
      have s12 := (hg 12).trans es
      have s36 := (hg 36).trans (en rfl s36)
      have s38 := (hg 38).trans (en rfl s38)
      have s39 := (hg 39).trans (en rfl s39)
      have s40 := (hg 40).trans (en rfl s40)
      have s50 := (hg 50).trans (en rfl s50)
      clear hg
      refine xc_block ?_
      obtain ⟨G74, hG74⟩ : ∃ g0 : Nat → Value, g0 = g := ⟨_, rfl⟩
      have z0 : G74 0 = _ := (congrFun hG74 0).trans s0
      have z1 : G74 1 = _ := (congrFun hG74 1).trans s1
      have z2 : G74 2 = _ := (congrFun hG74 2).trans s2
      have z5 : G74 5 = _ := (congrFun hG74 5).trans s5
      have z6 : G74 6 = _ := (congrFun hG74 6).trans s6
      have z8 : G74 8 = _ := (congrFun hG74 8).trans s8
      have z9 : G74 9 = _ := (congrFun hG74 9).trans s9
      have z36 : G74 36 = _ := (congrFun hG74 36).trans s36
      have z38 : G74 38 = _ := (congrFun hG74 38).trans s38
      have z39 : G74 39 = _ := (congrFun hG74 39).trans s39
      have z40 : G74 40 = _ := (congrFun hG74 40).trans s40
      have z50 : G74 50 = _ := (congrFun hG74 50).trans s50
      refine xc_loop (fun m f w => (∃ k : Int, m = (zs.count 10 + 1 - k).toNat ∧ -1 ≤ k ∧ k ≤ zs.count 10 + 1 ∧ f 12 = .int .i64 k ∧ SatL E w (Row 3 1 (.slice gn (nlsT zs zs.length).length cn) (nlsT zs zs.length).length (i64s (nlsT zs zs.length)) :: Cells b2 (chC zs) 26 :: R)) ∧ (f 0 = G74 0 ∧ f 1 = G74 1 ∧ f 2 = G74 2 ∧ f 5 = G74 5 ∧ f 6 = G74 6 ∧ f 8 = G74 8 ∧ f 9 = G74 9 ∧ f 36 = G74 36 ∧ f 38 = G74 38 ∧ f 39 = G74 39 ∧ f 40 = G74 40 ∧ f 50 = G74 50)) ((zs.count 10 + 2)) ⟨⟨-1, by omega, by omega, by omega, s12, h⟩, ⟨congrFun hG74.symm 0, congrFun hG74.symm 1, congrFun hG74.symm 2, congrFun hG74.symm 5, congrFun hG74.symm 6, congrFun hG74.symm 8, congrFun hG74.symm 9, congrFun hG74.symm 36, congrFun hG74.symm 38, congrFun hG74.symm 39, congrFun hG74.symm 40, congrFun hG74.symm 50⟩⟩ ?_
      rintro m g w ⟨⟨k, hm, hk1, hk2, s12, h⟩, ⟨y0, y1, y2, y5, y6, y8, y9, y36, y38, y39, y40, y50⟩⟩
      have s0 := y0.trans z0
      have s1 := y1.trans z1
      have s2 := y2.trans z2
      have s5 := y5.trans z5
      have s6 := y6.trans z6
      have s8 := y8.trans z8
      have s9 := y9.trans z9
      have s36 := y36.trans z36
      have s38 := y38.trans z38
      have s39 := y39.trans z39
      have s40 := y40.trans z40
      have s50 := y50.trans z50
      refine xc_seq (fun K hK75 => ?_)
      refine xc_seq (fun K hK76 => ?_)
      refine xc_region ?_
      refine x_val (r_move s12) (nd_of rfl) rfl ?_
      refine x_val (r_move (en rfl s5)) (nd_of rfl) rfl ?_
      refine x_val (r_len Try.underlying49 es) (nd_of rfl) rfl ?_
      refine x_val (r_leq (en rfl (en rfl es)) es rfl) (nd_of rfl) rfl ?_
      refine xw_nil ?_
      refine hK76 _ _ ?_
      refine xc_gen (fun g hg => ?_)
      have s0 := (hg 0).trans (en rfl (en rfl (en rfl (en rfl s0))))
      have s1 := (hg 1).trans (en rfl (en rfl (en rfl (en rfl s1))))
      have s2 := (hg 2).trans (en rfl (en rfl (en rfl (en rfl s2))))
      have s5 := (hg 5).trans (en rfl (en rfl (en rfl (en rfl s5))))
      have s6 := (hg 6).trans (en rfl (en rfl (en rfl (en rfl s6))))
      have s8 := (hg 8).trans (en rfl (en rfl (en rfl (en rfl s8))))
      have s9 := (hg 9).trans (en rfl (en rfl (en rfl (en rfl s9))))
      have s12 := (hg 12).trans (en rfl (en rfl (en rfl (en rfl s12))))
      have s36 := (hg 36).trans (en rfl (en rfl (en rfl (en rfl s36))))
      have s38 := (hg 38).trans (en rfl (en rfl (en rfl (en rfl s38))))
      have s39 := (hg 39).trans (en rfl (en rfl (en rfl (en rfl s39))))
      have s40 := (hg 40).trans (en rfl (en rfl (en rfl (en rfl s40))))
      have s50 := (hg 50).trans (en rfl (en rfl (en rfl (en rfl s50))))
      have s109 := (hg 109).trans es
      clear hg
      refine xc_cond s109 (fun hc => ?_) (fun hc => ?_)
      ·
        have hcl : k ≤ zs.count 10 := by have := of_decide_eq_true hc; omega
        by_cases h3 : k < 0
        ·
          skip
          refine xc_skip ?_
          refine hK75 _ _ ?_
          refine xc_seq (fun K hK77 => ?_)
          refine xc_block ?_
          refine xc_seq (fun K hK78 => ?_)
          refine xc_region ?_
          refine x_val (r_loadAgg h 1 rfl Try.isAgg26 Try.sizeOf26 s2 (Ok.le (by first | assumption | exact Ok.node (by assumption) | exact ChOk.ok (by assumption))) (ext_full (Ok.size (by first | assumption | exact Ok.node (by assumption) | exact ChOk.ok (by assumption))))) (nd_of rfl) rfl ?_
          refine x_val (r_move (en rfl s12)) (nd_of rfl) rfl ?_
          refine x_enter (r_call Try.call15 (.cons (en rfl es) (.cons es .nil))) (nd_of rfl) rfl (newlineAt_none ho (by omega) (by omega) (nlAt_neg zs k h3) h) ?_
          rintro _ w ⟨rfl, h⟩
          refine x_val (r_move es) (nd_of rfl) rfl ?_
          refine x_val (r_extract es gc0) (nd_of rfl) rfl ?_
          refine x_val (r_extract (en rfl es) gc1) (nd_of rfl) rfl ?_
          refine x_val (r_assign (en rfl es)) (nd_of rfl) rfl ?_
          refine x_val (r_assign (en rfl es)) (nd_of rfl) rfl ?_
          refine xw_nil ?_
          refine hK78 _ _ ?_
          refine xc_gen (fun g hg => ?_)
          have s0 := (hg 0).trans (en rfl (en rfl (en rfl (en rfl (en rfl (en rfl (en rfl (en rfl s0))))))))
          have s1 := (hg 1).trans (en rfl (en rfl (en rfl (en rfl (en rfl (en rfl (en rfl (en rfl s1))))))))
          have s2 := (hg 2).trans (en rfl (en rfl (en rfl (en rfl (en rfl (en rfl (en rfl (en rfl s2))))))))
          have s5 := (hg 5).trans (en rfl (en rfl (en rfl (en rfl (en rfl (en rfl (en rfl (en rfl s5))))))))
          have s6 := (hg 6).trans (en rfl (en rfl (en rfl (en rfl (en rfl (en rfl (en rfl (en rfl s6))))))))
          have s8 := (hg 8).trans (en rfl (en rfl (en rfl (en rfl (en rfl (en rfl (en rfl (en rfl s8))))))))
          have s9 := (hg 9).trans (en rfl (en rfl (en rfl (en rfl (en rfl (en rfl (en rfl (en rfl s9))))))))
          have s12 := (hg 12).trans (en rfl (en rfl (en rfl (en rfl (en rfl (en rfl (en rfl (en rfl s12))))))))
          have s13 := (hg 13).trans (en rfl es)
          have s14 := (hg 14).trans es
          have s36 := (hg 36).trans (en rfl (en rfl (en rfl (en rfl (en rfl (en rfl (en rfl (en rfl s36))))))))
          have s38 := (hg 38).trans (en rfl (en rfl (en rfl (en rfl (en rfl (en rfl (en rfl (en rfl s38))))))))
          have s39 := (hg 39).trans (en rfl (en rfl (en rfl (en rfl (en rfl (en rfl (en rfl (en rfl s39))))))))
          have s40 := (hg 40).trans (en rfl (en rfl (en rfl (en rfl (en rfl (en rfl (en rfl (en rfl s40))))))))
          have s50 := (hg 50).trans (en rfl (en rfl (en rfl (en rfl (en rfl (en rfl (en rfl (en rfl s50))))))))
          have s109 := (hg 109).trans (en rfl (en rfl (en rfl (en rfl (en rfl (en rfl (en rfl (en rfl s109))))))))
          clear hg
          refine xc_seq (fun K hK79 => ?_)
          refine xc_region ?_
          refine x_val (r_move s12) (nd_of rfl) rfl ?_
          refine x_val (r_lss es ec (decide_eq_true (by omega))) (nd_of rfl) rfl ?_
          refine x_val (r_move es) (nd_of rfl) rfl ?_
          refine x_pass (d := 120) rfl rfl es rfl ?_
          refine x_pass (d := 120) rfl rfl (en rfl es) rfl ?_
          refine x_pass (d := 120) rfl rfl (en rfl (en rfl es)) rfl ?_
          refine x_pass (d := 120) rfl rfl (en rfl (en rfl (en rfl es))) rfl ?_
          refine x_val (r_pick_t (en rfl (en rfl (en rfl (en rfl es)))) ec) (nd_of rfl) rfl ?_
          refine xw_nil ?_
          refine hK79 _ _ ?_
          refine xc_gen (fun g hg => ?_)
          have s0 := (hg 0).trans (en rfl (en rfl (en rfl (en rfl (en rfl (en rfl (en rfl (en rfl s0))))))))
          have s1 := (hg 1).trans (en rfl (en rfl (en rfl (en rfl (en rfl (en rfl (en rfl (en rfl s1))))))))
          have s2 := (hg 2).trans (en rfl (en rfl (en rfl (en rfl (en rfl (en rfl (en rfl (en rfl s2))))))))
          have s5 := (hg 5).trans (en rfl (en rfl (en rfl (en rfl (en rfl (en rfl (en rfl (en rfl s5))))))))
          have s6 := (hg 6).trans (en rfl (en rfl (en rfl (en rfl (en rfl (en rfl (en rfl (en rfl s6))))))))
          have s8 := (hg 8).trans (en rfl (en rfl (en rfl (en rfl (en rfl (en rfl (en rfl (en rfl s8))))))))
          have s9 := (hg 9).trans (en rfl (en rfl (en rfl (en rfl (en rfl (en rfl (en rfl (en rfl s9))))))))
          have s12 := (hg 12).trans (en rfl (en rfl (en rfl (en rfl (en rfl (en rfl (en rfl (en rfl s12))))))))
          have s13 := (hg 13).trans (en rfl (en rfl (en rfl (en rfl (en rfl (en rfl (en rfl (en rfl s13))))))))
          have s14 := (hg 14).trans (en rfl (en rfl (en rfl (en rfl (en rfl (en rfl (en rfl (en rfl s14))))))))
          have s36 := (hg 36).trans (en rfl (en rfl (en rfl (en rfl (en rfl (en rfl (en rfl (en rfl s36))))))))
          have s38 := (hg 38).trans (en rfl (en rfl (en rfl (en rfl (en rfl (en rfl (en rfl (en rfl s38))))))))
          have s39 := (hg 39).trans (en rfl (en rfl (en rfl (en rfl (en rfl (en rfl (en rfl (en rfl s39))))))))
          have s40 := (hg 40).trans (en rfl (en rfl (en rfl (en rfl (en rfl (en rfl (en rfl (en rfl s40))))))))
          have s50 := (hg 50).trans (en rfl (en rfl (en rfl (en rfl (en rfl (en rfl (en rfl (en rfl s50))))))))
          have s109 := (hg 109).trans (en rfl (en rfl (en rfl (en rfl (en rfl (en rfl (en rfl (en rfl s109))))))))
          have s125 := (hg 125).trans es
          clear hg
          refine xc_cond s125 (fun _ => ?_) (fun hc => by cases hc)
          refine xc_seq (fun K hK80 => ?_)
          refine xc_region ?_
          refine x_val (r_move s13) (nd_of rfl) rfl ?_
          refine x_val (r_neq es ec (r := false) rfl) (nd_of rfl) rfl ?_
          refine x_val (r_move es) (nd_of rfl) rfl ?_
          refine x_take (d := 128) rfl rfl es ?_
          refine x_val (r_move (en rfl (en rfl (en rfl s14)))) (nd_of rfl) rfl ?_
          refine x_val (r_pick_f (en rfl es) es) (nd_of rfl) rfl ?_
          refine xw_nil ?_
          refine hK80 _ _ ?_
          refine xc_gen (fun g hg => ?_)
          have s0 := (hg 0).trans (en rfl (en rfl (en rfl (en rfl (en rfl s0)))))
          have s1 := (hg 1).trans (en rfl (en rfl (en rfl (en rfl (en rfl s1)))))
          have s2 := (hg 2).trans (en rfl (en rfl (en rfl (en rfl (en rfl s2)))))
          have s5 := (hg 5).trans (en rfl (en rfl (en rfl (en rfl (en rfl s5)))))
          have s6 := (hg 6).trans (en rfl (en rfl (en rfl (en rfl (en rfl s6)))))
          have s8 := (hg 8).trans (en rfl (en rfl (en rfl (en rfl (en rfl s8)))))
          have s9 := (hg 9).trans (en rfl (en rfl (en rfl (en rfl (en rfl s9)))))
          have s12 := (hg 12).trans (en rfl (en rfl (en rfl (en rfl (en rfl s12)))))
          have s13 := (hg 13).trans (en rfl (en rfl (en rfl (en rfl (en rfl s13)))))
          have s14 := (hg 14).trans (en rfl (en rfl (en rfl (en rfl (en rfl s14)))))
          have s36 := (hg 36).trans (en rfl (en rfl (en rfl (en rfl (en rfl s36)))))
          have s38 := (hg 38).trans (en rfl (en rfl (en rfl (en rfl (en rfl s38)))))
          have s39 := (hg 39).trans (en rfl (en rfl (en rfl (en rfl (en rfl s39)))))
          have s40 := (hg 40).trans (en rfl (en rfl (en rfl (en rfl (en rfl s40)))))
          have s50 := (hg 50).trans (en rfl (en rfl (en rfl (en rfl (en rfl s50)))))
          have s109 := (hg 109).trans (en rfl (en rfl (en rfl (en rfl (en rfl s109)))))
          have s125 := (hg 125).trans (en rfl (en rfl (en rfl (en rfl (en rfl s125)))))
          have s130 := (hg 130).trans es
          clear hg
          refine xc_cond s130 (fun hc => by cases hc) (fun _ => ?_)
          refine xc_skip ?_
          refine hK77 _ _ ?_
          refine xc_region ?_
          refine x_val (r_move s12) (nd_of rfl) rfl ?_
          refine x_val (r_add es ec (show _ = (k + 1 : Int) from by rfl) (by unfold I64; omega)) (nd_of rfl) rfl ?_
          refine x_val (r_assign es) (nd_of rfl) rfl ?_
          refine xw_nil ?_
          exact ⟨(zs.count 10 + 1 - (k + 1)).toNat, by omega, ⟨k + 1, rfl, by omega, by omega, es, h⟩, ⟨((en rfl (en rfl (en rfl s0)))).trans z0.symm, ((en rfl (en rfl (en rfl s1)))).trans z1.symm, ((en rfl (en rfl (en rfl s2)))).trans z2.symm, ((en rfl (en rfl (en rfl s5)))).trans z5.symm, ((en rfl (en rfl (en rfl s6)))).trans z6.symm, ((en rfl (en rfl (en rfl s8)))).trans z8.symm, ((en rfl (en rfl (en rfl s9)))).trans z9.symm, ((en rfl (en rfl (en rfl s36)))).trans z36.symm, ((en rfl (en rfl (en rfl s38)))).trans z38.symm, ((en rfl (en rfl (en rfl s39)))).trans z39.symm, ((en rfl (en rfl (en rfl s40)))).trans z40.symm, ((en rfl (en rfl (en rfl s50)))).trans z50.symm⟩⟩
        ·
          skip
          obtain ⟨q, hq⟩ : ∃ q : Nat, k = (q : Int) := ⟨k.toNat, by omega⟩
          by_cases h4 : q < (nlsT zs zs.length).length
          ·
            skip
            refine xc_skip ?_
            refine hK75 _ _ ?_
            refine xc_seq (fun K hK81 => ?_)
            refine xc_block ?_
            refine xc_seq (fun K hK82 => ?_)
            obtain ⟨i, hi1, hi2⟩ := nls_get h4
            have hkq : k.toNat = q := by omega
            refine xc_region ?_
            refine x_val (r_loadAgg h 1 rfl Try.isAgg26 Try.sizeOf26 s2 (Ok.le (by first | assumption | exact Ok.node (by assumption) | exact ChOk.ok (by assumption))) (ext_full (Ok.size (by first | assumption | exact Ok.node (by assumption) | exact ChOk.ok (by assumption))))) (nd_of rfl) rfl ?_
            refine x_val (r_move (en rfl s12)) (nd_of rfl) rfl ?_
            refine x_enter (r_call Try.call15 (.cons (en rfl es) (.cons es .nil))) (nd_of rfl) rfl (newlineAt_some ho (by omega) (by omega) (by rw [hq]; exact hi2) h) ?_
            rintro _ w ⟨rfl, h⟩
            refine x_val (r_move es) (nd_of rfl) rfl ?_
            refine x_val (r_extract es gc0) (nd_of rfl) rfl ?_
            refine x_val (r_extract (en rfl es) gc1) (nd_of rfl) rfl ?_
            refine x_val (r_assign (en rfl es)) (nd_of rfl) rfl ?_
            refine x_val (r_assign (en rfl es)) (nd_of rfl) rfl ?_
            refine xw_nil ?_
            refine hK82 _ _ ?_
            refine xc_gen (fun g hg => ?_)
            have s0 := (hg 0).trans (en rfl (en rfl (en rfl (en rfl (en rfl (en rfl (en rfl (en rfl s0))))))))
            have s1 := (hg 1).trans (en rfl (en rfl (en rfl (en rfl (en rfl (en rfl (en rfl (en rfl s1))))))))
            have s2 := (hg 2).trans (en rfl (en rfl (en rfl (en rfl (en rfl (en rfl (en rfl (en rfl s2))))))))
            have s5 := (hg 5).trans (en rfl (en rfl (en rfl (en rfl (en rfl (en rfl (en rfl (en rfl s5))))))))
            have s6 := (hg 6).trans (en rfl (en rfl (en rfl (en rfl (en rfl (en rfl (en rfl (en rfl s6))))))))
            have s8 := (hg 8).trans (en rfl (en rfl (en rfl (en rfl (en rfl (en rfl (en rfl (en rfl s8))))))))
            have s9 := (hg 9).trans (en rfl (en rfl (en rfl (en rfl (en rfl (en rfl (en rfl (en rfl s9))))))))
            have s12 := (hg 12).trans (en rfl (en rfl (en rfl (en rfl (en rfl (en rfl (en rfl (en rfl s12))))))))
            have s13 := (hg 13).trans (en rfl es)
            have s14 := (hg 14).trans es
            have s36 := (hg 36).trans (en rfl (en rfl (en rfl (en rfl (en rfl (en rfl (en rfl (en rfl s36))))))))
            have s38 := (hg 38).trans (en rfl (en rfl (en rfl (en rfl (en rfl (en rfl (en rfl (en rfl s38))))))))
            have s39 := (hg 39).trans (en rfl (en rfl (en rfl (en rfl (en rfl (en rfl (en rfl (en rfl s39))))))))
            have s40 := (hg 40).trans (en rfl (en rfl (en rfl (en rfl (en rfl (en rfl (en rfl (en rfl s40))))))))
            have s50 := (hg 50).trans (en rfl (en rfl (en rfl (en rfl (en rfl (en rfl (en rfl (en rfl s50))))))))
            have s109 := (hg 109).trans (en rfl (en rfl (en rfl (en rfl (en rfl (en rfl (en rfl (en rfl s109))))))))
            clear hg
            refine xc_seq (fun K hK83 => ?_)
            refine xc_region ?_
            refine x_val (r_move s12) (nd_of rfl) rfl ?_
            refine x_val (r_lss es ec (decide_eq_false (by omega))) (nd_of rfl) rfl ?_
            refine x_val (r_move es) (nd_of rfl) rfl ?_
            refine x_take (d := 120) rfl rfl es ?_
            refine x_val (r_move (en rfl (en rfl (en rfl s12)))) (nd_of rfl) rfl ?_
            refine x_take (d := 120) rfl rfl (en rfl es) ?_
            refine x_val (r_move (en rfl (en rfl (en rfl (en rfl s5))))) (nd_of rfl) rfl ?_
            refine x_take (d := 120) rfl rfl (en rfl (en rfl es)) ?_
            refine x_val (r_len Try.underlying49 es) (nd_of rfl) rfl ?_
            refine x_take (d := 120) rfl rfl (en rfl (en rfl (en rfl es))) ?_
            refine x_val (r_geq (en rfl (en rfl es)) es (decide_eq_false (by omega))) (nd_of rfl) rfl ?_
            obtain ⟨gN, cN, curN, hrN, h'⟩ := h.openRow (by omega)
            clear h
            have hvv := hrN.val
            simp at hvv
            obtain ⟨rfl, rfl⟩ := hvv
            have h := h'
            refine x_val (r_pick_f (en rfl (en rfl (en rfl (en rfl es)))) es) (nd_of rfl) rfl ?_
            refine xw_nil ?_
            refine hK83 _ _ ?_
            refine xc_gen (fun g hg => ?_)
            have s0 := (hg 0).trans (en rfl (en rfl (en rfl (en rfl (en rfl (en rfl (en rfl (en rfl s0))))))))
            have s1 := (hg 1).trans (en rfl (en rfl (en rfl (en rfl (en rfl (en rfl (en rfl (en rfl s1))))))))
            have s2 := (hg 2).trans (en rfl (en rfl (en rfl (en rfl (en rfl (en rfl (en rfl (en rfl s2))))))))
            have s5 := (hg 5).trans (en rfl (en rfl (en rfl (en rfl (en rfl (en rfl (en rfl (en rfl s5))))))))
            have s6 := (hg 6).trans (en rfl (en rfl (en rfl (en rfl (en rfl (en rfl (en rfl (en rfl s6))))))))
            have s8 := (hg 8).trans (en rfl (en rfl (en rfl (en rfl (en rfl (en rfl (en rfl (en rfl s8))))))))
            have s9 := (hg 9).trans (en rfl (en rfl (en rfl (en rfl (en rfl (en rfl (en rfl (en rfl s9))))))))
            have s12 := (hg 12).trans (en rfl (en rfl (en rfl (en rfl (en rfl (en rfl (en rfl (en rfl s12))))))))
            have s13 := (hg 13).trans (en rfl (en rfl (en rfl (en rfl (en rfl (en rfl (en rfl (en rfl s13))))))))
            have s14 := (hg 14).trans (en rfl (en rfl (en rfl (en rfl (en rfl (en rfl (en rfl (en rfl s14))))))))
            have s36 := (hg 36).trans (en rfl (en rfl (en rfl (en rfl (en rfl (en rfl (en rfl (en rfl s36))))))))
            have s38 := (hg 38).trans (en rfl (en rfl (en rfl (en rfl (en rfl (en rfl (en rfl (en rfl s38))))))))
            have s39 := (hg 39).trans (en rfl (en rfl (en rfl (en rfl (en rfl (en rfl (en rfl (en rfl s39))))))))
            have s40 := (hg 40).trans (en rfl (en rfl (en rfl (en rfl (en rfl (en rfl (en rfl (en rfl s40))))))))
            have s50 := (hg 50).trans (en rfl (en rfl (en rfl (en rfl (en rfl (en rfl (en rfl (en rfl s50))))))))
            have s109 := (hg 109).trans (en rfl (en rfl (en rfl (en rfl (en rfl (en rfl (en rfl (en rfl s109))))))))
            have s125 := (hg 125).trans es
            clear hg
            refine xc_cond s125 (fun hc => by cases hc) (fun _ => ?_)
            refine xc_seq (fun K hK84 => ?_)
            refine xc_region ?_
            refine x_val (r_move s13) (nd_of rfl) rfl ?_
            refine x_val (r_move (en rfl s5)) (nd_of rfl) rfl ?_
            refine x_val (r_move (en rfl (en rfl s12))) (nd_of rfl) rfl ?_
            refine x_val (r_indexAny Try.underlying49 Try.sizeOf3 (en rfl es) es (by omega) (by omega)) (nd_of rfl) rfl ?_
            refine x_val (r_loadCell Try.isAgg3 es (by rw [add_pt, Nat.zero_add, Nat.mul_one, hkq]; exact h.cell 0 rfl (hrN.get (i64s_get hi1)))) (nd_of rfl) rfl ?_
            refine x_val (r_neq (en rfl (en rfl (en rfl (en rfl es)))) es (decide_eq_false (by omega))) (nd_of rfl) rfl ?_
            refine x_val (r_move es) (nd_of rfl) rfl ?_
            refine x_take (d := 137) rfl rfl es ?_
            refine x_val (r_move (en rfl (en rfl (en rfl (en rfl (en rfl (en rfl (en rfl s14)))))))) (nd_of rfl) rfl ?_
            refine x_take (d := 137) rfl rfl (en rfl es) ?_
            refine x_val (r_not es rfl) (nd_of rfl) rfl ?_
            refine x_val (r_pick_f (en rfl (en rfl es)) es) (nd_of rfl) rfl ?_
            refine xw_nil ?_
            refine hK84 _ _ ?_
            refine xc_gen (fun g hg => ?_)
            have s0 := (hg 0).trans (en rfl (en rfl (en rfl (en rfl (en rfl (en rfl (en rfl (en rfl (en rfl (en rfl s0))))))))))
            have s1 := (hg 1).trans (en rfl (en rfl (en rfl (en rfl (en rfl (en rfl (en rfl (en rfl (en rfl (en rfl s1))))))))))
            have s2 := (hg 2).trans (en rfl (en rfl (en rfl (en rfl (en rfl (en rfl (en rfl (en rfl (en rfl (en rfl s2))))))))))
            have s5 := (hg 5).trans (en rfl (en rfl (en rfl (en rfl (en rfl (en rfl (en rfl (en rfl (en rfl (en rfl s5))))))))))
            have s6 := (hg 6).trans (en rfl (en rfl (en rfl (en rfl (en rfl (en rfl (en rfl (en rfl (en rfl (en rfl s6))))))))))
            have s8 := (hg 8).trans (en rfl (en rfl (en rfl (en rfl (en rfl (en rfl (en rfl (en rfl (en rfl (en rfl s8))))))))))
            have s9 := (hg 9).trans (en rfl (en rfl (en rfl (en rfl (en rfl (en rfl (en rfl (en rfl (en rfl (en rfl s9))))))))))
            have s12 := (hg 12).trans (en rfl (en rfl (en rfl (en rfl (en rfl (en rfl (en rfl (en rfl (en rfl (en rfl s12))))))))))
            have s13 := (hg 13).trans (en rfl (en rfl (en rfl (en rfl (en rfl (en rfl (en rfl (en rfl (en rfl (en rfl s13))))))))))
            have s14 := (hg 14).trans (en rfl (en rfl (en rfl (en rfl (en rfl (en rfl (en rfl (en rfl (en rfl (en rfl s14))))))))))
            have s36 := (hg 36).trans (en rfl (en rfl (en rfl (en rfl (en rfl (en rfl (en rfl (en rfl (en rfl (en rfl s36))))))))))
            have s38 := (hg 38).trans (en rfl (en rfl (en rfl (en rfl (en rfl (en rfl (en rfl (en rfl (en rfl (en rfl s38))))))))))
            have s39 := (hg 39).trans (en rfl (en rfl (en rfl (en rfl (en rfl (en rfl (en rfl (en rfl (en rfl (en rfl s39))))))))))
            have s40 := (hg 40).trans (en rfl (en rfl (en rfl (en rfl (en rfl (en rfl (en rfl (en rfl (en rfl (en rfl s40))))))))))
            have s50 := (hg 50).trans (en rfl (en rfl (en rfl (en rfl (en rfl (en rfl (en rfl (en rfl (en rfl (en rfl s50))))))))))
            have s109 := (hg 109).trans (en rfl (en rfl (en rfl (en rfl (en rfl (en rfl (en rfl (en rfl (en rfl (en rfl s109))))))))))
            have s125 := (hg 125).trans (en rfl (en rfl (en rfl (en rfl (en rfl (en rfl (en rfl (en rfl (en rfl (en rfl s125))))))))))
            have s140 := (hg 140).trans es
            clear hg
            refine xc_cond s140 (fun hc => by cases hc) (fun _ => ?_)
            refine xc_skip ?_
            refine hK81 _ _ ?_
            refine xc_region ?_
            refine x_val (r_move s12) (nd_of rfl) rfl ?_
            refine x_val (r_add es ec (show _ = (k + 1 : Int) from by rfl) (by unfold I64; omega)) (nd_of rfl) rfl ?_
            refine x_val (r_assign es) (nd_of rfl) rfl ?_
            refine xw_nil ?_
            exact ⟨(zs.count 10 + 1 - (k + 1)).toNat, by omega, ⟨k + 1, rfl, by omega, by omega, es, h.closeRow hrN⟩, ⟨((en rfl (en rfl (en rfl s0)))).trans z0.symm, ((en rfl (en rfl (en rfl s1)))).trans z1.symm, ((en rfl (en rfl (en rfl s2)))).trans z2.symm, ((en rfl (en rfl (en rfl s5)))).trans z5.symm, ((en rfl (en rfl (en rfl s6)))).trans z6.symm, ((en rfl (en rfl (en rfl s8)))).trans z8.symm, ((en rfl (en rfl (en rfl s9)))).trans z9.symm, ((en rfl (en rfl (en rfl s36)))).trans z36.symm, ((en rfl (en rfl (en rfl s38)))).trans z38.symm, ((en rfl (en rfl (en rfl s39)))).trans z39.symm, ((en rfl (en rfl (en rfl s40)))).trans z40.symm, ((en rfl (en rfl (en rfl s50)))).trans z50.symm⟩⟩
          ·
            skip
            refine xc_skip ?_
            refine hK75 _ _ ?_
            refine xc_seq (fun K hK85 => ?_)
            refine xc_block ?_
            refine xc_seq (fun K hK86 => ?_)
            refine xc_region ?_
            refine x_val (r_loadAgg h 1 rfl Try.isAgg26 Try.sizeOf26 s2 (Ok.le (by first | assumption | exact Ok.node (by assumption) | exact ChOk.ok (by assumption))) (ext_full (Ok.size (by first | assumption | exact Ok.node (by assumption) | exact ChOk.ok (by assumption))))) (nd_of rfl) rfl ?_
            refine x_val (r_move (en rfl s12)) (nd_of rfl) rfl ?_
            refine x_enter (r_call Try.call15 (.cons (en rfl es) (.cons es .nil))) (nd_of rfl) rfl (newlineAt_none ho (by omega) (by omega) (by rw [hq]; exact nlAt_none zs q (by omega)) h) ?_
            rintro _ w ⟨rfl, h⟩
            refine x_val (r_move es) (nd_of rfl) rfl ?_
            refine x_val (r_extract es gc0) (nd_of rfl) rfl ?_
            refine x_val (r_extract (en rfl es) gc1) (nd_of rfl) rfl ?_
            refine x_val (r_assign (en rfl es)) (nd_of rfl) rfl ?_
            refine x_val (r_assign (en rfl es)) (nd_of rfl) rfl ?_
            refine xw_nil ?_
            refine hK86 _ _ ?_
            refine xc_gen (fun g hg => ?_)
            have s0 := (hg 0).trans (en rfl (en rfl (en rfl (en rfl (en rfl (en rfl (en rfl (en rfl s0))))))))
            have s1 := (hg 1).trans (en rfl (en rfl (en rfl (en rfl (en rfl (en rfl (en rfl (en rfl s1))))))))
            have s2 := (hg 2).trans (en rfl (en rfl (en rfl (en rfl (en rfl (en rfl (en rfl (en rfl s2))))))))
            have s5 := (hg 5).trans (en rfl (en rfl (en rfl (en rfl (en rfl (en rfl (en rfl (en rfl s5))))))))
            have s6 := (hg 6).trans (en rfl (en rfl (en rfl (en rfl (en rfl (en rfl (en rfl (en rfl s6))))))))
            have s8 := (hg 8).trans (en rfl (en rfl (en rfl (en rfl (en rfl (en rfl (en rfl (en rfl s8))))))))
            have s9 := (hg 9).trans (en rfl (en rfl (en rfl (en rfl (en rfl (en rfl (en rfl (en rfl s9))))))))
            have s12 := (hg 12).trans (en rfl (en rfl (en rfl (en rfl (en rfl (en rfl (en rfl (en rfl s12))))))))
            have s13 := (hg 13).trans (en rfl es)
            have s14 := (hg 14).trans es
            have s36 := (hg 36).trans (en rfl (en rfl (en rfl (en rfl (en rfl (en rfl (en rfl (en rfl s36))))))))
            have s38 := (hg 38).trans (en rfl (en rfl (en rfl (en rfl (en rfl (en rfl (en rfl (en rfl s38))))))))
            have s39 := (hg 39).trans (en rfl (en rfl (en rfl (en rfl (en rfl (en rfl (en rfl (en rfl s39))))))))
            have s40 := (hg 40).trans (en rfl (en rfl (en rfl (en rfl (en rfl (en rfl (en rfl (en rfl s40))))))))
            have s50 := (hg 50).trans (en rfl (en rfl (en rfl (en rfl (en rfl (en rfl (en rfl (en rfl s50))))))))
            have s109 := (hg 109).trans (en rfl (en rfl (en rfl (en rfl (en rfl (en rfl (en rfl (en rfl s109))))))))
            clear hg
            refine xc_seq (fun K hK87 => ?_)
            refine xc_region ?_
            refine x_val (r_move s12) (nd_of rfl) rfl ?_
            refine x_val (r_lss es ec (decide_eq_false (by omega))) (nd_of rfl) rfl ?_
            refine x_val (r_move es) (nd_of rfl) rfl ?_
            refine x_take (d := 120) rfl rfl es ?_
            refine x_val (r_move (en rfl (en rfl (en rfl s12)))) (nd_of rfl) rfl ?_
            refine x_take (d := 120) rfl rfl (en rfl es) ?_
            refine x_val (r_move (en rfl (en rfl (en rfl (en rfl s5))))) (nd_of rfl) rfl ?_
            refine x_take (d := 120) rfl rfl (en rfl (en rfl es)) ?_
            refine x_val (r_len Try.underlying49 es) (nd_of rfl) rfl ?_
            refine x_take (d := 120) rfl rfl (en rfl (en rfl (en rfl es))) ?_
            refine x_val (r_geq (en rfl (en rfl es)) es (decide_eq_true (by omega))) (nd_of rfl) rfl ?_
            refine x_val (r_pick_f (en rfl (en rfl (en rfl (en rfl es)))) es) (nd_of rfl) rfl ?_
            refine xw_nil ?_
            refine hK87 _ _ ?_
            refine xc_gen (fun g hg => ?_)
            have s0 := (hg 0).trans (en rfl (en rfl (en rfl (en rfl (en rfl (en rfl (en rfl (en rfl s0))))))))
            have s1 := (hg 1).trans (en rfl (en rfl (en rfl (en rfl (en rfl (en rfl (en rfl (en rfl s1))))))))
            have s2 := (hg 2).trans (en rfl (en rfl (en rfl (en rfl (en rfl (en rfl (en rfl (en rfl s2))))))))
            have s5 := (hg 5).trans (en rfl (en rfl (en rfl (en rfl (en rfl (en rfl (en rfl (en rfl s5))))))))
            have s6 := (hg 6).trans (en rfl (en rfl (en rfl (en rfl (en rfl (en rfl (en rfl (en rfl s6))))))))
            have s8 := (hg 8).trans (en rfl (en rfl (en rfl (en rfl (en rfl (en rfl (en rfl (en rfl s8))))))))
            have s9 := (hg 9).trans (en rfl (en rfl (en rfl (en rfl (en rfl (en rfl (en rfl (en rfl s9))))))))
            have s12 := (hg 12).trans (en rfl (en rfl (en rfl (en rfl (en rfl (en rfl (en rfl (en rfl s12))))))))
            have s13 := (hg 13).trans (en rfl (en rfl (en rfl (en rfl (en rfl (en rfl (en rfl (en rfl s13))))))))
            have s14 := (hg 14).trans (en rfl (en rfl (en rfl (en rfl (en rfl (en rfl (en rfl (en rfl s14))))))))
            have s36 := (hg 36).trans (en rfl (en rfl (en rfl (en rfl (en rfl (en rfl (en rfl (en rfl s36))))))))
            have s38 := (hg 38).trans (en rfl (en rfl (en rfl (en rfl (en rfl (en rfl (en rfl (en rfl s38))))))))
            have s39 := (hg 39).trans (en rfl (en rfl (en rfl (en rfl (en rfl (en rfl (en rfl (en rfl s39))))))))
            have s40 := (hg 40).trans (en rfl (en rfl (en rfl (en rfl (en rfl (en rfl (en rfl (en rfl s40))))))))
            have s50 := (hg 50).trans (en rfl (en rfl (en rfl (en rfl (en rfl (en rfl (en rfl (en rfl s50))))))))
            have s109 := (hg 109).trans (en rfl (en rfl (en rfl (en rfl (en rfl (en rfl (en rfl (en rfl s109))))))))
            have s125 := (hg 125).trans es
            clear hg
            refine xc_cond s125 (fun _ => ?_) (fun hc => by cases hc)
            refine xc_seq (fun K hK88 => ?_)
            refine xc_region ?_
            refine x_val (r_move s13) (nd_of rfl) rfl ?_
            refine x_val (r_neq es ec (r := false) rfl) (nd_of rfl) rfl ?_
            refine x_val (r_move es) (nd_of rfl) rfl ?_
            refine x_take (d := 128) rfl rfl es ?_
            refine x_val (r_move (en rfl (en rfl (en rfl s14)))) (nd_of rfl) rfl ?_
            refine x_val (r_pick_f (en rfl es) es) (nd_of rfl) rfl ?_
            refine xw_nil ?_
            refine hK88 _ _ ?_
            refine xc_gen (fun g hg => ?_)
            have s0 := (hg 0).trans (en rfl (en rfl (en rfl (en rfl (en rfl s0)))))
            have s1 := (hg 1).trans (en rfl (en rfl (en rfl (en rfl (en rfl s1)))))
            have s2 := (hg 2).trans (en rfl (en rfl (en rfl (en rfl (en rfl s2)))))
            have s5 := (hg 5).trans (en rfl (en rfl (en rfl (en rfl (en rfl s5)))))
            have s6 := (hg 6).trans (en rfl (en rfl (en rfl (en rfl (en rfl s6)))))
            have s8 := (hg 8).trans (en rfl (en rfl (en rfl (en rfl (en rfl s8)))))
            have s9 := (hg 9).trans (en rfl (en rfl (en rfl (en rfl (en rfl s9)))))
            have s12 := (hg 12).trans (en rfl (en rfl (en rfl (en rfl (en rfl s12)))))
            have s13 := (hg 13).trans (en rfl (en rfl (en rfl (en rfl (en rfl s13)))))
            have s14 := (hg 14).trans (en rfl (en rfl (en rfl (en rfl (en rfl s14)))))
            have s36 := (hg 36).trans (en rfl (en rfl (en rfl (en rfl (en rfl s36)))))
            have s38 := (hg 38).trans (en rfl (en rfl (en rfl (en rfl (en rfl s38)))))
            have s39 := (hg 39).trans (en rfl (en rfl (en rfl (en rfl (en rfl s39)))))
            have s40 := (hg 40).trans (en rfl (en rfl (en rfl (en rfl (en rfl s40)))))
            have s50 := (hg 50).trans (en rfl (en rfl (en rfl (en rfl (en rfl s50)))))
            have s109 := (hg 109).trans (en rfl (en rfl (en rfl (en rfl (en rfl s109)))))
            have s125 := (hg 125).trans (en rfl (en rfl (en rfl (en rfl (en rfl s125)))))
            have s130 := (hg 130).trans es
            clear hg
            refine xc_cond s130 (fun hc => by cases hc) (fun _ => ?_)
            refine xc_skip ?_
            refine hK85 _ _ ?_
            refine xc_region ?_
            refine x_val (r_move s12) (nd_of rfl) rfl ?_
            refine x_val (r_add es ec (show _ = (k + 1 : Int) from by rfl) (by unfold I64; omega)) (nd_of rfl) rfl ?_
            refine x_val (r_assign es) (nd_of rfl) rfl ?_
            refine xw_nil ?_
            exact ⟨(zs.count 10 + 1 - (k + 1)).toNat, by omega, ⟨k + 1, rfl, by omega, by omega, es, h⟩, ⟨((en rfl (en rfl (en rfl s0)))).trans z0.symm, ((en rfl (en rfl (en rfl s1)))).trans z1.symm, ((en rfl (en rfl (en rfl s2)))).trans z2.symm, ((en rfl (en rfl (en rfl s5)))).trans z5.symm, ((en rfl (en rfl (en rfl s6)))).trans z6.symm, ((en rfl (en rfl (en rfl s8)))).trans z8.symm, ((en rfl (en rfl (en rfl s9)))).trans z9.symm, ((en rfl (en rfl (en rfl s36)))).trans z36.symm, ((en rfl (en rfl (en rfl s38)))).trans z38.symm, ((en rfl (en rfl (en rfl s39)))).trans z39.symm, ((en rfl (en rfl (en rfl s40)))).trans z40.symm, ((en rfl (en rfl (en rfl s50)))).trans z50.symm⟩⟩
      ·
        refine xc_exit ?_
        refine hK72 _ _ ?_
        refine xc_seq (fun K hK89 => ?_)
        refine xc_region ?_
        refine x_val (r_loadAgg h 1 rfl Try.isAgg26 Try.sizeOf26 s2 (Ok.le (by first | assumption | exact Ok.node (by assumption) | exact ChOk.ok (by assumption))) (ext_full (Ok.size (by first | assumption | exact Ok.node (by assumption) | exact ChOk.ok (by assumption))))) (nd_of rfl) rfl ?_
        refine x_enter (r_call Try.call21 (.cons es .nil)) (nd_of rfl) rfl (runes_ok ho h) ?_
        rintro _ w h
        refine x_val (r_move (en rfl (en rfl s1))) (nd_of rfl) rfl ?_
        refine x_enter (r_call Try.call12 (.cons (en rfl es) (.cons es .nil))) (nd_of rfl) rfl (same_yes (zs := zs) rowReads hv.up.up.up (by omega) h) ?_
        rintro _ w ⟨rfl, h⟩
        refine x_val (r_assign es) (nd_of rfl) rfl ?_
        refine xw_nil ?_
        refine hK89 _ _ ?_
        refine xc_gen (fun g hg => ?_)
        have s0 := (hg 0).trans (en rfl (en rfl (en rfl (en rfl (en rfl s0)))))
        have s1 := (hg 1).trans (en rfl (en rfl (en rfl (en rfl (en rfl s1)))))
        have s2 := (hg 2).trans (en rfl (en rfl (en rfl (en rfl (en rfl s2)))))
        have s4 := (hg 4).trans es
        have s5 := (hg 5).trans (en rfl (en rfl (en rfl (en rfl (en rfl s5)))))
        have s6 := (hg 6).trans (en rfl (en rfl (en rfl (en rfl (en rfl s6)))))
        have s8 := (hg 8).trans (en rfl (en rfl (en rfl (en rfl (en rfl s8)))))
        have s9 := (hg 9).trans (en rfl (en rfl (en rfl (en rfl (en rfl s9)))))
        have s12 := (hg 12).trans (en rfl (en rfl (en rfl (en rfl (en rfl s12)))))
        have s36 := (hg 36).trans (en rfl (en rfl (en rfl (en rfl (en rfl s36)))))
        have s38 := (hg 38).trans (en rfl (en rfl (en rfl (en rfl (en rfl s38)))))
        have s39 := (hg 39).trans (en rfl (en rfl (en rfl (en rfl (en rfl s39)))))
        have s40 := (hg 40).trans (en rfl (en rfl (en rfl (en rfl (en rfl s40)))))
        have s50 := (hg 50).trans (en rfl (en rfl (en rfl (en rfl (en rfl s50)))))
        have s109 := (hg 109).trans (en rfl (en rfl (en rfl (en rfl (en rfl s109)))))
        clear hg
        refine xc_ret ?_
        refine bodyR_1 rfl s4 ?_
        exact ⟨rfl, h.drop.drop.drop⟩
end
end Go.Proofs.Ytimieinmphhmmaa
