/-
The arena of a tree's nodes: asked, At, Put.
-/
import Derived.Test.YtmfkhfmidnojhaaX6
import Derived.Test.YtmfkhfmidnojhaaRows
namespace Go.Proofs.Ytmfkhfmidnojhaa
open Go Go.RowKit

abbrev KN : Nat := 38
/-- the zero node's cells -/
noncomputable def zN : Array Value := match Try.t103.zero with | some v => v.cells | none => #[]
abbrev Ar (b : Nat) (pl : List (Option (Array Value))) (fr : List Nat) : SProp := Arena 122 124 KN zN b pl fr

section
variable {E : Env} {R : List SProp} {w : World} {b : Nat} {pl : List (Option (Array Value))} {fr : List Nat} {i : Nat} {c : Array Value}

theorem asked_ok (hi : pl[i]? = some (some c)) (h : SatL E w (Ar b pl fr :: R)) :
    Calls Try.prog 79 #[.pointer (some ⟨b, 0, none⟩), .int .i64 (i : Int)] w (Ret fun v w' => v = .int .i64 0 ∧ SatL E w' (Ar b pl fr :: R)) := by
  have hlt := (List.getElem?_eq_some_iff.1 hi).1
  refine calls_x Try.func79 rfl Try.ntmps79 rfl ?_
  refine xc_gen (fun g hg => ?_)
  have s0 := (hg 0).trans arg0
  have s1 := (hg 1).trans arg1
  clear hg
  obtain ⟨ps, fs, hp, h⟩ := h.openArena
  obtain ⟨gp, cp, cur, hr, h⟩ := (h.f1).openRow (by omega)
  obtain rfl := hr.val
  refine xc_seq (fun K hK1 => ?_)
  refine xc_region ?_
  refine x_val (r_assign ec) (nd_of rfl) rfl ?_
  refine xw_nil ?_
  refine hK1 _ _ ?_
  refine xc_gen (fun g hg => ?_)
  have s0 := (hg 0).trans (en rfl s0)
  have s1 := (hg 1).trans (en rfl s1)
  have s4 := (hg 4).trans es
  clear hg
  refine xc_seq (fun K hK2 => ?_)
  refine xc_block ?_
  refine xc_seq (fun K hK3 => ?_)
  refine xc_region ?_
  refine x_val (r_move s0) (nd_of rfl) rfl ?_
  refine x_val (r_eqnil Try.underlying91 es ec (r := false) rfl) (nd_of rfl) rfl ?_
  refine x_val (r_assign es) (nd_of rfl) rfl ?_
  refine xw_nil ?_
  refine hK3 _ _ ?_
  refine xc_gen (fun g hg => ?_)
  have s0 := (hg 0).trans (en rfl (en rfl (en rfl s0)))
  have s1 := (hg 1).trans (en rfl (en rfl (en rfl s1)))
  have s4 := (hg 4).trans (en rfl (en rfl (en rfl s4)))
  have s5 := (hg 5).trans es
  clear hg
  refine xc_cond s5 (fun hc => by cases hc) (fun _ => ?_)
  refine xc_seq (fun K hK4 => ?_)
  refine xc_region ?_
  refine x_val (r_move s1) (nd_of rfl) rfl ?_
  refine x_val (r_lss es ec (decide_eq_false (by omega))) (nd_of rfl) rfl ?_
  refine x_val (r_move es) (nd_of rfl) rfl ?_
  refine x_take (d := 11) rfl rfl es ?_
  refine x_val (r_move (en rfl (en rfl (en rfl s1)))) (nd_of rfl) rfl ?_
  refine x_take (d := 11) rfl rfl (en rfl es) ?_
  refine x_val (r_move (en rfl (en rfl (en rfl (en rfl s0))))) (nd_of rfl) rfl ?_
  refine x_take (d := 11) rfl rfl (en rfl (en rfl es)) ?_
  refine x_val (r_nilCheck es) (nd_of rfl) rfl ?_
  refine x_take (d := 11) rfl rfl (en rfl (en rfl (en rfl es))) ?_
  refine x_val (r_fieldAddr (o' := 0) Try.underlying122 rfl Try.sizeOf119 rfl es rfl) (nd_of rfl) rfl ?_
  refine x_take (d := 11) rfl rfl (en rfl (en rfl (en rfl (en rfl es)))) ?_
  refine x_val (r_load h 1 rfl Try.isAgg119 es gc0) (nd_of rfl) rfl ?_
  refine x_take (d := 11) rfl rfl (en rfl (en rfl (en rfl (en rfl (en rfl es))))) ?_
  refine x_val (r_len Try.underlying119 es) (nd_of rfl) rfl ?_
  refine x_take (d := 11) rfl rfl (en rfl (en rfl (en rfl (en rfl (en rfl (en rfl es)))))) ?_
  refine x_val (r_geq (en rfl (en rfl (en rfl (en rfl (en rfl es))))) es (decide_eq_false (by omega))) (nd_of rfl) rfl ?_
  refine x_val (r_pick_f (en rfl (en rfl (en rfl (en rfl (en rfl (en rfl (en rfl es))))))) es) (nd_of rfl) rfl ?_
  refine x_val (r_move es) (nd_of rfl) rfl ?_
  refine x_take (d := 20) rfl rfl es ?_
  refine x_val (r_move (en rfl (en rfl (en rfl (en rfl (en rfl (en rfl (en rfl (en rfl (en rfl (en rfl (en rfl (en rfl s0))))))))))))) (nd_of rfl) rfl ?_
  refine x_take (d := 20) rfl rfl (en rfl es) ?_
  refine x_val (r_nilCheck es) (nd_of rfl) rfl ?_
  refine x_take (d := 20) rfl rfl (en rfl (en rfl es)) ?_
  refine x_val (r_fieldAddr (o' := 0) Try.underlying122 rfl Try.sizeOf119 rfl es rfl) (nd_of rfl) rfl ?_
  refine x_take (d := 20) rfl rfl (en rfl (en rfl (en rfl es))) ?_
  refine x_val (r_load h 1 rfl Try.isAgg119 es gc0) (nd_of rfl) rfl ?_
  refine x_take (d := 20) rfl rfl (en rfl (en rfl (en rfl (en rfl es)))) ?_
  refine x_val (r_move (en rfl (en rfl (en rfl (en rfl (en rfl (en rfl (en rfl (en rfl (en rfl (en rfl (en rfl (en rfl (en rfl (en rfl (en rfl (en rfl s1))))))))))))))))) (nd_of rfl) rfl ?_
  refine x_take (d := 20) rfl rfl (en rfl (en rfl (en rfl (en rfl (en rfl es))))) ?_
  refine x_val (r_indexAddrN Try.underlying119 Try.sizeOf124 (en rfl es) es (by omega)) (nd_of rfl) rfl ?_
  refine x_take (d := 20) rfl rfl (en rfl (en rfl (en rfl (en rfl (en rfl (en rfl es)))))) ?_
  refine x_val (r_fieldAddr (o' := _ + 38) Try.underlying124 rfl Try.sizeOf4 rfl es rfl) (nd_of rfl) rfl ?_
  refine x_take (d := 20) rfl rfl (en rfl (en rfl (en rfl (en rfl (en rfl (en rfl (en rfl es))))))) ?_
  refine x_val (r_load h 0 rfl Try.isAgg4 es (hr.get (hp.taken hi))) (nd_of rfl) rfl ?_
  refine x_take (d := 20) rfl rfl (en rfl (en rfl (en rfl (en rfl (en rfl (en rfl (en rfl (en rfl es)))))))) ?_
  refine x_val (r_not es rfl) (nd_of rfl) rfl ?_
  refine x_val (r_pick_f (en rfl (en rfl (en rfl (en rfl (en rfl (en rfl (en rfl (en rfl (en rfl es))))))))) es) (nd_of rfl) rfl ?_
  refine x_val (r_assign es) (nd_of rfl) rfl ?_
  refine xw_nil ?_
  refine hK4 _ _ ?_
  refine xc_gen (fun g hg => ?_)
  have s0 := (hg 0).trans (en rfl (en rfl (en rfl (en rfl (en rfl (en rfl (en rfl (en rfl (en rfl (en rfl (en rfl (en rfl (en rfl (en rfl (en rfl (en rfl (en rfl (en rfl (en rfl (en rfl (en rfl (en rfl (en rfl s0)))))))))))))))))))))))
  have s1 := (hg 1).trans (en rfl (en rfl (en rfl (en rfl (en rfl (en rfl (en rfl (en rfl (en rfl (en rfl (en rfl (en rfl (en rfl (en rfl (en rfl (en rfl (en rfl (en rfl (en rfl (en rfl (en rfl (en rfl (en rfl s1)))))))))))))))))))))))
  have s4 := (hg 4).trans (en rfl (en rfl (en rfl (en rfl (en rfl (en rfl (en rfl (en rfl (en rfl (en rfl (en rfl (en rfl (en rfl (en rfl (en rfl (en rfl (en rfl (en rfl (en rfl (en rfl (en rfl (en rfl (en rfl s4)))))))))))))))))))))))
  have s5 := (hg 5).trans (en rfl (en rfl (en rfl (en rfl (en rfl (en rfl (en rfl (en rfl (en rfl (en rfl (en rfl (en rfl (en rfl (en rfl (en rfl (en rfl (en rfl (en rfl (en rfl (en rfl (en rfl (en rfl (en rfl s5)))))))))))))))))))))))
  have s8 := (hg 8).trans es
  clear hg
  refine xc_cond s8 (fun hc => by cases hc) (fun _ => ?_)
  refine xc_skip ?_
  refine hK2 _ _ ?_
  refine xc_seq (fun K hK5 => ?_)
  refine xc_region ?_
  refine x_val (r_assign ec) (nd_of rfl) rfl ?_
  refine xw_nil ?_
  refine hK5 _ _ ?_
  refine xc_gen (fun g hg => ?_)
  have s0 := (hg 0).trans (en rfl s0)
  have s1 := (hg 1).trans (en rfl s1)
  have s4 := (hg 4).trans es
  have s5 := (hg 5).trans (en rfl s5)
  have s8 := (hg 8).trans (en rfl s8)
  clear hg
  refine xc_ret ?_
  refine bodyR_1 rfl s4 ?_
  exact ⟨rfl, SatL.closeArena hp ((h.closeRow hr).f1)⟩

theorem zP_eq : ∀ w, (zeroValue 124).run Try.prog w = .ok (.agg (zN.toList ++ [Value.bool false]).toArray) w := fun _ => by kernel_rfl
theorem zN_eq : ∀ w, (zeroValue 103).run Try.prog w = .ok (.agg zN) w := fun _ => by kernel_rfl
theorem zP_one : ∀ v ∈ ((zN.toList ++ [Value.bool false]).toArray).toList, v.oneCell' = true := by
  have e : ((zN.toList ++ [Value.bool false]).toArray).toList.all (fun v => v.oneCell') = true := by kernel_rfl
  exact fun v hv => List.all_eq_true.1 e v hv
theorem zN_ok : Ok KN zN := ⟨by kernel_rfl, by
  have e : zN.toList.all (fun v => v.oneCell') = true := by kernel_rfl
  exact fun v hv => List.all_eq_true.1 e v hv⟩

theorem at_ok (hi : pl[i]? = some (some c)) (h : SatL E w (Ar b pl fr :: R)) :
    Calls Try.prog 78 #[.pointer (some ⟨b, 0, none⟩), .int .i64 (i : Int)] w (Ret fun v w' => v = .tuple #[.agg c, .int .i64 0] ∧ SatL E w' (Ar b pl fr :: R)) := by
  have hlt := (List.getElem?_eq_some_iff.1 hi).1
  obtain ⟨ps0, fs0, hp, _⟩ := h.openArena
  have hc := hp.thing i c hi
  refine calls_x Try.func78 rfl Try.ntmps78 rfl ?_
  refine xc_gen (fun g hg => ?_)
  have s0 := (hg 0).trans arg0
  have s1 := (hg 1).trans arg1
  clear hg
  refine xc_seq (fun K hK1 => ?_)
  refine xc_region ?_
  refine x_allocA h Try.zeroValue103 rfl ?_
  intro b4 w h
  refine x_val (r_assign ec) (nd_of rfl) rfl ?_
  refine xw_nil ?_
  refine hK1 _ _ ?_
  refine xc_gen (fun g hg => ?_)
  have s0 := (hg 0).trans (en rfl (en rfl s0))
  have s1 := (hg 1).trans (en rfl (en rfl s1))
  have s4 := (hg 4).trans (en rfl es)
  have s5 := (hg 5).trans es
  clear hg
  refine xc_seq (fun K hK2 => ?_)
  refine xc_seq (fun K hK3 => ?_)
  refine xc_region ?_
  refine x_val (r_move s0) (nd_of rfl) rfl ?_
  refine x_val (r_move (en rfl s1)) (nd_of rfl) rfl ?_
  have h := h.f1
  refine x_enter (r_call Try.call79 (.cons (en rfl es) (.cons es .nil))) (nd_of rfl) rfl (asked_ok hi h) ?_
  rintro _ w ⟨rfl, h⟩
  obtain ⟨ps, fs, hp, h⟩ := h.openArena
  obtain ⟨gp, cp, cur, hr, h⟩ := (h.f1).openRow (by omega)
  obtain rfl := hr.val
  refine x_val (r_assign es) (nd_of rfl) rfl ?_
  refine xw_nil ?_
  refine hK3 _ _ ?_
  refine xc_gen (fun g hg => ?_)
  have s0 := (hg 0).trans (en rfl (en rfl (en rfl (en rfl s0))))
  have s1 := (hg 1).trans (en rfl (en rfl (en rfl (en rfl s1))))
  have s4 := (hg 4).trans (en rfl (en rfl (en rfl (en rfl s4))))
  have s5 := (hg 5).trans (en rfl (en rfl (en rfl (en rfl s5))))
  have s6 := (hg 6).trans es
  clear hg
  refine xc_seq (fun K hK4 => ?_)
  refine xc_region ?_
  refine x_val (r_move s6) (nd_of rfl) rfl ?_
  refine x_val (r_neq es ec (r := false) rfl) (nd_of rfl) rfl ?_
  refine xw_nil ?_
  refine hK4 _ _ ?_
  refine xc_gen (fun g hg => ?_)
  have s0 := (hg 0).trans (en rfl (en rfl s0))
  have s1 := (hg 1).trans (en rfl (en rfl s1))
  have s4 := (hg 4).trans (en rfl (en rfl s4))
  have s5 := (hg 5).trans (en rfl (en rfl s5))
  have s6 := (hg 6).trans (en rfl (en rfl s6))
  have s12 := (hg 12).trans es
  clear hg
  refine xc_cond s12 (fun hc => by cases hc) (fun _ => ?_)
  refine xc_skip ?_
  refine hK2 _ _ ?_
  refine xc_seq (fun K hK5 => ?_)
  refine xc_region ?_
  refine x_val (r_move s0) (nd_of rfl) rfl ?_
  refine x_val (r_nilCheck es) (nd_of rfl) rfl ?_
  refine x_val (r_fieldAddr (o' := 0) Try.underlying122 rfl Try.sizeOf119 rfl es rfl) (nd_of rfl) rfl ?_
  refine x_val (r_load h 1 rfl Try.isAgg119 es gc0) (nd_of rfl) rfl ?_
  refine x_val (r_move (en rfl (en rfl (en rfl (en rfl s1))))) (nd_of rfl) rfl ?_
  refine x_val (r_indexAddrN Try.underlying119 Try.sizeOf124 (en rfl es) es (by omega)) (nd_of rfl) rfl ?_
  refine x_val (r_fieldAddrZ Try.underlying124 rfl Try.sizeOf103 rfl es rfl) (nd_of rfl) rfl ?_
  refine x_val (r_loadAgg h 0 rfl Try.isAgg103 Try.sizeOf103 es (hp.extract hr hi).1 (hp.extract hr hi).2) (nd_of rfl) rfl ?_
  have h := h.f3
  refine x_st (r_storeAgg h 0 rfl Try.sizeOf103 (en rfl (en rfl (en rfl (en rfl (en rfl (en rfl (en rfl (en rfl s4)))))))) es (Ok.size (by first | assumption | exact Ok.node (by assumption) | exact xOk.cells (by assumption) | exact ChOk.ok (by assumption))) (Ok.one (by first | assumption | exact Ok.node (by assumption) | exact xOk.cells (by assumption) | exact ChOk.ok (by assumption))) (by exact Nat.le_refl _)) rfl (h.r0 (over_full rfl)) ?_
  intro w h
  refine x_val (r_assign ec) (nd_of rfl) rfl ?_
  refine xw_nil ?_
  refine hK5 _ _ ?_
  refine xc_gen (fun g hg => ?_)
  have s0 := (hg 0).trans (en rfl (en rfl (en rfl (en rfl (en rfl (en rfl (en rfl (en rfl (en rfl s0)))))))))
  have s1 := (hg 1).trans (en rfl (en rfl (en rfl (en rfl (en rfl (en rfl (en rfl (en rfl (en rfl s1)))))))))
  have s4 := (hg 4).trans (en rfl (en rfl (en rfl (en rfl (en rfl (en rfl (en rfl (en rfl (en rfl s4)))))))))
  have s5 := (hg 5).trans es
  have s6 := (hg 6).trans (en rfl (en rfl (en rfl (en rfl (en rfl (en rfl (en rfl (en rfl (en rfl s6)))))))))
  have s12 := (hg 12).trans (en rfl (en rfl (en rfl (en rfl (en rfl (en rfl (en rfl (en rfl (en rfl s12)))))))))
  clear hg
  refine xc_ret ?_
  refine bodyR_ct rfl s4 (lv_agg h 0 rfl Try.isAgg103 Try.sizeOf103 (Ok.size (by first | assumption | exact Ok.node (by assumption) | exact xOk.cells (by assumption) | exact ChOk.ok (by assumption)))) s5 ?_
  exact ⟨rfl, SatL.closeArena hp ((h.drop.closeRow hr).f1)⟩

theorem put_ok {c' : Array Value} (hi : pl[i]? = some (some c)) (hc' : Ok KN c') (h : SatL E w (Ar b pl fr :: R)) :
    Calls Try.prog 73 #[.pointer (some ⟨b, 0, none⟩), .int .i64 (i : Int), .agg c'] w (Ret fun v w' => v = .int .i64 0 ∧ SatL E w' (Ar b (pl.set i (some c')) fr :: R)) := by
  have hlt := (List.getElem?_eq_some_iff.1 hi).1
  refine calls_x Try.func73 rfl Try.ntmps73 rfl ?_
  refine xc_gen (fun g hg => ?_)
  have s0 := (hg 0).trans arg0
  have s1 := (hg 1).trans arg1
  have s2 := (hg 2).trans arg2
  clear hg
  refine xc_seq (fun K hK1 => ?_)
  refine xc_region ?_
  refine x_boxA h s2 rfl ?_
  intro b5 w h
  refine x_val (r_assign ec) (nd_of rfl) rfl ?_
  refine xw_nil ?_
  refine hK1 _ _ ?_
  refine xc_gen (fun g hg => ?_)
  have s0 := (hg 0).trans (en rfl (en rfl s0))
  have s1 := (hg 1).trans (en rfl (en rfl s1))
  have s2 := (hg 2).trans (en rfl (en rfl s2))
  have s5 := (hg 5).trans (en rfl es)
  have s6 := (hg 6).trans es
  clear hg
  refine xc_seq (fun K hK2 => ?_)
  refine xc_seq (fun K hK3 => ?_)
  refine xc_region ?_
  refine x_val (r_move s0) (nd_of rfl) rfl ?_
  refine x_val (r_move (en rfl s1)) (nd_of rfl) rfl ?_
  have h := h.f1
  refine x_enter (r_call Try.call79 (.cons (en rfl es) (.cons es .nil))) (nd_of rfl) rfl (asked_ok hi h) ?_
  rintro _ w ⟨rfl, h⟩
  obtain ⟨ps, fs, hp, h⟩ := h.openArena
  obtain ⟨gp, cp, cur, hr, h⟩ := (h.f1).openRow (by omega)
  obtain rfl := hr.val
  refine x_val (r_assign es) (nd_of rfl) rfl ?_
  refine xw_nil ?_
  refine hK3 _ _ ?_
  refine xc_gen (fun g hg => ?_)
  have s0 := (hg 0).trans (en rfl (en rfl (en rfl (en rfl s0))))
  have s1 := (hg 1).trans (en rfl (en rfl (en rfl (en rfl s1))))
  have s2 := (hg 2).trans (en rfl (en rfl (en rfl (en rfl s2))))
  have s5 := (hg 5).trans (en rfl (en rfl (en rfl (en rfl s5))))
  have s6 := (hg 6).trans (en rfl (en rfl (en rfl (en rfl s6))))
  have s7 := (hg 7).trans es
  clear hg
  refine xc_seq (fun K hK4 => ?_)
  refine xc_region ?_
  refine x_val (r_move s7) (nd_of rfl) rfl ?_
  refine x_val (r_neq es ec (r := false) rfl) (nd_of rfl) rfl ?_
  refine xw_nil ?_
  refine hK4 _ _ ?_
  refine xc_gen (fun g hg => ?_)
  have s0 := (hg 0).trans (en rfl (en rfl s0))
  have s1 := (hg 1).trans (en rfl (en rfl s1))
  have s2 := (hg 2).trans (en rfl (en rfl s2))
  have s5 := (hg 5).trans (en rfl (en rfl s5))
  have s6 := (hg 6).trans (en rfl (en rfl s6))
  have s7 := (hg 7).trans (en rfl (en rfl s7))
  have s12 := (hg 12).trans es
  clear hg
  refine xc_cond s12 (fun hc => by cases hc) (fun _ => ?_)
  refine xc_skip ?_
  refine hK2 _ _ ?_
  refine xc_seq (fun K hK5 => ?_)
  refine xc_plan 8 [(0, 2), (1, 2), (2, 2), (3, 1), (4, 2), (5, 1), (6, 2), (7, 2), (8, 0)] (by kernel_rfl) rfl (by kernel_rfl) h ?_
  have h := h.drew
  refine xp_read (i := 0) rfl (fun W => r_move s0) rfl (fun _ _ _ hh => by first | exact bodyR_np hh | exact bodyY_np hh | exact hh) ?_
  refine xp_read (i := 1) rfl (fun W => r_nilCheck es) rfl (fun _ _ _ hh => by first | exact bodyR_np hh | exact bodyY_np hh | exact hh) ?_
  refine xp_read (i := 2) rfl (fun W => r_fieldAddr (o' := 0) Try.underlying122 rfl Try.sizeOf119 rfl es rfl) rfl (fun _ _ _ hh => by first | exact bodyR_np hh | exact bodyY_np hh | exact hh) ?_
  refine xp_load (i := 3) rfl (fun W hW => r_load hW 1 rfl Try.isAgg119 es gc0) rfl (fun _ _ _ hh => by first | exact bodyR_np hh | exact bodyY_np hh | exact hh) ?_
  refine xp_read (i := 4) rfl (fun W => r_move (en rfl (en rfl (en rfl (en rfl s1))))) rfl (fun _ _ _ hh => by first | exact bodyR_np hh | exact bodyY_np hh | exact hh) ?_
  refine xp_load (i := 5) rfl (fun W hW => r_loadAgg hW 3 rfl Try.isAgg103 Try.sizeOf103 (en rfl (en rfl (en rfl (en rfl (en rfl s5))))) (Ok.le (by first | assumption | exact Ok.node (by assumption) | exact xOk.cells (by assumption) | exact ChOk.ok (by assumption))) (ext_full (Ok.size (by first | assumption | exact Ok.node (by assumption) | exact xOk.cells (by assumption) | exact ChOk.ok (by assumption))))) rfl (fun _ _ _ hh => by first | exact bodyR_np hh | exact bodyY_np hh | exact hh) ?_
  refine xp_read (i := 6) rfl (fun W => r_indexAddrN Try.underlying119 Try.sizeOf124 (en rfl (en rfl es)) (en rfl es) (by omega)) rfl (fun _ _ _ hh => by first | exact bodyR_np hh | exact bodyY_np hh | exact hh) ?_
  refine xp_read (i := 7) rfl (fun W => r_fieldAddrZ Try.underlying124 rfl Try.sizeOf103 rfl es rfl) rfl (fun _ _ _ hh => by first | exact bodyR_np hh | exact bodyY_np hh | exact hh) ?_
  refine xp_st (i := 8) rfl (r_storeAgg h 0 rfl Try.sizeOf103 es (en rfl (en rfl es)) hc'.size hc'.one (hp.extract hr hi).1) (h.r0 rfl) (fun hh => absurd rfl hh) ?_
  intro w h
  refine xp_nil ?_
  refine hK5 _ _ ?_
  refine xc_gen (fun g hg => ?_)
  have s0 := (hg 0).trans (en rfl (en rfl (en rfl (en rfl (en rfl (en rfl (en rfl (en rfl s0))))))))
  have s1 := (hg 1).trans (en rfl (en rfl (en rfl (en rfl (en rfl (en rfl (en rfl (en rfl s1))))))))
  have s2 := (hg 2).trans (en rfl (en rfl (en rfl (en rfl (en rfl (en rfl (en rfl (en rfl s2))))))))
  have s5 := (hg 5).trans (en rfl (en rfl (en rfl (en rfl (en rfl (en rfl (en rfl (en rfl s5))))))))
  have s6 := (hg 6).trans (en rfl (en rfl (en rfl (en rfl (en rfl (en rfl (en rfl (en rfl s6))))))))
  have s7 := (hg 7).trans (en rfl (en rfl (en rfl (en rfl (en rfl (en rfl (en rfl (en rfl s7))))))))
  have s12 := (hg 12).trans (en rfl (en rfl (en rfl (en rfl (en rfl (en rfl (en rfl (en rfl s12))))))))
  clear hg
  refine xc_seq (fun K hK6 => ?_)
  have h := h.f3
  refine xc_region ?_
  refine x_val (r_assign ec) (nd_of rfl) rfl ?_
  refine xw_nil ?_
  refine hK6 _ _ ?_
  refine xc_gen (fun g hg => ?_)
  have s0 := (hg 0).trans (en rfl s0)
  have s1 := (hg 1).trans (en rfl s1)
  have s2 := (hg 2).trans (en rfl s2)
  have s5 := (hg 5).trans (en rfl s5)
  have s6 := (hg 6).trans es
  have s7 := (hg 7).trans (en rfl s7)
  have s12 := (hg 12).trans (en rfl s12)
  clear hg
  refine xc_ret ?_
  refine bodyR_1 rfl s6 ?_
  exact ⟨rfl, SatL.closePut hp hr hi hc' h.drop⟩

theorem free_ok (hi : pl[i]? = some (some c)) (hb : pl.length ≤ 1000000000) (h : SatL E w (Ar b pl fr :: R)) :
    Calls Try.prog 74 #[.pointer (some ⟨b, 0, none⟩), .int .i64 (i : Int)] w (Ret fun v w' => v = .int .i64 0 ∧ SatL E w' (Ar b (pl.set i none) (fr ++ [i]) :: R)) := by
  have hlt := (List.getElem?_eq_some_iff.1 hi).1
  refine calls_x Try.func74 rfl Try.ntmps74 rfl ?_
  refine xc_gen (fun g hg => ?_)
  have s0 := (hg 0).trans arg0
  have s1 := (hg 1).trans arg1
  clear hg
  refine xc_seq (fun K hK1 => ?_)
  refine xc_region ?_
  refine x_val (r_assign ec) (nd_of rfl) rfl ?_
  refine xw_nil ?_
  refine hK1 _ _ ?_
  refine xc_gen (fun g hg => ?_)
  have s0 := (hg 0).trans (en rfl s0)
  have s1 := (hg 1).trans (en rfl s1)
  have s4 := (hg 4).trans es
  clear hg
  refine xc_seq (fun K hK2 => ?_)
  refine xc_seq (fun K hK3 => ?_)
  refine xc_region ?_
  refine x_val (r_move s0) (nd_of rfl) rfl ?_
  refine x_val (r_move (en rfl s1)) (nd_of rfl) rfl ?_
  refine x_enter (r_call Try.call79 (.cons (en rfl es) (.cons es .nil))) (nd_of rfl) rfl (asked_ok hi h) ?_
  rintro _ w ⟨rfl, h⟩
  obtain ⟨ps, fs, hp, h⟩ := h.openArena
  have hfl := hp.frLen
  obtain ⟨gp, cp, cur, hr, h⟩ := (h.f1).openRow (by omega)
  obtain rfl := hr.val
  refine x_val (r_assign es) (nd_of rfl) rfl ?_
  refine xw_nil ?_
  refine hK3 _ _ ?_
  refine xc_gen (fun g hg => ?_)
  have s0 := (hg 0).trans (en rfl (en rfl (en rfl (en rfl s0))))
  have s1 := (hg 1).trans (en rfl (en rfl (en rfl (en rfl s1))))
  have s4 := (hg 4).trans (en rfl (en rfl (en rfl (en rfl s4))))
  have s5 := (hg 5).trans es
  clear hg
  refine xc_seq (fun K hK4 => ?_)
  refine xc_region ?_
  refine x_val (r_move s5) (nd_of rfl) rfl ?_
  refine x_val (r_neq es ec (r := false) rfl) (nd_of rfl) rfl ?_
  refine xw_nil ?_
  refine hK4 _ _ ?_
  refine xc_gen (fun g hg => ?_)
  have s0 := (hg 0).trans (en rfl (en rfl s0))
  have s1 := (hg 1).trans (en rfl (en rfl s1))
  have s4 := (hg 4).trans (en rfl (en rfl s4))
  have s5 := (hg 5).trans (en rfl (en rfl s5))
  have s10 := (hg 10).trans es
  clear hg
  refine xc_cond s10 (fun hc => by cases hc) (fun _ => ?_)
  refine xc_skip ?_
  refine hK2 _ _ ?_
  refine xc_seq (fun K hK5 => ?_)
  refine xc_region ?_
  refine x_val (r_move s0) (nd_of rfl) rfl ?_
  refine x_val (r_nilCheck es) (nd_of rfl) rfl ?_
  refine x_val (r_fieldAddr (o' := 0) Try.underlying122 rfl Try.sizeOf119 rfl es rfl) (nd_of rfl) rfl ?_
  refine x_val (r_load h 1 rfl Try.isAgg119 es gc0) (nd_of rfl) rfl ?_
  refine x_val (r_move (en rfl (en rfl (en rfl (en rfl s1))))) (nd_of rfl) rfl ?_
  refine x_val (r_build02 Try.underlying124 zP_eq Try.sizeOf103 Try.sizeOf4) (nd_of rfl) rfl ?_
  refine x_val (r_indexAddrN Try.underlying119 Try.sizeOf124 (en rfl (en rfl es)) (en rfl es) (by omega)) (nd_of rfl) rfl ?_
  refine x_st (r_storeAgg h 0 rfl Try.sizeOf124 es (en rfl es) (by simp [zN_ok.size]) zP_one (hp.le hr hlt)) rfl (h.r0 rfl) ?_
  intro w h
  refine xw_nil ?_
  refine hK5 _ _ ?_
  refine xc_gen (fun g hg => ?_)
  have s0 := (hg 0).trans (en rfl (en rfl (en rfl (en rfl (en rfl (en rfl (en rfl s0)))))))
  have s1 := (hg 1).trans (en rfl (en rfl (en rfl (en rfl (en rfl (en rfl (en rfl s1)))))))
  have s4 := (hg 4).trans (en rfl (en rfl (en rfl (en rfl (en rfl (en rfl (en rfl s4)))))))
  have s5 := (hg 5).trans (en rfl (en rfl (en rfl (en rfl (en rfl (en rfl (en rfl s5)))))))
  have s10 := (hg 10).trans (en rfl (en rfl (en rfl (en rfl (en rfl (en rfl (en rfl s10)))))))
  clear hg
  refine xc_seq (fun K hK6 => ?_)
  have h := h.f1
  have h := h.f2
  refine xc_region ?_
  refine x_val (r_move s0) (nd_of rfl) rfl ?_
  refine x_val (r_move (en rfl s0)) (nd_of rfl) rfl ?_
  refine x_val (r_nilCheck es) (nd_of rfl) rfl ?_
  refine x_val (r_fieldAddr (o' := 1) Try.underlying122 rfl Try.sizeOf120 rfl es rfl) (nd_of rfl) rfl ?_
  refine x_val (r_load h 1 rfl Try.isAgg120 es gc1) (nd_of rfl) rfl ?_
  refine x_val (r_move (en rfl (en rfl (en rfl (en rfl (en rfl s1)))))) (nd_of rfl) rfl ?_
  refine x_bslice (c := #[.int .i64 (i : Int)]) h Try.underlying120 Try.sizeOf3 Try.zeroValue3 rfl rfl es rfl Ok.int1 rfl ?_; intro bn w h; have h := h.f1
  refine x_append (bytes := 8) h Try.underlying120 (by kernel_rfl) (en rfl (en rfl es)) es Ok.int1 (by omega) (by omega) rfl ?_; intro fs2 w h; obtain ⟨af, cf, rfl, _, _⟩ := h.rowVal; have h := h.f1.drop
  refine x_val (r_nilCheck (en rfl (en rfl (en rfl (en rfl (en rfl (en rfl (en rfl es)))))))) (nd_of rfl) rfl ?_
  refine x_val (r_fieldAddr (o' := 1) Try.underlying122 rfl Try.sizeOf120 rfl es rfl) (nd_of rfl) rfl ?_
  refine x_st (r_store h 1 rfl Try.sizeOf120 es (en rfl (en rfl es)) rfl gc1) rfl (h.u1 sc1) ?_
  intro w h
  refine xw_nil ?_
  refine hK6 _ _ ?_
  refine xc_gen (fun g hg => ?_)
  have s0 := (hg 0).trans (en rfl (en rfl (en rfl (en rfl (en rfl (en rfl (en rfl (en rfl (en rfl (en rfl s0))))))))))
  have s1 := (hg 1).trans (en rfl (en rfl (en rfl (en rfl (en rfl (en rfl (en rfl (en rfl (en rfl (en rfl s1))))))))))
  have s4 := (hg 4).trans (en rfl (en rfl (en rfl (en rfl (en rfl (en rfl (en rfl (en rfl (en rfl (en rfl s4))))))))))
  have s5 := (hg 5).trans (en rfl (en rfl (en rfl (en rfl (en rfl (en rfl (en rfl (en rfl (en rfl (en rfl s5))))))))))
  have s10 := (hg 10).trans (en rfl (en rfl (en rfl (en rfl (en rfl (en rfl (en rfl (en rfl (en rfl (en rfl s10))))))))))
  clear hg
  refine xc_seq (fun K hK7 => ?_)
  refine xc_region ?_
  refine x_val (r_assign ec) (nd_of rfl) rfl ?_
  refine xw_nil ?_
  refine hK7 _ _ ?_
  refine xc_gen (fun g hg => ?_)
  have s0 := (hg 0).trans (en rfl s0)
  have s1 := (hg 1).trans (en rfl s1)
  have s4 := (hg 4).trans es
  have s5 := (hg 5).trans (en rfl s5)
  have s10 := (hg 10).trans (en rfl s10)
  clear hg
  refine xc_ret ?_
  refine bodyR_1 rfl s4 ?_
  exact ⟨rfl, SatL.closePlace (us := zN.toList ++ [Value.bool false]) hr (by simp [zN_ok.size]) hlt (by exact hp.freeAt hlt) (hp.unset hi) (by rw [frC_snoc, List.length_append]; exact h.f1.f2)⟩

/-- a place that was freed last is taken -/
theorem take_free {j : Nat} (hc : Ok KN c) (hb : pl.length ≤ 1000000000) (h : SatL E w (Ar b pl (fr ++ [j]) :: R)) :
    Calls Try.prog 61 #[.pointer (some ⟨b, 0, none⟩), .agg c] w (Ret fun v w' => v = .int .i64 (j : Int) ∧ SatL E w' (Ar b (pl.set j (some c)) fr :: R)) := by
  obtain ⟨ps, fs, hp, h⟩ := h.openArena
  have hjl := (List.getElem?_eq_some_iff.1 (hp.free j (by simp))).1
  have hfl := hp.frLen
  rw [List.length_append, List.length_singleton] at hfl
  obtain ⟨gp, cp, cur, hr, h⟩ := (h.f1).openRow (by omega)
  obtain rfl := hr.val
  rw [List.length_append, List.length_singleton] at h
  obtain ⟨gf, cf, curf, hrf, h⟩ := (h.f2).openRow (by omega)
  obtain rfl := hrf.val
  have hle := hrf.le
  have hcm := hrf.capm
  unfold maxLen at hcm
  have hj : curf[fr.length]? = some (Value.int .i64 (j : Int)) := hrf.get (by rw [frC_snoc, List.getElem?_append_right (by rw [frC_len]; exact Nat.le_refl _), frC_len, Nat.sub_self]; rfl)
  refine calls_x Try.func61 rfl Try.ntmps61 rfl ?_
  refine xc_gen (fun g hg => ?_)
  have s0 := (hg 0).trans arg0
  have s1 := (hg 1).trans arg1
  clear hg
  refine xc_seq (fun K hK1 => ?_)
  refine xc_region ?_
  refine x_boxA h s1 rfl ?_
  intro b3 w h
  refine x_val (r_assign ec) (nd_of rfl) rfl ?_
  refine xw_nil ?_
  refine hK1 _ _ ?_
  refine xc_gen (fun g hg => ?_)
  have s0 := (hg 0).trans (en rfl (en rfl s0))
  have s1 := (hg 1).trans (en rfl (en rfl s1))
  have s3 := (hg 3).trans (en rfl es)
  have s4 := (hg 4).trans es
  clear hg
  refine xc_seq (fun K hK2 => ?_)
  refine xc_seq (fun K hK3 => ?_)
  refine xc_region ?_
  refine x_val (r_move s0) (nd_of rfl) rfl ?_
  refine x_val (r_eqnil Try.underlying91 es ec (r := false) rfl) (nd_of rfl) rfl ?_
  refine xw_nil ?_
  refine hK3 _ _ ?_
  refine xc_gen (fun g hg => ?_)
  have s0 := (hg 0).trans (en rfl (en rfl s0))
  have s1 := (hg 1).trans (en rfl (en rfl s1))
  have s3 := (hg 3).trans (en rfl (en rfl s3))
  have s4 := (hg 4).trans (en rfl (en rfl s4))
  have s8 := (hg 8).trans es
  clear hg
  refine xc_cond s8 (fun hc => by cases hc) (fun _ => ?_)
  refine xc_skip ?_
  refine hK2 _ _ ?_
  refine xc_seq (fun K hK4 => ?_)
  refine xc_seq (fun K hK5 => ?_)
  refine xc_region ?_
  refine x_val (r_move s0) (nd_of rfl) rfl ?_
  refine x_val (r_nilCheck es) (nd_of rfl) rfl ?_
  refine x_val (r_fieldAddr (o' := 1) Try.underlying122 rfl Try.sizeOf120 rfl es rfl) (nd_of rfl) rfl ?_
  refine x_val (r_load h 3 rfl Try.isAgg120 es gc1) (nd_of rfl) rfl ?_
  refine x_val (r_len Try.underlying120 es) (nd_of rfl) rfl ?_
  refine x_val (r_sub es ec (show _ = ((fr.length : Int) : Int) from by omega) (by unfold I64; omega)) (nd_of rfl) rfl ?_
  refine x_val (r_assign es) (nd_of rfl) rfl ?_
  refine xw_nil ?_
  refine hK5 _ _ ?_
  refine xc_gen (fun g hg => ?_)
  have s0 := (hg 0).trans (en rfl (en rfl (en rfl (en rfl (en rfl (en rfl (en rfl s0)))))))
  have s1 := (hg 1).trans (en rfl (en rfl (en rfl (en rfl (en rfl (en rfl (en rfl s1)))))))
  have s3 := (hg 3).trans (en rfl (en rfl (en rfl (en rfl (en rfl (en rfl (en rfl s3)))))))
  have s4 := (hg 4).trans (en rfl (en rfl (en rfl (en rfl (en rfl (en rfl (en rfl s4)))))))
  have s5 := (hg 5).trans es
  have s8 := (hg 8).trans (en rfl (en rfl (en rfl (en rfl (en rfl (en rfl (en rfl s8)))))))
  clear hg
  refine xc_seq (fun K hK6 => ?_)
  refine xc_region ?_
  refine x_val (r_move s5) (nd_of rfl) rfl ?_
  refine x_val (r_geq es ec (decide_eq_true (by omega))) (nd_of rfl) rfl ?_
  refine xw_nil ?_
  refine hK6 _ _ ?_
  refine xc_gen (fun g hg => ?_)
  have s0 := (hg 0).trans (en rfl (en rfl s0))
  have s1 := (hg 1).trans (en rfl (en rfl s1))
  have s3 := (hg 3).trans (en rfl (en rfl s3))
  have s4 := (hg 4).trans (en rfl (en rfl s4))
  have s5 := (hg 5).trans (en rfl (en rfl s5))
  have s8 := (hg 8).trans (en rfl (en rfl s8))
  have s16 := (hg 16).trans es
  clear hg
  refine xc_cond s16 (fun _ => ?_) (fun hc => by cases hc)
  refine xc_seq (fun K hK7 => ?_)
  refine xc_region ?_
  refine x_val (r_move s0) (nd_of rfl) rfl ?_
  refine x_val (r_nilCheck es) (nd_of rfl) rfl ?_
  refine x_val (r_fieldAddr (o' := 1) Try.underlying122 rfl Try.sizeOf120 rfl es rfl) (nd_of rfl) rfl ?_
  refine x_val (r_load h 3 rfl Try.isAgg120 es gc1) (nd_of rfl) rfl ?_
  refine x_val (r_move (en rfl (en rfl (en rfl (en rfl s5))))) (nd_of rfl) rfl ?_
  refine x_val (r_indexAddrN Try.underlying120 Try.sizeOf3 (en rfl es) es (by omega)) (nd_of rfl) rfl ?_
  refine x_val (r_load h 1 rfl Try.isAgg3 es (by rw [Nat.mul_one]; exact hj)) (nd_of rfl) rfl ?_
  refine x_val (r_assign es) (nd_of rfl) rfl ?_
  refine xw_nil ?_
  refine hK7 _ _ ?_
  refine xc_gen (fun g hg => ?_)
  have s0 := (hg 0).trans (en rfl (en rfl (en rfl (en rfl (en rfl (en rfl (en rfl (en rfl s0))))))))
  have s1 := (hg 1).trans (en rfl (en rfl (en rfl (en rfl (en rfl (en rfl (en rfl (en rfl s1))))))))
  have s3 := (hg 3).trans (en rfl (en rfl (en rfl (en rfl (en rfl (en rfl (en rfl (en rfl s3))))))))
  have s4 := (hg 4).trans (en rfl (en rfl (en rfl (en rfl (en rfl (en rfl (en rfl (en rfl s4))))))))
  have s5 := (hg 5).trans (en rfl (en rfl (en rfl (en rfl (en rfl (en rfl (en rfl (en rfl s5))))))))
  have s6 := (hg 6).trans es
  have s8 := (hg 8).trans (en rfl (en rfl (en rfl (en rfl (en rfl (en rfl (en rfl (en rfl s8))))))))
  have s16 := (hg 16).trans (en rfl (en rfl (en rfl (en rfl (en rfl (en rfl (en rfl (en rfl s16))))))))
  clear hg
  refine xc_seq (fun K hK8 => ?_)
  refine xc_region ?_
  refine x_val (r_move s0) (nd_of rfl) rfl ?_
  refine x_val (r_move (en rfl s0)) (nd_of rfl) rfl ?_
  refine x_val (r_nilCheck es) (nd_of rfl) rfl ?_
  refine x_val (r_fieldAddr (o' := 1) Try.underlying122 rfl Try.sizeOf120 rfl es rfl) (nd_of rfl) rfl ?_
  refine x_val (r_load h 3 rfl Try.isAgg120 es gc1) (nd_of rfl) rfl ?_
  refine x_val (r_move (en rfl (en rfl (en rfl (en rfl (en rfl s5)))))) (nd_of rfl) rfl ?_
  refine x_val (r_sliceToN Try.underlying120 Try.sizeOf3 (en rfl es) es (by omega)) (nd_of rfl) rfl ?_
  refine x_val (r_nilCheck (en rfl (en rfl (en rfl (en rfl (en rfl (en rfl es))))))) (nd_of rfl) rfl ?_
  refine x_val (r_fieldAddr (o' := 1) Try.underlying122 rfl Try.sizeOf120 rfl es rfl) (nd_of rfl) rfl ?_
  refine x_st (r_store h 3 rfl Try.sizeOf120 es (en rfl (en rfl es)) rfl gc1) rfl (h.u3 sc1) ?_
  intro w h
  refine xw_nil ?_
  refine hK8 _ _ ?_
  refine xc_gen (fun g hg => ?_)
  have s0 := (hg 0).trans (en rfl (en rfl (en rfl (en rfl (en rfl (en rfl (en rfl (en rfl (en rfl s0)))))))))
  have s1 := (hg 1).trans (en rfl (en rfl (en rfl (en rfl (en rfl (en rfl (en rfl (en rfl (en rfl s1)))))))))
  have s3 := (hg 3).trans (en rfl (en rfl (en rfl (en rfl (en rfl (en rfl (en rfl (en rfl (en rfl s3)))))))))
  have s4 := (hg 4).trans (en rfl (en rfl (en rfl (en rfl (en rfl (en rfl (en rfl (en rfl (en rfl s4)))))))))
  have s5 := (hg 5).trans (en rfl (en rfl (en rfl (en rfl (en rfl (en rfl (en rfl (en rfl (en rfl s5)))))))))
  have s6 := (hg 6).trans (en rfl (en rfl (en rfl (en rfl (en rfl (en rfl (en rfl (en rfl (en rfl s6)))))))))
  have s8 := (hg 8).trans (en rfl (en rfl (en rfl (en rfl (en rfl (en rfl (en rfl (en rfl (en rfl s8)))))))))
  have s16 := (hg 16).trans (en rfl (en rfl (en rfl (en rfl (en rfl (en rfl (en rfl (en rfl (en rfl s16)))))))))
  clear hg
  refine xc_seq (fun K hK9 => ?_)
  refine xc_plan 8 [(0, 2), (1, 2), (2, 2), (3, 1), (4, 2), (5, 1), (6, 2), (7, 2), (8, 0)] (by kernel_rfl) rfl (by kernel_rfl) h ?_
  have h := h.drew
  refine xp_read (i := 0) rfl (fun W => r_move s0) rfl (fun _ _ _ hh => by first | exact bodyR_np hh | exact bodyY_np hh | exact hh) ?_
  refine xp_read (i := 1) rfl (fun W => r_nilCheck es) rfl (fun _ _ _ hh => by first | exact bodyR_np hh | exact bodyY_np hh | exact hh) ?_
  refine xp_read (i := 2) rfl (fun W => r_fieldAddr (o' := 0) Try.underlying122 rfl Try.sizeOf119 rfl es rfl) rfl (fun _ _ _ hh => by first | exact bodyR_np hh | exact bodyY_np hh | exact hh) ?_
  refine xp_load (i := 3) rfl (fun W hW => r_load hW 3 rfl Try.isAgg119 es gc0) rfl (fun _ _ _ hh => by first | exact bodyR_np hh | exact bodyY_np hh | exact hh) ?_
  refine xp_read (i := 4) rfl (fun W => r_move (en rfl (en rfl (en rfl (en rfl s6))))) rfl (fun _ _ _ hh => by first | exact bodyR_np hh | exact bodyY_np hh | exact hh) ?_
  refine xp_load (i := 5) rfl (fun W hW => r_loadAgg hW 0 rfl Try.isAgg103 Try.sizeOf103 (en rfl (en rfl (en rfl (en rfl (en rfl s3))))) (Ok.le (by first | assumption | exact Ok.node (by assumption) | exact xOk.cells (by assumption) | exact ChOk.ok (by assumption))) (ext_full (Ok.size (by first | assumption | exact Ok.node (by assumption) | exact xOk.cells (by assumption) | exact ChOk.ok (by assumption))))) rfl (fun _ _ _ hh => by first | exact bodyR_np hh | exact bodyY_np hh | exact hh) ?_
  refine xp_read (i := 6) rfl (fun W => r_place (c := c) Try.underlying124 zP_eq Try.sizeOf103 Try.sizeOf4 rfl rfl (by simp [zN_ok.size]) es rfl hc ec) rfl (fun _ _ _ hh => by first | exact bodyR_np hh | exact bodyY_np hh | exact hh) ?_
  refine xp_read (i := 7) rfl (fun W => r_indexAddrN Try.underlying119 Try.sizeOf124 (en rfl (en rfl (en rfl es))) (en rfl (en rfl es)) (by omega)) rfl (fun _ _ _ hh => by first | exact bodyR_np hh | exact bodyY_np hh | exact hh) ?_
  refine xp_st (i := 8) rfl (r_storeAgg h 2 rfl Try.sizeOf124 es (en rfl es) (by simp [hc.size]) (Ok.place_one hc) (hp.le hr hjl)) (h.r2 rfl) (fun hh => absurd rfl hh) ?_
  intro w h
  refine xp_nil ?_
  refine hK9 _ _ ?_
  refine xc_gen (fun g hg => ?_)
  have s0 := (hg 0).trans (en rfl (en rfl (en rfl (en rfl (en rfl (en rfl (en rfl (en rfl s0))))))))
  have s1 := (hg 1).trans (en rfl (en rfl (en rfl (en rfl (en rfl (en rfl (en rfl (en rfl s1))))))))
  have s3 := (hg 3).trans (en rfl (en rfl (en rfl (en rfl (en rfl (en rfl (en rfl (en rfl s3))))))))
  have s4 := (hg 4).trans (en rfl (en rfl (en rfl (en rfl (en rfl (en rfl (en rfl (en rfl s4))))))))
  have s5 := (hg 5).trans (en rfl (en rfl (en rfl (en rfl (en rfl (en rfl (en rfl (en rfl s5))))))))
  have s6 := (hg 6).trans (en rfl (en rfl (en rfl (en rfl (en rfl (en rfl (en rfl (en rfl s6))))))))
  have s8 := (hg 8).trans (en rfl (en rfl (en rfl (en rfl (en rfl (en rfl (en rfl (en rfl s8))))))))
  have s16 := (hg 16).trans (en rfl (en rfl (en rfl (en rfl (en rfl (en rfl (en rfl (en rfl s16))))))))
  clear hg
  refine xc_seq (fun K hK10 => ?_)
  have h := h.f1
  have h := h.f3
  have h := h.f3
  refine xc_region ?_
  refine x_val (r_move s6) (nd_of rfl) rfl ?_
  refine x_val (r_assign es) (nd_of rfl) rfl ?_
  refine xw_nil ?_
  refine hK10 _ _ ?_
  refine xc_gen (fun g hg => ?_)
  have s0 := (hg 0).trans (en rfl (en rfl s0))
  have s1 := (hg 1).trans (en rfl (en rfl s1))
  have s3 := (hg 3).trans (en rfl (en rfl s3))
  have s4 := (hg 4).trans es
  have s5 := (hg 5).trans (en rfl (en rfl s5))
  have s6 := (hg 6).trans (en rfl (en rfl s6))
  have s8 := (hg 8).trans (en rfl (en rfl s8))
  have s16 := (hg 16).trans (en rfl (en rfl s16))
  clear hg
  refine xc_ret ?_
  refine bodyR_1 rfl s4 ?_
  exact ⟨rfl, SatL.closePlace hr (by simp [hc.size]) hjl (by exact hp.takeAt hjl) (hp.reuse hc) (((h.f2.closeRow (by have := hrf.cut (k := fr.length) (by omega); rwa [frC_snoc, Nat.mul_one, List.take_left' frC_len] at this)).f3.drop).f2.f2)⟩

/-- no place is free: one more is made -/
theorem take_new (hc : Ok KN c) (hb : pl.length ≤ 100000000) (h : SatL E w (Ar b pl [] :: R)) :
    Calls Try.prog 61 #[.pointer (some ⟨b, 0, none⟩), .agg c] w (Ret fun v w' => v = .int .i64 (pl.length : Int) ∧ SatL E w' (Ar b (pl ++ [some c]) [] :: R)) := by
  obtain ⟨ps, fs, hp, h⟩ := h.openArena
  obtain ⟨gf, cf, rfl, _, _⟩ := (h.f2).rowVal
  refine calls_x Try.func61 rfl Try.ntmps61 rfl ?_
  refine xc_gen (fun g hg => ?_)
  have s0 := (hg 0).trans arg0
  have s1 := (hg 1).trans arg1
  clear hg
  refine xc_seq (fun K hK1 => ?_)
  refine xc_region ?_
  refine x_boxA h s1 rfl ?_
  intro b3 w h
  refine x_val (r_assign ec) (nd_of rfl) rfl ?_
  refine xw_nil ?_
  refine hK1 _ _ ?_
  refine xc_gen (fun g hg => ?_)
  have s0 := (hg 0).trans (en rfl (en rfl s0))
  have s1 := (hg 1).trans (en rfl (en rfl s1))
  have s3 := (hg 3).trans (en rfl es)
  have s4 := (hg 4).trans es
  clear hg
  refine xc_seq (fun K hK2 => ?_)
  refine xc_seq (fun K hK3 => ?_)
  refine xc_region ?_
  refine x_val (r_move s0) (nd_of rfl) rfl ?_
  refine x_val (r_eqnil Try.underlying91 es ec (r := false) rfl) (nd_of rfl) rfl ?_
  refine xw_nil ?_
  refine hK3 _ _ ?_
  refine xc_gen (fun g hg => ?_)
  have s0 := (hg 0).trans (en rfl (en rfl s0))
  have s1 := (hg 1).trans (en rfl (en rfl s1))
  have s3 := (hg 3).trans (en rfl (en rfl s3))
  have s4 := (hg 4).trans (en rfl (en rfl s4))
  have s8 := (hg 8).trans es
  clear hg
  refine xc_cond s8 (fun hc => by cases hc) (fun _ => ?_)
  refine xc_skip ?_
  refine hK2 _ _ ?_
  refine xc_seq (fun K hK4 => ?_)
  refine xc_seq (fun K hK5 => ?_)
  refine xc_region ?_
  refine x_val (r_move s0) (nd_of rfl) rfl ?_
  refine x_val (r_nilCheck es) (nd_of rfl) rfl ?_
  refine x_val (r_fieldAddr (o' := 1) Try.underlying122 rfl Try.sizeOf120 rfl es rfl) (nd_of rfl) rfl ?_
  refine x_val (r_load h 1 rfl Try.isAgg120 es gc1) (nd_of rfl) rfl ?_
  refine x_val (r_len Try.underlying120 es) (nd_of rfl) rfl ?_
  refine x_val (r_sub es ec (show _ = ((-1 : Int) : Int) from by rfl) (by unfold I64; omega)) (nd_of rfl) rfl ?_
  refine x_val (r_assign es) (nd_of rfl) rfl ?_
  refine xw_nil ?_
  refine hK5 _ _ ?_
  refine xc_gen (fun g hg => ?_)
  have s0 := (hg 0).trans (en rfl (en rfl (en rfl (en rfl (en rfl (en rfl (en rfl s0)))))))
  have s1 := (hg 1).trans (en rfl (en rfl (en rfl (en rfl (en rfl (en rfl (en rfl s1)))))))
  have s3 := (hg 3).trans (en rfl (en rfl (en rfl (en rfl (en rfl (en rfl (en rfl s3)))))))
  have s4 := (hg 4).trans (en rfl (en rfl (en rfl (en rfl (en rfl (en rfl (en rfl s4)))))))
  have s5 := (hg 5).trans es
  have s8 := (hg 8).trans (en rfl (en rfl (en rfl (en rfl (en rfl (en rfl (en rfl s8)))))))
  clear hg
  refine xc_seq (fun K hK6 => ?_)
  refine xc_region ?_
  refine x_val (r_move s5) (nd_of rfl) rfl ?_
  refine x_val (r_geq es ec (decide_eq_false (by omega))) (nd_of rfl) rfl ?_
  refine xw_nil ?_
  refine hK6 _ _ ?_
  refine xc_gen (fun g hg => ?_)
  have s0 := (hg 0).trans (en rfl (en rfl s0))
  have s1 := (hg 1).trans (en rfl (en rfl s1))
  have s3 := (hg 3).trans (en rfl (en rfl s3))
  have s4 := (hg 4).trans (en rfl (en rfl s4))
  have s5 := (hg 5).trans (en rfl (en rfl s5))
  have s8 := (hg 8).trans (en rfl (en rfl s8))
  have s16 := (hg 16).trans es
  clear hg
  refine xc_cond s16 (fun hc => by cases hc) (fun _ => ?_)
  refine xc_skip ?_
  refine hK4 _ _ ?_
  refine xc_seq (fun K hK7 => ?_)
  have hS := h
  have hS := (hS.f2).drop
  refine xc_plan 11 [(0, 2), (1, 2), (2, 2), (3, 2), (4, 1), (5, 1), (6, 2), (7, 0), (8, 0), (9, 2), (10, 2), (11, 0)] (by kernel_rfl) rfl (by kernel_rfl) hS ?_
  have h := h.drew
  refine xp_read (i := 0) rfl (fun W => r_move s0) rfl (fun _ _ _ hh => by first | exact bodyR_np hh | exact bodyY_np hh | exact hh) ?_
  refine xp_read (i := 1) rfl (fun W => r_move (en rfl s0)) rfl (fun _ _ _ hh => by first | exact bodyR_np hh | exact bodyY_np hh | exact hh) ?_
  refine xp_read (i := 2) rfl (fun W => r_nilCheck es) rfl (fun _ _ _ hh => by first | exact bodyR_np hh | exact bodyY_np hh | exact hh) ?_
  refine xp_read (i := 3) rfl (fun W => r_fieldAddr (o' := 0) Try.underlying122 rfl Try.sizeOf119 rfl es rfl) rfl (fun _ _ _ hh => by first | exact bodyR_np hh | exact bodyY_np hh | exact hh) ?_
  refine xp_load (i := 4) rfl (fun W hW => r_load hW 1 rfl Try.isAgg119 es gc0) rfl (fun _ _ _ hh => by first | exact bodyR_np hh | exact bodyY_np hh | exact hh) ?_
  refine xp_load (i := 5) rfl (fun W hW => r_loadAgg hW 0 rfl Try.isAgg103 Try.sizeOf103 (en rfl (en rfl (en rfl (en rfl (en rfl s3))))) (Ok.le (by first | assumption | exact Ok.node (by assumption) | exact xOk.cells (by assumption) | exact ChOk.ok (by assumption))) (ext_full (Ok.size (by first | assumption | exact Ok.node (by assumption) | exact xOk.cells (by assumption) | exact ChOk.ok (by assumption))))) rfl (fun _ _ _ hh => by first | exact bodyR_np hh | exact bodyY_np hh | exact hh) ?_
  refine xp_read (i := 6) rfl (fun W => r_place (c := c) Try.underlying124 zP_eq Try.sizeOf103 Try.sizeOf4 rfl rfl (by simp [zN_ok.size]) es rfl hc ec) rfl (fun _ _ _ hh => by first | exact bodyR_np hh | exact bodyY_np hh | exact hh) ?_
  have h := h.f2
  refine xp_bslice (i := 7) (c := c ++ #[.bool true]) h rfl Try.underlying119 Try.sizeOf124 zP_eq rfl rfl es rfl ((Nat.one_mul _).symm ▸ hc.place) rfl ?_; intro bn w h; refine ⟨fun _ => (h.f1.drop).drop, ?_⟩
  have h := h.f1
  refine xp_append (i := 8) (bytes := 184) h rfl Try.underlying119 (by kernel_rfl) (en rfl (en rfl (en rfl es))) es hc.place (by omega) (by omega) rfl ?_; intro ps2 w h; refine ⟨fun _ => h.drop.drop, ?_⟩; obtain ⟨gp, cp, rfl, hpl, hcp⟩ := h.rowVal; have h := h.f1.drop
  have h := h.f2
  refine xp_read (i := 9) rfl (fun W => r_nilCheck (en rfl (en rfl (en rfl (en rfl (en rfl (en rfl (en rfl (en rfl es))))))))) rfl (fun _ _ _ hh => by first | exact bodyR_np hh | exact bodyY_np hh | exact hh) ?_
  refine xp_read (i := 10) rfl (fun W => r_fieldAddr (o' := 0) Try.underlying122 rfl Try.sizeOf119 rfl es rfl) rfl (fun _ _ _ hh => by first | exact bodyR_np hh | exact bodyY_np hh | exact hh) ?_
  refine xp_st (i := 11) rfl (r_store h 0 rfl Try.sizeOf119 es (en rfl (en rfl es)) rfl gc0) (h.u0 sc0) (fun hh => absurd rfl hh) ?_
  intro w h
  refine xp_nil ?_
  refine hK7 _ _ ?_
  refine xc_gen (fun g hg => ?_)
  have s0 := (hg 0).trans (en rfl (en rfl (en rfl (en rfl (en rfl (en rfl (en rfl (en rfl (en rfl (en rfl (en rfl s0)))))))))))
  have s1 := (hg 1).trans (en rfl (en rfl (en rfl (en rfl (en rfl (en rfl (en rfl (en rfl (en rfl (en rfl (en rfl s1)))))))))))
  have s3 := (hg 3).trans (en rfl (en rfl (en rfl (en rfl (en rfl (en rfl (en rfl (en rfl (en rfl (en rfl (en rfl s3)))))))))))
  have s4 := (hg 4).trans (en rfl (en rfl (en rfl (en rfl (en rfl (en rfl (en rfl (en rfl (en rfl (en rfl (en rfl s4)))))))))))
  have s5 := (hg 5).trans (en rfl (en rfl (en rfl (en rfl (en rfl (en rfl (en rfl (en rfl (en rfl (en rfl (en rfl s5)))))))))))
  have s8 := (hg 8).trans (en rfl (en rfl (en rfl (en rfl (en rfl (en rfl (en rfl (en rfl (en rfl (en rfl (en rfl s8)))))))))))
  have s16 := (hg 16).trans (en rfl (en rfl (en rfl (en rfl (en rfl (en rfl (en rfl (en rfl (en rfl (en rfl (en rfl s16)))))))))))
  clear hg
  refine xc_seq (fun K hK8 => ?_)
  refine xc_region ?_
  refine x_val (r_move s0) (nd_of rfl) rfl ?_
  refine x_val (r_nilCheck es) (nd_of rfl) rfl ?_
  refine x_val (r_fieldAddr (o' := 0) Try.underlying122 rfl Try.sizeOf119 rfl es rfl) (nd_of rfl) rfl ?_
  refine x_val (r_load h 0 rfl Try.isAgg119 es gc0) (nd_of rfl) rfl ?_
  refine x_val (r_len Try.underlying119 es) (nd_of rfl) rfl ?_
  refine x_val (r_sub es ec (show _ = ((pl.length : Int) : Int) from by omega) (by unfold I64; omega)) (nd_of rfl) rfl ?_
  have h := h.f2
  have h := h.f3
  have h := h.f3
  have h := h.f3
  refine x_val (r_assign es) (nd_of rfl) rfl ?_
  refine xw_nil ?_
  refine hK8 _ _ ?_
  refine xc_gen (fun g hg => ?_)
  have s0 := (hg 0).trans (en rfl (en rfl (en rfl (en rfl (en rfl (en rfl (en rfl s0)))))))
  have s1 := (hg 1).trans (en rfl (en rfl (en rfl (en rfl (en rfl (en rfl (en rfl s1)))))))
  have s3 := (hg 3).trans (en rfl (en rfl (en rfl (en rfl (en rfl (en rfl (en rfl s3)))))))
  have s4 := (hg 4).trans es
  have s5 := (hg 5).trans (en rfl (en rfl (en rfl (en rfl (en rfl (en rfl (en rfl s5)))))))
  have s8 := (hg 8).trans (en rfl (en rfl (en rfl (en rfl (en rfl (en rfl (en rfl s8)))))))
  have s16 := (hg 16).trans (en rfl (en rfl (en rfl (en rfl (en rfl (en rfl (en rfl s16)))))))
  clear hg
  refine xc_ret ?_
  refine bodyR_1 rfl s4 ?_
  exact ⟨rfl, SatL.closeArena (hp.grow hc) (by rw [placesC_snoc, List.length_append]; exact h.f3.drop)⟩
end
end Go.Proofs.Ytmfkhfmidnojhaa
