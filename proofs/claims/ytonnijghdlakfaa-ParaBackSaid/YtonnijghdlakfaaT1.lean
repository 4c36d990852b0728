/-
The tree's small functions: at, totals, set, lean, lift, Size, Marks.
-/
import Derived.Test.YtonnijghdlakfaaT0
namespace Go.Proofs.Ytonnijghdlakfaa
open Go Go.RowKit
/-- a tree laid anew: what it holds, where it lies; all else stays -/
structure Ch (pl pl' : Pl) (t : Tr) (xs : List X) (ix : List Nat) : Prop where
  has : Has pl' t
  xs : t.xs = xs
  idx : t.idx.Perm ix
  keep : Keep pl pl' ix
  len : pl'.length = pl.length
theorem perm_of {a b : List Nat} (h : ∀ j, a.count j = b.count j) : a.Perm b := List.perm_iff_count.2 h
theorem Has.setNode {pl : Pl} {i : Nat} {l r : Tr} {x : X} (hl : Has pl l) (hr : Has pl r) (hx : xOk x) (h1 : i ∉ l.idx) (h2 : i ∉ r.idx) (hi : i < pl.length) : Has (pl.set i (some (cellOf l x r))) (.node i l x r) :=
  ⟨by rw [List.getElem?_set]; simp [hi], hx, hl.keep Keep.set (fun j hj => by simp; rintro rfl; exact h1 hj), hr.keep Keep.set (fun j hj => by simp; rintro rfl; exact h2 hj)⟩
theorem Ch.set {pl : Pl} {i : Nat} {l r : Tr} {x : X} (hl : Has pl l) (hr : Has pl r) (hx : xOk x) (hn : (i :: (l.idx ++ r.idx)).Nodup) (hi : i < pl.length) : Ch pl (pl.set i (some (cellOf l x r))) (.node i l x r) (l.xs ++ x :: r.xs) (i :: (l.idx ++ r.idx)) := by
  have h0 := (List.nodup_cons.1 hn).1
  simp only [List.mem_append, not_or] at h0
  exact ⟨hl.setNode hr hx h0.1 h0.2 hi, rfl, List.Perm.refl _, Keep.set.mono (fun j hj => by simp at hj; simp [hj]), by simp⟩
theorem Ch.trans {pl pl' pl'' : Pl} {t t' : Tr} {xs xs' : List X} {ix ix' : List Nat} (h : Ch pl pl' t xs ix) (h' : Ch pl' pl'' t' xs' ix') (hx : xs' = xs) (hi : ix'.Perm ix) : Ch pl pl'' t' xs ix :=
  ⟨h'.has, h'.xs.trans hx, h'.idx.trans hi, h.keep.trans h'.keep (fun _ hj => hj) (fun j hj => hi.subset hj), h'.len.trans h.len⟩
section
variable {E : Env} {R : List SProp} {w : World} {bt ba : Nat} {ro : Int} {pl : Pl} {fr : List Nat} {i : Nat} {c : Array Value}
theorem Has.cell_ok (hi : pl[i]? = some (some c)) (h : SatL E w (Ar ba pl fr :: R)) : Ok KN c := by
  obtain ⟨ps0, fs0, hp, _⟩ := h.openArena
  exact hp.thing i c hi
theorem at_t (hi : pl[i]? = some (some c)) (h : SatL E w (TC bt ba ro :: Ar ba pl fr :: R)) :
    Calls Try.prog 54 #[pT bt, .int .i64 (i : Int)] w (Ret fun v w' => v = .agg c ∧ SatL E w' (TC bt ba ro :: Ar ba pl fr :: R)) := by
  have hc := Has.cell_ok hi h.f1
  refine calls_x Try.func54 rfl Try.ntmps54 rfl ?_
  refine xc_gen (fun g hg => ?_)
  have s0 := (hg 0).trans arg0
  have s1 := (hg 1).trans arg1
  clear hg
  refine xc_seq (fun K hK1 => ?_)
  refine xc_region ?_
  refine x_allocA h Try.zeroValue90 rfl ?_
  intro b4 w h
  refine xw_nil ?_
  refine hK1 _ _ ?_
  refine xc_gen (fun g hg => ?_)
  have s0 := (hg 0).trans (en rfl s0)
  have s1 := (hg 1).trans (en rfl s1)
  have s4 := (hg 4).trans es
  clear hg
  refine xc_seq (fun K hK2 => ?_)
  refine xc_region ?_
  refine x_val (r_move s0) (nd_of rfl) rfl ?_
  refine x_val (r_nilCheck es) (nd_of rfl) rfl ?_
  refine x_val (r_fieldAddr (o' := 3) Try.underlying83 rfl Try.sizeOf81 rfl es rfl) (nd_of rfl) rfl ?_
  refine x_val (r_load h 1 rfl Try.isAgg81 es gc3) (nd_of rfl) rfl ?_
  refine x_val (r_move (en rfl (en rfl (en rfl (en rfl s1))))) (nd_of rfl) rfl ?_
  have h := h.f2
  refine x_enter (r_call Try.call61 (.cons (en rfl es) (.cons es .nil))) (nd_of rfl) rfl (at_ok hi h) ?_
  rintro _ w ⟨rfl, h⟩
  refine x_val (r_move es) (nd_of rfl) rfl ?_
  refine x_val (r_extract es gc0) (nd_of rfl) rfl ?_
  refine x_val (r_extract (en rfl es) gc1) (nd_of rfl) rfl ?_
  refine x_declA h Try.zeroValue90 Try.sizeOf90 rfl (en rfl (en rfl es)) (by first | assumption | exact Ok.node (by assumption) | exact xOk.cells (by assumption) | exact ChOk.ok (by assumption)) rfl ?_
  intro b5 w h
  refine x_val (r_assign (en rfl es)) (nd_of rfl) rfl ?_
  refine xw_nil ?_
  refine hK2 _ _ ?_
  refine xc_gen (fun g hg => ?_)
  have s0 := (hg 0).trans (en rfl (en rfl (en rfl (en rfl (en rfl (en rfl (en rfl (en rfl (en rfl (en rfl (en rfl s0)))))))))))
  have s1 := (hg 1).trans (en rfl (en rfl (en rfl (en rfl (en rfl (en rfl (en rfl (en rfl (en rfl (en rfl (en rfl s1)))))))))))
  have s4 := (hg 4).trans (en rfl (en rfl (en rfl (en rfl (en rfl (en rfl (en rfl (en rfl (en rfl (en rfl (en rfl s4)))))))))))
  have s5 := (hg 5).trans (en rfl es)
  clear hg
  refine xc_seq (fun K hK3 => ?_)
  refine xc_region ?_
  refine x_val (r_loadAgg h 0 rfl Try.isAgg90 Try.sizeOf90 s5 (Ok.le (by first | assumption | exact Ok.node (by assumption) | exact xOk.cells (by assumption) | exact ChOk.ok (by assumption))) (ext_full (Ok.size (by first | assumption | exact Ok.node (by assumption) | exact xOk.cells (by assumption) | exact ChOk.ok (by assumption))))) (nd_of rfl) rfl ?_
  refine x_st (r_storeAgg h 2 rfl Try.sizeOf90 (en rfl s4) es (Ok.size (by first | assumption | exact Ok.node (by assumption) | exact xOk.cells (by assumption) | exact ChOk.ok (by assumption))) (Ok.one (by first | assumption | exact Ok.node (by assumption) | exact xOk.cells (by assumption) | exact ChOk.ok (by assumption))) (by exact Nat.le_refl _)) rfl (h.r2 (over_full rfl)) ?_
  intro w h
  refine xw_nil ?_
  refine hK3 _ _ ?_
  refine xc_gen (fun g hg => ?_)
  have s0 := (hg 0).trans (en rfl s0)
  have s1 := (hg 1).trans (en rfl s1)
  have s4 := (hg 4).trans (en rfl s4)
  have s5 := (hg 5).trans (en rfl s5)
  clear hg
  refine xc_ret ?_
  refine bodyR_c rfl s4 (lv_agg h 2 rfl Try.isAgg90 Try.sizeOf90 (Ok.size (by first | assumption | exact Ok.node (by assumption) | exact xOk.cells (by assumption) | exact ChOk.ok (by assumption)))) ?_
  exact ⟨rfl, h.drop.f1.drop.f1⟩
theorem totals_t {t : Tr} (ht : Has pl t) (h : SatL E w (TC bt ba ro :: Ar ba pl fr :: R)) :
    Calls Try.prog 53 #[pT bt, .int .i64 t.root] w (Ret fun v w' => v = .tuple #[.int .i64 (t.ht : Int), .int .i64 (sz t.xs : Int), .int .i64 (mks t.xs : Int)] ∧ SatL E w' (TC bt ba ro :: Ar ba pl fr :: R)) := by
  cases t with
  | nil =>
    refine calls_x Try.func53 rfl Try.ntmps53 rfl ?_
    refine xc_gen (fun g hg => ?_)
    have s0 := (hg 0).trans arg0
    have s1 := (hg 1).trans arg1
    clear hg
    refine xc_seq (fun K hK1 => ?_)
    refine xc_region ?_
    refine x_val (r_assign ec) (nd_of rfl) rfl ?_
    refine x_val (r_assign ec) (nd_of rfl) rfl ?_
    refine x_val (r_assign ec) (nd_of rfl) rfl ?_
    refine xw_nil ?_
    refine hK1 _ _ ?_
    refine xc_gen (fun g hg => ?_)
    have s0 := (hg 0).trans (en rfl (en rfl (en rfl s0)))
    have s1 := (hg 1).trans (en rfl (en rfl (en rfl s1)))
    have s4 := (hg 4).trans (en rfl (en rfl es))
    have s5 := (hg 5).trans (en rfl es)
    have s6 := (hg 6).trans es
    clear hg
    refine xc_seq (fun K hK2 => ?_)
    refine xc_seq (fun K hK3 => ?_)
    refine xc_region ?_
    refine x_val (r_move s1) (nd_of rfl) rfl ?_
    refine x_val (r_eql es ec (r := true) rfl) (nd_of rfl) rfl ?_
    refine xw_nil ?_
    refine hK3 _ _ ?_
    refine xc_gen (fun g hg => ?_)
    have s0 := (hg 0).trans (en rfl (en rfl s0))
    have s1 := (hg 1).trans (en rfl (en rfl s1))
    have s4 := (hg 4).trans (en rfl (en rfl s4))
    have s5 := (hg 5).trans (en rfl (en rfl s5))
    have s6 := (hg 6).trans (en rfl (en rfl s6))
    have s9 := (hg 9).trans es
    clear hg
    refine xc_cond s9 (fun _ => ?_) (fun hc => by cases hc)
    refine xc_seq (fun K hK4 => ?_)
    refine xc_region ?_
    refine x_val (r_assign ec) (nd_of rfl) rfl ?_
    refine x_val (r_assign ec) (nd_of rfl) rfl ?_
    refine x_val (r_assign ec) (nd_of rfl) rfl ?_
    refine xw_nil ?_
    refine hK4 _ _ ?_
    refine xc_gen (fun g hg => ?_)
    have s0 := (hg 0).trans (en rfl (en rfl (en rfl s0)))
    have s1 := (hg 1).trans (en rfl (en rfl (en rfl s1)))
    have s4 := (hg 4).trans (en rfl (en rfl es))
    have s5 := (hg 5).trans (en rfl es)
    have s6 := (hg 6).trans es
    have s9 := (hg 9).trans (en rfl (en rfl (en rfl s9)))
    clear hg
    refine xc_ret ?_
    refine bodyR_3 rfl s4 s5 s6 ?_
    exact ⟨rfl, h⟩
  | node i l x r =>
    obtain ⟨hi, hx, _, _⟩ := ht
    have hok := hx.cells
    change Calls _ _ #[pT bt, .int .i64 (i : Int)] w _
    refine calls_x Try.func53 rfl Try.ntmps53 rfl ?_
    refine xc_gen (fun g hg => ?_)
    have s0 := (hg 0).trans arg0
    have s1 := (hg 1).trans arg1
    clear hg
    refine xc_seq (fun K hK1 => ?_)
    refine xc_region ?_
    refine x_val (r_assign ec) (nd_of rfl) rfl ?_
    refine x_val (r_assign ec) (nd_of rfl) rfl ?_
    refine x_val (r_assign ec) (nd_of rfl) rfl ?_
    refine xw_nil ?_
    refine hK1 _ _ ?_
    refine xc_gen (fun g hg => ?_)
    have s0 := (hg 0).trans (en rfl (en rfl (en rfl s0)))
    have s1 := (hg 1).trans (en rfl (en rfl (en rfl s1)))
    have s4 := (hg 4).trans (en rfl (en rfl es))
    have s5 := (hg 5).trans (en rfl es)
    have s6 := (hg 6).trans es
    clear hg
    refine xc_seq (fun K hK2 => ?_)
    refine xc_seq (fun K hK3 => ?_)
    refine xc_region ?_
    refine x_val (r_move s1) (nd_of rfl) rfl ?_
    refine x_val (r_eql es ec (decide_eq_false (by omega))) (nd_of rfl) rfl ?_
    refine xw_nil ?_
    refine hK3 _ _ ?_
    refine xc_gen (fun g hg => ?_)
    have s0 := (hg 0).trans (en rfl (en rfl s0))
    have s1 := (hg 1).trans (en rfl (en rfl s1))
    have s4 := (hg 4).trans (en rfl (en rfl s4))
    have s5 := (hg 5).trans (en rfl (en rfl s5))
    have s6 := (hg 6).trans (en rfl (en rfl s6))
    have s9 := (hg 9).trans es
    clear hg
    refine xc_cond s9 (fun hc => by cases hc) (fun _ => ?_)
    refine xc_skip ?_
    refine hK2 _ _ ?_
    refine xc_seq (fun K hK4 => ?_)
    refine xc_region ?_
    refine x_val (r_move s0) (nd_of rfl) rfl ?_
    refine x_val (r_move (en rfl s1)) (nd_of rfl) rfl ?_
    refine x_enter (r_call Try.call54 (.cons (en rfl es) (.cons es .nil))) (nd_of rfl) rfl (at_t hi h) ?_
    rintro _ w ⟨rfl, h⟩
    refine x_declA h Try.zeroValue90 Try.sizeOf90 rfl (en rfl es) (by first | assumption | exact Ok.node (by assumption) | exact xOk.cells (by assumption) | exact ChOk.ok (by assumption)) rfl ?_
    intro b7 w h
    refine xw_nil ?_
    refine hK4 _ _ ?_
    refine xc_gen (fun g hg => ?_)
    have s0 := (hg 0).trans (en rfl (en rfl (en rfl (en rfl s0))))
    have s1 := (hg 1).trans (en rfl (en rfl (en rfl (en rfl s1))))
    have s4 := (hg 4).trans (en rfl (en rfl (en rfl (en rfl s4))))
    have s5 := (hg 5).trans (en rfl (en rfl (en rfl (en rfl s5))))
    have s6 := (hg 6).trans (en rfl (en rfl (en rfl (en rfl s6))))
    have s7 := (hg 7).trans es
    have s9 := (hg 9).trans (en rfl (en rfl (en rfl (en rfl s9))))
    clear hg
    refine xc_seq (fun K hK5 => ?_)
    refine xc_plan 9 [(0, 2), (1, 1), (2, 2), (3, 1), (4, 2), (5, 1), (6, 2), (7, 2), (8, 2)] (by kernel_rfl) rfl (by kernel_rfl) h ?_
    have h := h.drew
    refine xp_read (i := 0) rfl (fun W => r_fieldAddr (o' := 3) Try.underlying90 rfl Try.sizeOf3 rfl s7 rfl) rfl (fun _ _ _ hh => by first | exact bodyR_np hh | exact bodyY_np hh | exact hh) ?_
    refine xp_load (i := 1) rfl (fun W hW => r_load hW 0 rfl Try.isAgg3 es (nd2 ‹_›)) rfl (fun _ _ _ hh => by first | exact bodyR_np hh | exact bodyY_np hh | exact hh) ?_
    refine xp_read (i := 2) rfl (fun W => r_fieldAddr (o' := 4) Try.underlying90 rfl Try.sizeOf3 rfl (en rfl (en rfl s7)) rfl) rfl (fun _ _ _ hh => by first | exact bodyR_np hh | exact bodyY_np hh | exact hh) ?_
    refine xp_load (i := 3) rfl (fun W hW => r_load hW 0 rfl Try.isAgg3 es (nd3 ‹_›)) rfl (fun _ _ _ hh => by first | exact bodyR_np hh | exact bodyY_np hh | exact hh) ?_
    refine xp_read (i := 4) rfl (fun W => r_fieldAddr (o' := 5) Try.underlying90 rfl Try.sizeOf3 rfl (en rfl (en rfl (en rfl (en rfl s7)))) rfl) rfl (fun _ _ _ hh => by first | exact bodyR_np hh | exact bodyY_np hh | exact hh) ?_
    refine xp_load (i := 5) rfl (fun W hW => r_load hW 0 rfl Try.isAgg3 es (nd4 ‹_›)) rfl (fun _ _ _ hh => by first | exact bodyR_np hh | exact bodyY_np hh | exact hh) ?_
    refine xp_read (i := 6) rfl (fun W => r_assign (en rfl (en rfl (en rfl (en rfl es))))) rfl (fun _ _ _ hh => by first | exact bodyR_np hh | exact bodyY_np hh | exact hh) ?_
    refine xp_read (i := 7) rfl (fun W => r_assign (en rfl (en rfl (en rfl es)))) rfl (fun _ _ _ hh => by first | exact bodyR_np hh | exact bodyY_np hh | exact hh) ?_
    refine xp_read (i := 8) rfl (fun W => r_assign (en rfl (en rfl es))) rfl (fun _ _ _ hh => by first | exact bodyR_np hh | exact bodyY_np hh | exact hh) ?_
    refine xp_nil ?_
    refine hK5 _ _ ?_
    refine xc_gen (fun g hg => ?_)
    have s0 := (hg 0).trans (en rfl (en rfl (en rfl (en rfl (en rfl (en rfl (en rfl (en rfl (en rfl s0)))))))))
    have s1 := (hg 1).trans (en rfl (en rfl (en rfl (en rfl (en rfl (en rfl (en rfl (en rfl (en rfl s1)))))))))
    have s4 := (hg 4).trans (en rfl (en rfl es))
    have s5 := (hg 5).trans (en rfl es)
    have s6 := (hg 6).trans es
    have s7 := (hg 7).trans (en rfl (en rfl (en rfl (en rfl (en rfl (en rfl (en rfl (en rfl (en rfl s7)))))))))
    have s9 := (hg 9).trans (en rfl (en rfl (en rfl (en rfl (en rfl (en rfl (en rfl (en rfl (en rfl s9)))))))))
    clear hg
    refine xc_ret ?_
    refine bodyR_3 rfl s4 s5 s6 ?_
    exact ⟨rfl, h.drop⟩
theorem set_t {l r : Tr} {x : X} {c0 : Array Value} {a b s : Int} (hi : pl[i]? = some (some c0)) (hl : Has pl l) (hr : Has pl r) (hx : xOk x) (hb : Bd (l.xs ++ x :: r.xs)) (h : SatL E w (TC bt ba ro :: Ar ba pl fr :: R)) :
    Calls Try.prog 60 #[pT bt, .int .i64 (i : Int), .agg (ndC (xC x) l.root r.root a b s)] w (Ret fun _ w' => SatL E w' (TC bt ba ro :: Ar ba (pl.set i (some (cellOf l x r))) fr :: R)) := by
  have hok := hx.cells
  have h1 := l.ht_le
  have h2 := r.ht_le
  simp only [Bd, List.length_append, List.length_cons, sz_app, mks_app, sz, mks] at hb
  have eSz : ((sz (l.xs ++ x :: r.xs) : Nat) : Int) = sz l.xs + sz r.xs + xS x := by rw [sz_app, sz]; omega
  have eMk : ((mks (l.xs ++ x :: r.xs) : Nat) : Int) = mks l.xs + mks r.xs + xM x := by rw [mks_app, mks]; omega
  refine calls_x Try.func60 rfl Try.ntmps60 rfl ?_
  refine xc_gen (fun g hg => ?_)
  have s0 := (hg 0).trans arg0
  have s1 := (hg 1).trans arg1
  have s2 := (hg 2).trans arg2
  clear hg
  refine xc_seq (fun K hK1 => ?_)
  refine xc_region ?_
  refine x_boxA h s2 rfl ?_
  intro b5 w h
  refine xw_nil ?_
  refine hK1 _ _ ?_
  refine xc_gen (fun g hg => ?_)
  have s0 := (hg 0).trans (en rfl s0)
  have s1 := (hg 1).trans (en rfl s1)
  have s2 := (hg 2).trans (en rfl s2)
  have s5 := (hg 5).trans es
  clear hg
  refine xc_seq (fun K hK2 => ?_)
  refine xc_region ?_
  refine x_val (r_move s0) (nd_of rfl) rfl ?_
  refine x_val (r_fieldAddr (o' := 1) Try.underlying90 rfl Try.sizeOf3 rfl (en rfl s5) rfl) (nd_of rfl) rfl ?_
  refine x_val (r_load h 0 rfl Try.isAgg3 es (nd0 ‹_›)) (nd_of rfl) rfl ?_
  have h := h.f2
  have h := h.f2
  refine x_enter (r_call Try.call53 (.cons (en rfl (en rfl es)) (.cons es .nil))) (nd_of rfl) rfl (totals_t hl h) ?_
  rintro _ w ⟨rfl, h⟩
  refine x_val (r_move es) (nd_of rfl) rfl ?_
  refine x_val (r_extract es gc0) (nd_of rfl) rfl ?_
  refine x_val (r_extract (en rfl es) gc1) (nd_of rfl) rfl ?_
  refine x_val (r_extract (en rfl (en rfl es)) gc2) (nd_of rfl) rfl ?_
  refine x_val (r_assign (en rfl (en rfl es))) (nd_of rfl) rfl ?_
  refine x_val (r_assign (en rfl (en rfl es))) (nd_of rfl) rfl ?_
  refine x_val (r_assign (en rfl (en rfl es))) (nd_of rfl) rfl ?_
  refine xw_nil ?_
  refine hK2 _ _ ?_
  refine xc_gen (fun g hg => ?_)
  have s0 := (hg 0).trans (en rfl (en rfl (en rfl (en rfl (en rfl (en rfl (en rfl (en rfl (en rfl (en rfl (en rfl s0)))))))))))
  have s1 := (hg 1).trans (en rfl (en rfl (en rfl (en rfl (en rfl (en rfl (en rfl (en rfl (en rfl (en rfl (en rfl s1)))))))))))
  have s2 := (hg 2).trans (en rfl (en rfl (en rfl (en rfl (en rfl (en rfl (en rfl (en rfl (en rfl (en rfl (en rfl s2)))))))))))
  have s5 := (hg 5).trans (en rfl (en rfl (en rfl (en rfl (en rfl (en rfl (en rfl (en rfl (en rfl (en rfl (en rfl s5)))))))))))
  have s6 := (hg 6).trans (en rfl (en rfl es))
  have s7 := (hg 7).trans (en rfl es)
  have s8 := (hg 8).trans es
  clear hg
  refine xc_seq (fun K hK3 => ?_)
  refine xc_region ?_
  refine x_val (r_move s0) (nd_of rfl) rfl ?_
  refine x_val (r_fieldAddr (o' := 2) Try.underlying90 rfl Try.sizeOf3 rfl (en rfl s5) rfl) (nd_of rfl) rfl ?_
  refine x_val (r_load h 2 rfl Try.isAgg3 es (nd1 ‹_›)) (nd_of rfl) rfl ?_
  have h := h.f1
  have h := h.f1
  refine x_enter (r_call Try.call53 (.cons (en rfl (en rfl es)) (.cons es .nil))) (nd_of rfl) rfl (totals_t hr h) ?_
  rintro _ w ⟨rfl, h⟩
  refine x_val (r_move es) (nd_of rfl) rfl ?_
  refine x_val (r_extract es gc0) (nd_of rfl) rfl ?_
  refine x_val (r_extract (en rfl es) gc1) (nd_of rfl) rfl ?_
  refine x_val (r_extract (en rfl (en rfl es)) gc2) (nd_of rfl) rfl ?_
  refine x_val (r_assign (en rfl (en rfl es))) (nd_of rfl) rfl ?_
  refine x_val (r_assign (en rfl (en rfl es))) (nd_of rfl) rfl ?_
  refine x_val (r_assign (en rfl (en rfl es))) (nd_of rfl) rfl ?_
  refine xw_nil ?_
  refine hK3 _ _ ?_
  refine xc_gen (fun g hg => ?_)
  have s0 := (hg 0).trans (en rfl (en rfl (en rfl (en rfl (en rfl (en rfl (en rfl (en rfl (en rfl (en rfl (en rfl s0)))))))))))
  have s1 := (hg 1).trans (en rfl (en rfl (en rfl (en rfl (en rfl (en rfl (en rfl (en rfl (en rfl (en rfl (en rfl s1)))))))))))
  have s2 := (hg 2).trans (en rfl (en rfl (en rfl (en rfl (en rfl (en rfl (en rfl (en rfl (en rfl (en rfl (en rfl s2)))))))))))
  have s5 := (hg 5).trans (en rfl (en rfl (en rfl (en rfl (en rfl (en rfl (en rfl (en rfl (en rfl (en rfl (en rfl s5)))))))))))
  have s6 := (hg 6).trans (en rfl (en rfl (en rfl (en rfl (en rfl (en rfl (en rfl (en rfl (en rfl (en rfl (en rfl s6)))))))))))
  have s7 := (hg 7).trans (en rfl (en rfl (en rfl (en rfl (en rfl (en rfl (en rfl (en rfl (en rfl (en rfl (en rfl s7)))))))))))
  have s8 := (hg 8).trans (en rfl (en rfl (en rfl (en rfl (en rfl (en rfl (en rfl (en rfl (en rfl (en rfl (en rfl s8)))))))))))
  have s9 := (hg 9).trans (en rfl (en rfl es))
  have s10 := (hg 10).trans (en rfl es)
  have s11 := (hg 11).trans es
  clear hg
  refine xc_seq (fun K hK4 => ?_)
  refine xc_plan 13 [(0, 2), (1, 2), (2, 2), (3, 2), (4, 1), (5, 2), (6, 1), (7, 0), (8, 2), (9, 2), (10, 2), (11, 2), (12, 2)] (by kernel_rfl) rfl (by kernel_rfl) h ?_
  have h := h.drew
  refine xp_read (i := 0) rfl (fun W => r_move s0) rfl (fun _ _ _ hh => by first | exact bodyR_np hh | exact bodyY_np hh | exact hh) ?_
  refine xp_read (i := 1) rfl (fun W => r_nilCheck es) rfl (fun _ _ _ hh => by first | exact bodyR_np hh | exact bodyY_np hh | exact hh) ?_
  refine xp_read (i := 2) rfl (fun W => r_fieldAddr (o' := 0) Try.underlying83 rfl Try.sizeOf78 rfl es rfl) rfl (fun _ _ _ hh => by first | exact bodyR_np hh | exact bodyY_np hh | exact hh) ?_
  refine xp_read (i := 3) rfl (fun W => r_fieldAddr (o' := 0) Try.underlying78 rfl Try.sizeOf74 rfl es rfl) rfl (fun _ _ _ hh => by first | exact bodyR_np hh | exact bodyY_np hh | exact hh) ?_
  refine xp_load (i := 4) rfl (fun W hW => r_load hW 0 rfl Try.isAgg74 es gc0) rfl (fun _ _ _ hh => by first | exact bodyR_np hh | exact bodyY_np hh | exact hh) ?_
  refine xp_read (i := 5) rfl (fun W => r_fieldAddr (o' := 0) Try.underlying90 rfl Try.sizeOf38 rfl (en rfl (en rfl (en rfl (en rfl (en rfl s5))))) rfl) rfl (fun _ _ _ hh => by first | exact bodyR_np hh | exact bodyY_np hh | exact hh) ?_
  refine xp_load (i := 6) rfl (fun W hW => r_load hW 2 rfl Try.isAgg38 es ndx0) rfl (fun _ _ _ hh => by first | exact bodyR_np hh | exact bodyY_np hh | exact hh) ?_
  refine xp_enter (i := 7) rfl (r_callv Try.call37 (en rfl (en rfl es)) (.cons es .nil)) rfl (measure_ok hx h) ?_
  rintro _ w ⟨rfl, h⟩
  refine ⟨(fun _ => h), ?_⟩
  refine xp_read (i := 8) rfl (fun W => r_move es) rfl (fun _ _ _ hh => by first | exact bodyR_np hh | exact bodyY_np hh | exact hh) ?_
  refine xp_read (i := 9) rfl (fun W => r_extract es gc0) rfl (fun _ _ _ hh => by first | exact bodyR_np hh | exact bodyY_np hh | exact hh) ?_
  refine xp_read (i := 10) rfl (fun W => r_extract (en rfl es) gc1) rfl (fun _ _ _ hh => by first | exact bodyR_np hh | exact bodyY_np hh | exact hh) ?_
  refine xp_read (i := 11) rfl (fun W => r_assign (en rfl es)) rfl (fun _ _ _ hh => by first | exact bodyR_np hh | exact bodyY_np hh | exact hh) ?_
  refine xp_read (i := 12) rfl (fun W => r_assign (en rfl es)) rfl (fun _ _ _ hh => by first | exact bodyR_np hh | exact bodyY_np hh | exact hh) ?_
  refine xp_nil ?_
  refine hK4 _ _ ?_
  refine xc_gen (fun g hg => ?_)
  have s0 := (hg 0).trans (en rfl (en rfl (en rfl (en rfl (en rfl (en rfl (en rfl (en rfl (en rfl (en rfl (en rfl (en rfl (en rfl s0)))))))))))))
  have s1 := (hg 1).trans (en rfl (en rfl (en rfl (en rfl (en rfl (en rfl (en rfl (en rfl (en rfl (en rfl (en rfl (en rfl (en rfl s1)))))))))))))
  have s2 := (hg 2).trans (en rfl (en rfl (en rfl (en rfl (en rfl (en rfl (en rfl (en rfl (en rfl (en rfl (en rfl (en rfl (en rfl s2)))))))))))))
  have s5 := (hg 5).trans (en rfl (en rfl (en rfl (en rfl (en rfl (en rfl (en rfl (en rfl (en rfl (en rfl (en rfl (en rfl (en rfl s5)))))))))))))
  have s6 := (hg 6).trans (en rfl (en rfl (en rfl (en rfl (en rfl (en rfl (en rfl (en rfl (en rfl (en rfl (en rfl (en rfl (en rfl s6)))))))))))))
  have s7 := (hg 7).trans (en rfl (en rfl (en rfl (en rfl (en rfl (en rfl (en rfl (en rfl (en rfl (en rfl (en rfl (en rfl (en rfl s7)))))))))))))
  have s8 := (hg 8).trans (en rfl (en rfl (en rfl (en rfl (en rfl (en rfl (en rfl (en rfl (en rfl (en rfl (en rfl (en rfl (en rfl s8)))))))))))))
  have s9 := (hg 9).trans (en rfl (en rfl (en rfl (en rfl (en rfl (en rfl (en rfl (en rfl (en rfl (en rfl (en rfl (en rfl (en rfl s9)))))))))))))
  have s10 := (hg 10).trans (en rfl (en rfl (en rfl (en rfl (en rfl (en rfl (en rfl (en rfl (en rfl (en rfl (en rfl (en rfl (en rfl s10)))))))))))))
  have s11 := (hg 11).trans (en rfl (en rfl (en rfl (en rfl (en rfl (en rfl (en rfl (en rfl (en rfl (en rfl (en rfl (en rfl (en rfl s11)))))))))))))
  have s12 := (hg 12).trans (en rfl es)
  have s13 := (hg 13).trans es
  clear hg
  refine xc_seq (fun K hK5 => ?_)
  refine xc_region ?_
  refine x_val (r_move s6) (nd_of rfl) rfl ?_
  refine x_val (r_move (en rfl s9)) (nd_of rfl) rfl ?_
  refine x_val (r_max (en rfl es) es (show _ = (((max l.ht r.ht : Nat) : Int) : Int) from by (split <;> omega))) (nd_of rfl) rfl ?_
  refine x_val (r_add ec es (show _ = (((1 + max l.ht r.ht : Nat) : Int) : Int) from by omega) (by unfold I64; omega)) (nd_of rfl) rfl ?_
  refine x_val (r_move (en rfl (en rfl (en rfl (en rfl s7))))) (nd_of rfl) rfl ?_
  refine x_val (r_move (en rfl (en rfl (en rfl (en rfl (en rfl s10)))))) (nd_of rfl) rfl ?_
  refine x_val (r_add (en rfl es) es (show _ = ((sz l.xs : Int) + sz r.xs : Int) from by rfl) (by unfold I64; omega)) (nd_of rfl) rfl ?_
  refine x_val (r_move (en rfl (en rfl (en rfl (en rfl (en rfl (en rfl (en rfl s12)))))))) (nd_of rfl) rfl ?_
  refine x_val (r_add (en rfl es) es (show _ = (((sz (l.xs ++ x :: r.xs) : Nat) : Int) : Int) from by (rw [eSz])) (by unfold I64; omega)) (nd_of rfl) rfl ?_
  refine x_val (r_move (en rfl (en rfl (en rfl (en rfl (en rfl (en rfl (en rfl (en rfl (en rfl s8)))))))))) (nd_of rfl) rfl ?_
  refine x_val (r_move (en rfl (en rfl (en rfl (en rfl (en rfl (en rfl (en rfl (en rfl (en rfl (en rfl s11))))))))))) (nd_of rfl) rfl ?_
  refine x_val (r_add (en rfl es) es (show _ = ((mks l.xs : Int) + mks r.xs : Int) from by rfl) (by unfold I64; omega)) (nd_of rfl) rfl ?_
  refine x_val (r_move (en rfl (en rfl (en rfl (en rfl (en rfl (en rfl (en rfl (en rfl (en rfl (en rfl (en rfl (en rfl s13))))))))))))) (nd_of rfl) rfl ?_
  refine x_val (r_add (en rfl es) es (show _ = (((mks (l.xs ++ x :: r.xs) : Nat) : Int) : Int) from by (rw [eMk])) (by unfold I64; omega)) (nd_of rfl) rfl ?_
  refine x_val (r_fieldAddr (o' := 3) Try.underlying90 rfl Try.sizeOf3 rfl (en rfl (en rfl (en rfl (en rfl (en rfl (en rfl (en rfl (en rfl (en rfl (en rfl (en rfl (en rfl (en rfl (en rfl s5)))))))))))))) rfl) (nd_of rfl) rfl ?_
  refine x_st (r_store h 2 rfl Try.sizeOf3 es (en rfl (en rfl (en rfl (en rfl (en rfl (en rfl (en rfl (en rfl (en rfl (en rfl (en rfl es))))))))))) rfl (nd2 ‹_›)) rfl (h.u2 (ns2 ‹_›)) ?_
  intro w h
  refine x_val (r_fieldAddr (o' := 4) Try.underlying90 rfl Try.sizeOf3 rfl (en rfl (en rfl (en rfl (en rfl (en rfl (en rfl (en rfl (en rfl (en rfl (en rfl (en rfl (en rfl (en rfl (en rfl (en rfl s5))))))))))))))) rfl) (nd_of rfl) rfl ?_
  refine x_st (r_store h 2 rfl Try.sizeOf3 es (en rfl (en rfl (en rfl (en rfl (en rfl (en rfl (en rfl es))))))) rfl (nd3 ‹_›)) rfl (h.u2 (ns3 ‹_›)) ?_
  intro w h
  refine x_val (r_fieldAddr (o' := 5) Try.underlying90 rfl Try.sizeOf3 rfl (en rfl (en rfl (en rfl (en rfl (en rfl (en rfl (en rfl (en rfl (en rfl (en rfl (en rfl (en rfl (en rfl (en rfl (en rfl (en rfl s5)))))))))))))))) rfl) (nd_of rfl) rfl ?_
  refine x_st (r_store h 2 rfl Try.sizeOf3 es (en rfl (en rfl (en rfl es))) rfl (nd4 ‹_›)) rfl (h.u2 (ns4 ‹_›)) ?_
  intro w h
  refine xw_nil ?_
  refine hK5 _ _ ?_
  refine xc_gen (fun g hg => ?_)
  have s0 := (hg 0).trans (en rfl (en rfl (en rfl (en rfl (en rfl (en rfl (en rfl (en rfl (en rfl (en rfl (en rfl (en rfl (en rfl (en rfl (en rfl (en rfl (en rfl s0)))))))))))))))))
  have s1 := (hg 1).trans (en rfl (en rfl (en rfl (en rfl (en rfl (en rfl (en rfl (en rfl (en rfl (en rfl (en rfl (en rfl (en rfl (en rfl (en rfl (en rfl (en rfl s1)))))))))))))))))
  have s2 := (hg 2).trans (en rfl (en rfl (en rfl (en rfl (en rfl (en rfl (en rfl (en rfl (en rfl (en rfl (en rfl (en rfl (en rfl (en rfl (en rfl (en rfl (en rfl s2)))))))))))))))))
  have s5 := (hg 5).trans (en rfl (en rfl (en rfl (en rfl (en rfl (en rfl (en rfl (en rfl (en rfl (en rfl (en rfl (en rfl (en rfl (en rfl (en rfl (en rfl (en rfl s5)))))))))))))))))
  have s6 := (hg 6).trans (en rfl (en rfl (en rfl (en rfl (en rfl (en rfl (en rfl (en rfl (en rfl (en rfl (en rfl (en rfl (en rfl (en rfl (en rfl (en rfl (en rfl s6)))))))))))))))))
  have s7 := (hg 7).trans (en rfl (en rfl (en rfl (en rfl (en rfl (en rfl (en rfl (en rfl (en rfl (en rfl (en rfl (en rfl (en rfl (en rfl (en rfl (en rfl (en rfl s7)))))))))))))))))
  have s8 := (hg 8).trans (en rfl (en rfl (en rfl (en rfl (en rfl (en rfl (en rfl (en rfl (en rfl (en rfl (en rfl (en rfl (en rfl (en rfl (en rfl (en rfl (en rfl s8)))))))))))))))))
  have s9 := (hg 9).trans (en rfl (en rfl (en rfl (en rfl (en rfl (en rfl (en rfl (en rfl (en rfl (en rfl (en rfl (en rfl (en rfl (en rfl (en rfl (en rfl (en rfl s9)))))))))))))))))
  have s10 := (hg 10).trans (en rfl (en rfl (en rfl (en rfl (en rfl (en rfl (en rfl (en rfl (en rfl (en rfl (en rfl (en rfl (en rfl (en rfl (en rfl (en rfl (en rfl s10)))))))))))))))))
  have s11 := (hg 11).trans (en rfl (en rfl (en rfl (en rfl (en rfl (en rfl (en rfl (en rfl (en rfl (en rfl (en rfl (en rfl (en rfl (en rfl (en rfl (en rfl (en rfl s11)))))))))))))))))
  have s12 := (hg 12).trans (en rfl (en rfl (en rfl (en rfl (en rfl (en rfl (en rfl (en rfl (en rfl (en rfl (en rfl (en rfl (en rfl (en rfl (en rfl (en rfl (en rfl s12)))))))))))))))))
  have s13 := (hg 13).trans (en rfl (en rfl (en rfl (en rfl (en rfl (en rfl (en rfl (en rfl (en rfl (en rfl (en rfl (en rfl (en rfl (en rfl (en rfl (en rfl (en rfl s13)))))))))))))))))
  clear hg
  have hS := h
  have hS := (hS.f1).drop
  refine xc_plan 6 [(0, 2), (1, 2), (2, 2), (3, 1), (4, 2), (5, 1), (6, 0)] (by kernel_rfl) rfl (by kernel_rfl) hS ?_
  have h := h.drew
  refine xp_read (i := 0) rfl (fun W => r_move s0) rfl (fun _ _ _ hh => by first | exact bodyR_np hh | exact bodyY_np hh | exact hh) ?_
  refine xp_read (i := 1) rfl (fun W => r_nilCheck es) rfl (fun _ _ _ hh => by first | exact bodyR_np hh | exact bodyY_np hh | exact hh) ?_
  refine xp_read (i := 2) rfl (fun W => r_fieldAddr (o' := 3) Try.underlying83 rfl Try.sizeOf81 rfl es rfl) rfl (fun _ _ _ hh => by first | exact bodyR_np hh | exact bodyY_np hh | exact hh) ?_
  refine xp_load (i := 3) rfl (fun W hW => r_load hW 0 rfl Try.isAgg81 es gc3) rfl (fun _ _ _ hh => by first | exact bodyR_np hh | exact bodyY_np hh | exact hh) ?_
  refine xp_read (i := 4) rfl (fun W => r_move (en rfl (en rfl (en rfl (en rfl s1))))) rfl (fun _ _ _ hh => by first | exact bodyR_np hh | exact bodyY_np hh | exact hh) ?_
  refine xp_load (i := 5) rfl (fun W hW => r_loadAgg hW 1 rfl Try.isAgg90 Try.sizeOf90 (en rfl (en rfl (en rfl (en rfl (en rfl s5))))) (Ok.le (by first | assumption | exact Ok.node (by assumption) | exact xOk.cells (by assumption) | exact ChOk.ok (by assumption))) (ext_full (Ok.size (by first | assumption | exact Ok.node (by assumption) | exact xOk.cells (by assumption) | exact ChOk.ok (by assumption))))) rfl (fun _ _ _ hh => by first | exact bodyR_np hh | exact bodyY_np hh | exact hh) ?_
  have h := h.f1
  refine xp_enter (i := 6) rfl (r_call Try.call57 (.cons (en rfl (en rfl es)) (.cons (en rfl es) (.cons es .nil)))) rfl (put_ok hi (Ok.node hok) h) ?_
  rintro _ w ⟨rfl, h⟩
  refine ⟨(fun hh => absurd rfl hh), ?_⟩
  refine xp_nil ?_
  refine bodyR_0 rfl ?_
  exact (h.f2.drop).f1
end
end Go.Proofs.Ytonnijghdlakfaa
