/-
A tree cut at a place: the walk of split.
-/
import Derived.Test.YtmfkhfmidnojhaaT5
import Derived.Test.YtmfkhfmidnojhaaX8
namespace Go.Proofs.Ytmfkhfmidnojhaa
open Go Go.RowKit
section
variable {E : Env} {bt ba : Nat} {ro : Int}
theorem split_t : ∀ (t : Tr) {R : List SProp} {w : World} {pl : Pl} {fr : List Nat} {i : Nat}, Has pl t → t.idx.Nodup → Bd t.xs → Ps t.xs → i ≤ 1000000000000 → pl.length ≤ 100000000 → SatL E w (TC bt ba ro :: Ar ba pl fr :: R) →
    Calls Try.prog 54 #[pT bt, .int .i64 t.root, .int .i64 (i : Int)] w (Ret fun v w' => ∃ (tl tr : Tr) (pl' : Pl) (fr' : List Nat), v = .tuple #[.int .i64 tl.root, .int .i64 tr.root] ∧ Sp pl fr pl' fr' t tl tr ∧ tl.xs = (splitL t.xs i).1 ∧ tr.xs = (splitL t.xs i).2 ∧ SatL E w' (TC bt ba ro :: Ar ba pl' fr' :: R)) := by
  intro t
  induction t with
  | nil =>
    intro R w pl fr i _ _ _ _ _ _ h
    refine calls_x Try.func54 rfl Try.ntmps54 rfl ?_
    refine xc_gen (fun g hg => ?_)
    have s0 := (hg 0).trans arg0
    have s1 := (hg 1).trans arg1
    have s2 := (hg 2).trans arg2
    clear hg
    refine xc_seq (fun K hK1 => ?_)
    refine xc_region ?_
    refine x_val (r_assign ec) (nd_of rfl) rfl ?_
    refine x_val (r_assign ec) (nd_of rfl) rfl ?_
    refine xw_nil ?_
    refine hK1 _ _ ?_
    refine xc_gen (fun g hg => ?_)
    have s0 := (hg 0).trans (en rfl (en rfl s0))
    have s1 := (hg 1).trans (en rfl (en rfl s1))
    have s2 := (hg 2).trans (en rfl (en rfl s2))
    have s6 := (hg 6).trans (en rfl es)
    have s7 := (hg 7).trans es
    clear hg
    refine xc_seq (fun K hK2 => ?_)
    refine xc_seq (fun K hK3 => ?_)
    refine xc_region ?_
    refine x_val (r_move s1) (nd_of rfl) rfl ?_
    refine x_val (r_eql es ec (decide_eq_true (by rfl))) (nd_of rfl) rfl ?_
    refine xw_nil ?_
    refine hK3 _ _ ?_
    refine xc_gen (fun g hg => ?_)
    have s0 := (hg 0).trans (en rfl (en rfl s0))
    have s1 := (hg 1).trans (en rfl (en rfl s1))
    have s2 := (hg 2).trans (en rfl (en rfl s2))
    have s6 := (hg 6).trans (en rfl (en rfl s6))
    have s7 := (hg 7).trans (en rfl (en rfl s7))
    have s19 := (hg 19).trans es
    clear hg
    refine xc_cond s19 (fun _ => ?_) (fun hc => by cases hc)
    refine xc_seq (fun K hK4 => ?_)
    refine xc_region ?_
    refine x_val (r_assign ec) (nd_of rfl) rfl ?_
    refine x_val (r_assign ec) (nd_of rfl) rfl ?_
    refine xw_nil ?_
    refine hK4 _ _ ?_
    refine xc_gen (fun g hg => ?_)
    have s0 := (hg 0).trans (en rfl (en rfl s0))
    have s1 := (hg 1).trans (en rfl (en rfl s1))
    have s2 := (hg 2).trans (en rfl (en rfl s2))
    have s6 := (hg 6).trans (en rfl es)
    have s7 := (hg 7).trans es
    have s19 := (hg 19).trans (en rfl (en rfl s19))
    clear hg
    refine xc_ret ?_
    refine bodyR_2 rfl s6 s7 ?_
    exact ⟨.nil, .nil, pl, fr, rfl, ⟨trivial, trivial, by simp [Tr.idx], by simp [Tr.idx], Keep.refl, by simp [Tr.xs], .inl (Nat.le_refl _)⟩, rfl, rfl, h⟩
  | node k l x r ihl ihr =>
    intro R w pl fr i ht hn hb hp hi hpl h
    have hox := ht.2.1.cells
    have hni := List.nodup_cons.1 hn
    have hna := List.nodup_append.1 hni.2
    have hbl := hb
    simp only [Tr.xs] at hbl
    have hb0 := hbl
    simp only [Bd, List.length_append, List.length_cons, sz_app, mks_app, sz, mks] at hb0
    have hpl' : Ps l.xs := fun y hy => hp y (by simp [Tr.xs, hy])
    have hpr : Ps r.xs := fun y hy => hp y (by simp [Tr.xs, hy])
    have hpx : 0 < xS x := hp x (by simp [Tr.xs])
    have hle1 := splitL_le l.xs i
    have hle2 := splitL_le r.xs (i - sz l.xs - xS x)
    change Calls _ _ #[pT bt, .int .i64 (k : Int), .int .i64 (i : Int)] w _
    refine calls_x Try.func54 rfl Try.ntmps54 rfl ?_
    refine xc_gen (fun g hg => ?_)
    have s0 := (hg 0).trans arg0
    have s1 := (hg 1).trans arg1
    have s2 := (hg 2).trans arg2
    clear hg
    refine xc_seq (fun K hK1 => ?_)
    refine xc_region ?_
    refine x_val (r_assign ec) (nd_of rfl) rfl ?_
    refine x_val (r_assign ec) (nd_of rfl) rfl ?_
    refine xw_nil ?_
    refine hK1 _ _ ?_
    refine xc_gen (fun g hg => ?_)
    have s0 := (hg 0).trans (en rfl (en rfl s0))
    have s1 := (hg 1).trans (en rfl (en rfl s1))
    have s2 := (hg 2).trans (en rfl (en rfl s2))
    have s6 := (hg 6).trans (en rfl es)
    have s7 := (hg 7).trans es
    clear hg
    refine xc_seq (fun K hK2 => ?_)
    refine xc_seq (fun K hK3 => ?_)
    refine xc_region ?_
    refine x_val (r_move s1) (nd_of rfl) rfl ?_
    refine x_val (r_eql es ec (decide_eq_false (by omega))) (nd_of rfl) rfl ?_
    refine xw_nil ?_
    refine hK3 _ _ ?_
    refine xc_gen (fun g hg => ?_)
    have s0 := (hg 0).trans (en rfl (en rfl s0))
    have s1 := (hg 1).trans (en rfl (en rfl s1))
    have s2 := (hg 2).trans (en rfl (en rfl s2))
    have s6 := (hg 6).trans (en rfl (en rfl s6))
    have s7 := (hg 7).trans (en rfl (en rfl s7))
    have s19 := (hg 19).trans es
    clear hg
    refine xc_cond s19 (fun hc => by cases hc) (fun _ => ?_)
    refine xc_skip ?_
    refine hK2 _ _ ?_
    refine xc_seq (fun K hK4 => ?_)
    refine xc_region ?_
    refine x_val (r_move s0) (nd_of rfl) rfl ?_
    refine x_val (r_move (en rfl s1)) (nd_of rfl) rfl ?_
    refine x_enter (r_call Try.call71 (.cons (en rfl es) (.cons es .nil))) (nd_of rfl) rfl (at_t ht.1 h) ?_
    rintro _ w ⟨rfl, h⟩
    refine x_declA h Try.zeroValue103 Try.sizeOf103 rfl (en rfl es) (by first | assumption | exact Ok.node (by assumption) | exact xOk.cells (by assumption) | exact ChOk.ok (by assumption)) rfl ?_
    intro b8 w h
    refine xw_nil ?_
    refine hK4 _ _ ?_
    refine xc_gen (fun g hg => ?_)
    have s0 := (hg 0).trans (en rfl (en rfl (en rfl (en rfl s0))))
    have s1 := (hg 1).trans (en rfl (en rfl (en rfl (en rfl s1))))
    have s2 := (hg 2).trans (en rfl (en rfl (en rfl (en rfl s2))))
    have s6 := (hg 6).trans (en rfl (en rfl (en rfl (en rfl s6))))
    have s7 := (hg 7).trans (en rfl (en rfl (en rfl (en rfl s7))))
    have s8 := (hg 8).trans es
    have s19 := (hg 19).trans (en rfl (en rfl (en rfl (en rfl s19))))
    clear hg
    refine xc_seq (fun K hK5 => ?_)
    refine xc_region ?_
    refine x_val (r_move s0) (nd_of rfl) rfl ?_
    refine x_val (r_fieldAddr (o' := 33) Try.underlying103 rfl Try.sizeOf3 rfl (en rfl s8) rfl) (nd_of rfl) rfl ?_
    refine x_val (r_load h 0 rfl Try.isAgg3 es (nd0 ‹_›)) (nd_of rfl) rfl ?_
    have h := h.f2
    have h := h.f2
    refine x_enter (r_call Try.call53 (.cons (en rfl (en rfl es)) (.cons es .nil))) (nd_of rfl) rfl (totals_t ht.2.2.1 h) ?_
    rintro _ w ⟨rfl, h⟩
    refine x_val (r_move es) (nd_of rfl) rfl ?_
    refine x_val (r_extract es gc0) (nd_of rfl) rfl ?_
    refine x_val (r_extract (en rfl es) gc1) (nd_of rfl) rfl ?_
    refine x_val (r_extract (en rfl (en rfl es)) gc2) (nd_of rfl) rfl ?_
    refine x_val (r_assign (en rfl (en rfl es))) (nd_of rfl) rfl ?_
    refine x_val (r_assign (en rfl (en rfl es))) (nd_of rfl) rfl ?_
    refine x_val (r_assign (en rfl (en rfl es))) (nd_of rfl) rfl ?_
    refine xw_nil ?_
    refine hK5 _ _ ?_
    refine xc_gen (fun g hg => ?_)
    have s0 := (hg 0).trans (en rfl (en rfl (en rfl (en rfl (en rfl (en rfl (en rfl (en rfl (en rfl (en rfl (en rfl s0)))))))))))
    have s1 := (hg 1).trans (en rfl (en rfl (en rfl (en rfl (en rfl (en rfl (en rfl (en rfl (en rfl (en rfl (en rfl s1)))))))))))
    have s2 := (hg 2).trans (en rfl (en rfl (en rfl (en rfl (en rfl (en rfl (en rfl (en rfl (en rfl (en rfl (en rfl s2)))))))))))
    have s6 := (hg 6).trans (en rfl (en rfl (en rfl (en rfl (en rfl (en rfl (en rfl (en rfl (en rfl (en rfl (en rfl s6)))))))))))
    have s7 := (hg 7).trans (en rfl (en rfl (en rfl (en rfl (en rfl (en rfl (en rfl (en rfl (en rfl (en rfl (en rfl s7)))))))))))
    have s8 := (hg 8).trans (en rfl (en rfl (en rfl (en rfl (en rfl (en rfl (en rfl (en rfl (en rfl (en rfl (en rfl s8)))))))))))
    have s10 := (hg 10).trans (en rfl es)
    have s19 := (hg 19).trans (en rfl (en rfl (en rfl (en rfl (en rfl (en rfl (en rfl (en rfl (en rfl (en rfl (en rfl s19)))))))))))
    clear hg
    refine xc_seq (fun K hK6 => ?_)
    refine xc_plan 13 [(0, 2), (1, 2), (2, 2), (3, 2), (4, 1), (5, 2), (6, 1), (7, 0), (8, 2), (9, 2), (10, 2), (11, 2), (12, 2)] (by kernel_rfl) rfl (by kernel_rfl) h ?_
    have h := h.drew
    refine xp_read (i := 0) rfl (fun W => r_move s0) rfl (fun _ _ _ hh => by first | exact bodyR_np hh | exact bodyY_np hh | exact hh) ?_
    refine xp_read (i := 1) rfl (fun W => r_nilCheck es) rfl (fun _ _ _ hh => by first | exact bodyR_np hh | exact bodyY_np hh | exact hh) ?_
    refine xp_read (i := 2) rfl (fun W => r_fieldAddr (o' := 0) Try.underlying93 rfl Try.sizeOf88 rfl es rfl) rfl (fun _ _ _ hh => by first | exact bodyR_np hh | exact bodyY_np hh | exact hh) ?_
    refine xp_read (i := 3) rfl (fun W => r_fieldAddr (o' := 0) Try.underlying88 rfl Try.sizeOf81 rfl es rfl) rfl (fun _ _ _ hh => by first | exact bodyR_np hh | exact bodyY_np hh | exact hh) ?_
    refine xp_load (i := 4) rfl (fun W hW => r_load hW 0 rfl Try.isAgg81 es gc0) rfl (fun _ _ _ hh => by first | exact bodyR_np hh | exact bodyY_np hh | exact hh) ?_
    refine xp_read (i := 5) rfl (fun W => r_fieldAddr (o' := 0) Try.underlying103 rfl Try.sizeOf58 rfl (en rfl (en rfl (en rfl (en rfl (en rfl s8))))) rfl) rfl (fun _ _ _ hh => by first | exact bodyR_np hh | exact bodyY_np hh | exact hh) ?_
    refine xp_load (i := 6) rfl (fun W hW => r_loadAgg hW 2 rfl Try.isAgg58 Try.sizeOf58 es (ndle ‹_›) (ndx ‹_›)) rfl (fun _ _ _ hh => by first | exact bodyR_np hh | exact bodyY_np hh | exact hh) ?_
    refine xp_enter (i := 7) rfl (r_callv Try.call46 (en rfl (en rfl es)) (.cons es .nil)) rfl (measure_ok ht.2.1 h) ?_
    rintro _ w ⟨rfl, h⟩
    refine ⟨(fun _ => h), ?_⟩
    refine xp_read (i := 8) rfl (fun W => r_move es) rfl (fun _ _ _ hh => by first | exact bodyR_np hh | exact bodyY_np hh | exact hh) ?_
    refine xp_read (i := 9) rfl (fun W => r_extract es gc0) rfl (fun _ _ _ hh => by first | exact bodyR_np hh | exact bodyY_np hh | exact hh) ?_
    refine xp_read (i := 10) rfl (fun W => r_extract (en rfl es) gc1) rfl (fun _ _ _ hh => by first | exact bodyR_np hh | exact bodyY_np hh | exact hh) ?_
    refine xp_read (i := 11) rfl (fun W => r_assign (en rfl es)) rfl (fun _ _ _ hh => by first | exact bodyR_np hh | exact bodyY_np hh | exact hh) ?_
    refine xp_read (i := 12) rfl (fun W => r_assign (en rfl es)) rfl (fun _ _ _ hh => by first | exact bodyR_np hh | exact bodyY_np hh | exact hh) ?_
    refine xp_nil ?_
    refine hK6 _ _ ?_
    refine xc_gen (fun g hg => ?_)
    have s0 := (hg 0).trans (en rfl (en rfl (en rfl (en rfl (en rfl (en rfl (en rfl (en rfl (en rfl (en rfl (en rfl (en rfl (en rfl s0)))))))))))))
    have s1 := (hg 1).trans (en rfl (en rfl (en rfl (en rfl (en rfl (en rfl (en rfl (en rfl (en rfl (en rfl (en rfl (en rfl (en rfl s1)))))))))))))
    have s2 := (hg 2).trans (en rfl (en rfl (en rfl (en rfl (en rfl (en rfl (en rfl (en rfl (en rfl (en rfl (en rfl (en rfl (en rfl s2)))))))))))))
    have s6 := (hg 6).trans (en rfl (en rfl (en rfl (en rfl (en rfl (en rfl (en rfl (en rfl (en rfl (en rfl (en rfl (en rfl (en rfl s6)))))))))))))
    have s7 := (hg 7).trans (en rfl (en rfl (en rfl (en rfl (en rfl (en rfl (en rfl (en rfl (en rfl (en rfl (en rfl (en rfl (en rfl s7)))))))))))))
    have s8 := (hg 8).trans (en rfl (en rfl (en rfl (en rfl (en rfl (en rfl (en rfl (en rfl (en rfl (en rfl (en rfl (en rfl (en rfl s8)))))))))))))
    have s10 := (hg 10).trans (en rfl (en rfl (en rfl (en rfl (en rfl (en rfl (en rfl (en rfl (en rfl (en rfl (en rfl (en rfl (en rfl s10)))))))))))))
    have s12 := (hg 12).trans (en rfl es)
    have s19 := (hg 19).trans (en rfl (en rfl (en rfl (en rfl (en rfl (en rfl (en rfl (en rfl (en rfl (en rfl (en rfl (en rfl (en rfl s19)))))))))))))
    clear hg
    refine xc_seq (fun K hK7 => ?_)
    refine xc_block ?_
    refine xc_seq (fun K hK8 => ?_)
    refine xc_region ?_
    refine x_val (r_move s2) (nd_of rfl) rfl ?_
    refine x_val (r_move (en rfl s10)) (nd_of rfl) rfl ?_
    refine x_val (r_leq (en rfl es) es rfl) (nd_of rfl) rfl ?_
    refine x_val (r_assign es) (nd_of rfl) rfl ?_
    refine xw_nil ?_
    refine hK8 _ _ ?_
    refine xc_gen (fun g hg => ?_)
    have s0 := (hg 0).trans (en rfl (en rfl (en rfl (en rfl s0))))
    have s1 := (hg 1).trans (en rfl (en rfl (en rfl (en rfl s1))))
    have s2 := (hg 2).trans (en rfl (en rfl (en rfl (en rfl s2))))
    have s6 := (hg 6).trans (en rfl (en rfl (en rfl (en rfl s6))))
    have s7 := (hg 7).trans (en rfl (en rfl (en rfl (en rfl s7))))
    have s8 := (hg 8).trans (en rfl (en rfl (en rfl (en rfl s8))))
    have s10 := (hg 10).trans (en rfl (en rfl (en rfl (en rfl s10))))
    have s12 := (hg 12).trans (en rfl (en rfl (en rfl (en rfl s12))))
    have s19 := (hg 19).trans (en rfl (en rfl (en rfl (en rfl s19))))
    have s42 := (hg 42).trans es
    clear hg
    refine xc_cond s42 (fun hc => ?_) (fun hc => ?_)
    ·
      refine xc_seq (fun K hK9 => ?_)
      have hd := of_decide_eq_true hc
      have hil : i ≤ sz l.xs := by omega
      refine xc_region ?_
      refine x_val (r_move s0) (nd_of rfl) rfl ?_
      refine x_val (r_fieldAddr (o' := 33) Try.underlying103 rfl Try.sizeOf3 rfl (en rfl s8) rfl) (nd_of rfl) rfl ?_
      refine x_val (r_load h 2 rfl Try.isAgg3 es (nd0 ‹_›)) (nd_of rfl) rfl ?_
      refine x_val (r_move (en rfl (en rfl (en rfl s2)))) (nd_of rfl) rfl ?_
      have h := h.f1
      have h := h.f1
      refine x_enter (r_call Try.call54 (.cons (en rfl (en rfl (en rfl es))) (.cons (en rfl es) (.cons es .nil)))) (nd_of rfl) rfl (ihl (i := i) ht.2.2.1 hna.1 hbl.left hpl' hi hpl h) ?_
      rintro _ w ⟨tl, tr, pl1, fr1, rfl, hsp, hx1, hx2, h⟩
      have hbj : Bd (tr.xs ++ x :: r.xs) := by rw [hx2]; simp only [Bd, List.length_append, List.length_cons, sz_app, mks_app, sz, mks]; omega
      obtain ⟨hj, hk⟩ := Sp.goL ht hn hsp hbj
      refine x_val (r_move es) (nd_of rfl) rfl ?_
      refine x_val (r_extract es gc0) (nd_of rfl) rfl ?_
      refine x_val (r_extract (en rfl es) gc1) (nd_of rfl) rfl ?_
      refine x_val (r_assign (en rfl es)) (nd_of rfl) rfl ?_
      refine x_val (r_assign (en rfl es)) (nd_of rfl) rfl ?_
      refine xw_nil ?_
      refine hK9 _ _ ?_
      refine xc_gen (fun g hg => ?_)
      have s0 := (hg 0).trans (en rfl (en rfl (en rfl (en rfl (en rfl (en rfl (en rfl (en rfl (en rfl (en rfl s0))))))))))
      have s1 := (hg 1).trans (en rfl (en rfl (en rfl (en rfl (en rfl (en rfl (en rfl (en rfl (en rfl (en rfl s1))))))))))
      have s2 := (hg 2).trans (en rfl (en rfl (en rfl (en rfl (en rfl (en rfl (en rfl (en rfl (en rfl (en rfl s2))))))))))
      have s6 := (hg 6).trans (en rfl es)
      have s7 := (hg 7).trans es
      have s8 := (hg 8).trans (en rfl (en rfl (en rfl (en rfl (en rfl (en rfl (en rfl (en rfl (en rfl (en rfl s8))))))))))
      have s10 := (hg 10).trans (en rfl (en rfl (en rfl (en rfl (en rfl (en rfl (en rfl (en rfl (en rfl (en rfl s10))))))))))
      have s12 := (hg 12).trans (en rfl (en rfl (en rfl (en rfl (en rfl (en rfl (en rfl (en rfl (en rfl (en rfl s12))))))))))
      have s19 := (hg 19).trans (en rfl (en rfl (en rfl (en rfl (en rfl (en rfl (en rfl (en rfl (en rfl (en rfl s19))))))))))
      have s42 := (hg 42).trans (en rfl (en rfl (en rfl (en rfl (en rfl (en rfl (en rfl (en rfl (en rfl (en rfl s42))))))))))
      clear hg
      refine xc_seq (fun K hK10 => ?_)
      refine xc_region ?_
      refine x_val (r_move s6) (nd_of rfl) rfl ?_
      refine x_val (r_move (en rfl s0)) (nd_of rfl) rfl ?_
      refine x_val (r_move (en rfl (en rfl s7))) (nd_of rfl) rfl ?_
      refine x_val (r_move (en rfl (en rfl (en rfl s1)))) (nd_of rfl) rfl ?_
      refine x_val (r_fieldAddr (o' := 34) Try.underlying103 rfl Try.sizeOf3 rfl (en rfl (en rfl (en rfl (en rfl s8)))) rfl) (nd_of rfl) rfl ?_
      refine x_val (r_load h 2 rfl Try.isAgg3 es (nd1 ‹_›)) (nd_of rfl) rfl ?_
      refine x_enter (r_call Try.call60 (.cons (en rfl (en rfl (en rfl (en rfl es)))) (.cons (en rfl (en rfl (en rfl es))) (.cons (en rfl (en rfl es)) (.cons es .nil))))) (nd_of rfl) rfl (join_t (l := tr) (r := r) hj h) ?_
      rintro _ w ⟨t2, pl2, rfl, hc2, h⟩
      refine x_val (r_assign (en rfl (en rfl (en rfl (en rfl (en rfl (en rfl es))))))) (nd_of rfl) rfl ?_
      refine x_val (r_assign (en rfl es)) (nd_of rfl) rfl ?_
      refine xw_nil ?_
      refine hK10 _ _ ?_
      refine xc_gen (fun g hg => ?_)
      have s0 := (hg 0).trans (en rfl (en rfl (en rfl (en rfl (en rfl (en rfl (en rfl (en rfl (en rfl s0)))))))))
      have s1 := (hg 1).trans (en rfl (en rfl (en rfl (en rfl (en rfl (en rfl (en rfl (en rfl (en rfl s1)))))))))
      have s2 := (hg 2).trans (en rfl (en rfl (en rfl (en rfl (en rfl (en rfl (en rfl (en rfl (en rfl s2)))))))))
      have s6 := (hg 6).trans (en rfl es)
      have s7 := (hg 7).trans es
      have s8 := (hg 8).trans (en rfl (en rfl (en rfl (en rfl (en rfl (en rfl (en rfl (en rfl (en rfl s8)))))))))
      have s10 := (hg 10).trans (en rfl (en rfl (en rfl (en rfl (en rfl (en rfl (en rfl (en rfl (en rfl s10)))))))))
      have s12 := (hg 12).trans (en rfl (en rfl (en rfl (en rfl (en rfl (en rfl (en rfl (en rfl (en rfl s12)))))))))
      have s19 := (hg 19).trans (en rfl (en rfl (en rfl (en rfl (en rfl (en rfl (en rfl (en rfl (en rfl s19)))))))))
      have s42 := (hg 42).trans (en rfl (en rfl (en rfl (en rfl (en rfl (en rfl (en rfl (en rfl (en rfl s42)))))))))
      clear hg
      refine xc_ret ?_
      refine bodyR_2 rfl s6 s7 ?_
      exact ⟨tl, t2, pl2, fr1, rfl, hk hc2, by rw [Tr.xs, split_le _ _ _ hil]; exact hx1, by rw [Tr.xs, split_le _ _ _ hil, hc2.xs, hx2], h.f2.drop⟩
    ·
      refine xc_seq (fun K hK11 => ?_)
      have hd := of_decide_eq_false hc
      refine xc_region ?_
      refine x_val (r_move s2) (nd_of rfl) rfl ?_
      refine x_val (r_move (en rfl s10)) (nd_of rfl) rfl ?_
      refine x_val (r_move (en rfl (en rfl s12))) (nd_of rfl) rfl ?_
      refine x_val (r_add (en rfl es) es rfl (by unfold I64; omega)) (nd_of rfl) rfl ?_
      refine x_val (r_geq (en rfl (en rfl (en rfl es))) es rfl) (nd_of rfl) rfl ?_
      refine x_val (r_assign es) (nd_of rfl) rfl ?_
      refine xw_nil ?_
      refine hK11 _ _ ?_
      refine xc_gen (fun g hg => ?_)
      have s0 := (hg 0).trans (en rfl (en rfl (en rfl (en rfl (en rfl (en rfl s0))))))
      have s1 := (hg 1).trans (en rfl (en rfl (en rfl (en rfl (en rfl (en rfl s1))))))
      have s2 := (hg 2).trans (en rfl (en rfl (en rfl (en rfl (en rfl (en rfl s2))))))
      have s6 := (hg 6).trans (en rfl (en rfl (en rfl (en rfl (en rfl (en rfl s6))))))
      have s7 := (hg 7).trans (en rfl (en rfl (en rfl (en rfl (en rfl (en rfl s7))))))
      have s8 := (hg 8).trans (en rfl (en rfl (en rfl (en rfl (en rfl (en rfl s8))))))
      have s10 := (hg 10).trans (en rfl (en rfl (en rfl (en rfl (en rfl (en rfl s10))))))
      have s12 := (hg 12).trans (en rfl (en rfl (en rfl (en rfl (en rfl (en rfl s12))))))
      have s19 := (hg 19).trans (en rfl (en rfl (en rfl (en rfl (en rfl (en rfl s19))))))
      have s42 := (hg 42).trans (en rfl (en rfl (en rfl (en rfl (en rfl (en rfl s42))))))
      have s61 := (hg 61).trans es
      clear hg
      refine xc_cond s61 (fun hc => ?_) (fun hc => ?_)
      ·
        refine xc_seq (fun K hK12 => ?_)
        have hd2 := of_decide_eq_true hc
        have hps : Ps (l.xs ++ [x]) := by intro y hy; rcases List.mem_append.1 hy with h1 | h1; exact hpl' y h1; simp at h1; rw [h1]; exact hpx
        have hsx : sz (l.xs ++ [x]) = sz l.xs + xS x := by simp [sz_app, sz]
        have hge : sz (l.xs ++ [x]) ≤ i := by rw [hsx]; omega
        have hxe : (Tr.node k l x r).xs = (l.xs ++ [x]) ++ r.xs := by simp [Tr.xs]
        refine xc_region ?_
        refine x_val (r_move s0) (nd_of rfl) rfl ?_
        refine x_val (r_fieldAddr (o' := 34) Try.underlying103 rfl Try.sizeOf3 rfl (en rfl s8) rfl) (nd_of rfl) rfl ?_
        refine x_val (r_load h 2 rfl Try.isAgg3 es (nd1 ‹_›)) (nd_of rfl) rfl ?_
        refine x_val (r_move (en rfl (en rfl (en rfl s2)))) (nd_of rfl) rfl ?_
        refine x_val (r_move (en rfl (en rfl (en rfl (en rfl s10))))) (nd_of rfl) rfl ?_
        refine x_val (r_sub (en rfl es) es (show _ = ((i : Int) - sz l.xs : Int) from by rfl) (by unfold I64; omega)) (nd_of rfl) rfl ?_
        refine x_val (r_move (en rfl (en rfl (en rfl (en rfl (en rfl (en rfl s12))))))) (nd_of rfl) rfl ?_
        refine x_val (r_sub (en rfl es) es (show _ = (((i - sz l.xs - xS x : Nat) : Int) : Int) from by omega) (by unfold I64; omega)) (nd_of rfl) rfl ?_
        have h := h.f1
        have h := h.f1
        refine x_enter (r_call Try.call54 (.cons (en rfl (en rfl (en rfl (en rfl (en rfl (en rfl (en rfl es))))))) (.cons (en rfl (en rfl (en rfl (en rfl (en rfl es))))) (.cons es .nil)))) (nd_of rfl) rfl (ihr (i := i - sz l.xs - xS x) ht.2.2.2 hna.2.1 hbl.right.tail hpr (by omega) hpl h) ?_
        rintro _ w ⟨tl, tr, pl1, fr1, rfl, hsp, hx1, hx2, h⟩
        have hbj : Bd (l.xs ++ x :: tl.xs) := by rw [hx1]; simp only [Bd, List.length_append, List.length_cons, sz_app, mks_app, sz, mks]; omega
        obtain ⟨hj, hk⟩ := Sp.goR ht hn hsp hbj
        refine x_val (r_move es) (nd_of rfl) rfl ?_
        refine x_val (r_extract es gc0) (nd_of rfl) rfl ?_
        refine x_val (r_extract (en rfl es) gc1) (nd_of rfl) rfl ?_
        refine x_val (r_assign (en rfl es)) (nd_of rfl) rfl ?_
        refine x_val (r_assign (en rfl es)) (nd_of rfl) rfl ?_
        refine xw_nil ?_
        refine hK12 _ _ ?_
        refine xc_gen (fun g hg => ?_)
        have s0 := (hg 0).trans (en rfl (en rfl (en rfl (en rfl (en rfl (en rfl (en rfl (en rfl (en rfl (en rfl (en rfl (en rfl (en rfl (en rfl s0))))))))))))))
        have s1 := (hg 1).trans (en rfl (en rfl (en rfl (en rfl (en rfl (en rfl (en rfl (en rfl (en rfl (en rfl (en rfl (en rfl (en rfl (en rfl s1))))))))))))))
        have s2 := (hg 2).trans (en rfl (en rfl (en rfl (en rfl (en rfl (en rfl (en rfl (en rfl (en rfl (en rfl (en rfl (en rfl (en rfl (en rfl s2))))))))))))))
        have s6 := (hg 6).trans (en rfl es)
        have s7 := (hg 7).trans es
        have s8 := (hg 8).trans (en rfl (en rfl (en rfl (en rfl (en rfl (en rfl (en rfl (en rfl (en rfl (en rfl (en rfl (en rfl (en rfl (en rfl s8))))))))))))))
        have s10 := (hg 10).trans (en rfl (en rfl (en rfl (en rfl (en rfl (en rfl (en rfl (en rfl (en rfl (en rfl (en rfl (en rfl (en rfl (en rfl s10))))))))))))))
        have s12 := (hg 12).trans (en rfl (en rfl (en rfl (en rfl (en rfl (en rfl (en rfl (en rfl (en rfl (en rfl (en rfl (en rfl (en rfl (en rfl s12))))))))))))))
        have s19 := (hg 19).trans (en rfl (en rfl (en rfl (en rfl (en rfl (en rfl (en rfl (en rfl (en rfl (en rfl (en rfl (en rfl (en rfl (en rfl s19))))))))))))))
        have s42 := (hg 42).trans (en rfl (en rfl (en rfl (en rfl (en rfl (en rfl (en rfl (en rfl (en rfl (en rfl (en rfl (en rfl (en rfl (en rfl s42))))))))))))))
        have s61 := (hg 61).trans (en rfl (en rfl (en rfl (en rfl (en rfl (en rfl (en rfl (en rfl (en rfl (en rfl (en rfl (en rfl (en rfl (en rfl s61))))))))))))))
        clear hg
        refine xc_seq (fun K hK13 => ?_)
        refine xc_region ?_
        refine x_val (r_move s0) (nd_of rfl) rfl ?_
        refine x_val (r_fieldAddr (o' := 33) Try.underlying103 rfl Try.sizeOf3 rfl (en rfl s8) rfl) (nd_of rfl) rfl ?_
        refine x_val (r_load h 2 rfl Try.isAgg3 es (nd0 ‹_›)) (nd_of rfl) rfl ?_
        refine x_val (r_move (en rfl (en rfl (en rfl s1)))) (nd_of rfl) rfl ?_
        refine x_val (r_move (en rfl (en rfl (en rfl (en rfl s6))))) (nd_of rfl) rfl ?_
        have h := h.f1
        have h := h.f1
        refine x_enter (r_call Try.call60 (.cons (en rfl (en rfl (en rfl (en rfl es)))) (.cons (en rfl (en rfl es)) (.cons (en rfl es) (.cons es .nil))))) (nd_of rfl) rfl (join_t (l := l) (r := tl) hj h) ?_
        rintro _ w ⟨t2, pl2, rfl, hc2, h⟩
        refine x_val (r_move (en rfl (en rfl (en rfl (en rfl (en rfl (en rfl s7))))))) (nd_of rfl) rfl ?_
        refine x_val (r_assign (en rfl es)) (nd_of rfl) rfl ?_
        refine x_val (r_assign (en rfl es)) (nd_of rfl) rfl ?_
        refine xw_nil ?_
        refine hK13 _ _ ?_
        refine xc_gen (fun g hg => ?_)
        have s0 := (hg 0).trans (en rfl (en rfl (en rfl (en rfl (en rfl (en rfl (en rfl (en rfl (en rfl s0)))))))))
        have s1 := (hg 1).trans (en rfl (en rfl (en rfl (en rfl (en rfl (en rfl (en rfl (en rfl (en rfl s1)))))))))
        have s2 := (hg 2).trans (en rfl (en rfl (en rfl (en rfl (en rfl (en rfl (en rfl (en rfl (en rfl s2)))))))))
        have s6 := (hg 6).trans (en rfl es)
        have s7 := (hg 7).trans es
        have s8 := (hg 8).trans (en rfl (en rfl (en rfl (en rfl (en rfl (en rfl (en rfl (en rfl (en rfl s8)))))))))
        have s10 := (hg 10).trans (en rfl (en rfl (en rfl (en rfl (en rfl (en rfl (en rfl (en rfl (en rfl s10)))))))))
        have s12 := (hg 12).trans (en rfl (en rfl (en rfl (en rfl (en rfl (en rfl (en rfl (en rfl (en rfl s12)))))))))
        have s19 := (hg 19).trans (en rfl (en rfl (en rfl (en rfl (en rfl (en rfl (en rfl (en rfl (en rfl s19)))))))))
        have s42 := (hg 42).trans (en rfl (en rfl (en rfl (en rfl (en rfl (en rfl (en rfl (en rfl (en rfl s42)))))))))
        have s61 := (hg 61).trans (en rfl (en rfl (en rfl (en rfl (en rfl (en rfl (en rfl (en rfl (en rfl s61)))))))))
        clear hg
        refine xc_ret ?_
        refine bodyR_2 rfl s6 s7 ?_
        exact ⟨t2, tr, pl2, fr1, rfl, hk hc2, by rw [hxe, split_ge _ _ _ hps hge, hc2.xs, hx1, hsx, Nat.sub_sub]; simp, by rw [hxe, split_ge _ _ _ hps hge, hx2, hsx, Nat.sub_sub], h.f2.drop⟩
      ·
        refine xc_skip ?_
        refine hK7 _ _ ?_
        have hd2 := of_decide_eq_false hc
        have hlt : i - sz l.xs < xS x := by omega
        have h0 : 0 < i - sz l.xs := by omega
        have hoka := ht.2.1.cut1 hlt
        have hokb := ht.2.1.cut2 hlt
        have hoa := hoka.cells
        have hob := hokb.cells
        have hspl : splitL (Tr.node k l x r).xs i = (l.xs ++ [(xCut x (i - sz l.xs)).1], (xCut x (i - sz l.xs)).2 :: r.xs) := by rw [Tr.xs, split_ge _ _ _ hpl' (by omega), split_mid h0 hlt]
        obtain ⟨G14, hG14⟩ : ∃ g0 : Nat → Value, g0 = g := ⟨_, rfl⟩
        have zG14_0 : G14 0 = _ := (congrFun hG14 0).trans s0
        have zG14_1 : G14 1 = _ := (congrFun hG14 1).trans s1
        have zG14_2 : G14 2 = _ := (congrFun hG14 2).trans s2
        have zG14_6 : G14 6 = _ := (congrFun hG14 6).trans s6
        have zG14_7 : G14 7 = _ := (congrFun hG14 7).trans s7
        have zG14_8 : G14 8 = _ := (congrFun hG14 8).trans s8
        have zG14_10 : G14 10 = _ := (congrFun hG14 10).trans s10
        have zG14_12 : G14 12 = _ := (congrFun hG14 12).trans s12
        have zG14_19 : G14 19 = _ := (congrFun hG14 19).trans s19
        have zG14_42 : G14 42 = _ := (congrFun hG14 42).trans s42
        have zG14_61 : G14 61 = _ := (congrFun hG14 61).trans s61
        refine xc_cut (fun f w => (∃ b14 b15, f 14 = .pointer (some ⟨b14, 0, none⟩) ∧ f 15 = .pointer (some ⟨b15, 0, none⟩) ∧ SatL E w (Cells b14 (xC (xCut x (i - sz l.xs)).1) 58 :: Cells b15 (xC (xCut x (i - sz l.xs)).2) 58 :: TC bt ba ro :: Ar ba pl fr :: Cells b8 (cellOf l x r) 103 :: R)) ∧ (f 0 = G14 0 ∧ f 1 = G14 1 ∧ f 2 = G14 2 ∧ f 6 = G14 6 ∧ f 7 = G14 7 ∧ f 8 = G14 8 ∧ f 10 = G14 10 ∧ f 12 = G14 12 ∧ f 19 = G14 19 ∧ f 42 = G14 42 ∧ f 61 = G14 61)) ?_ ?_
        ·
          skip
          have hS := h
          have hS := (hS.f1).drop
          refine xt_plan 18 (.rd 0 2 (.rd 1 2 (.rd 2 2 (.rd 3 2 (.rd 4 1 (.rd 5 2 (.rd 6 1 (.rd 7 2 (.rd 8 2 (.rd 9 2 (.e3 10 (.rd 11 2 (.rd 12 2 (.rd 13 2 (.e2 14 (.e1 15 (.e1 16 (.e1 17 .nil))) 15 (.e1 14 (.e1 16 (.e1 17 .nil))))))) 14 (.e2 10 (.rd 11 2 (.rd 12 2 (.rd 13 2 (.e1 15 (.e1 16 (.e1 17 .nil)))))) 15 (.e1 10 (.rd 11 2 (.rd 12 2 (.rd 13 2 (.e1 16 (.e1 17 .nil))))))) 15 (.e2 10 (.rd 11 2 (.rd 12 2 (.rd 13 2 (.e1 14 (.e1 16 (.e1 17 .nil)))))) 14 (.e1 10 (.rd 11 2 (.rd 12 2 (.rd 13 2 (.e1 16 (.e1 17 .nil)))))))))))))))))) (by kernel_rfl) rfl (by kernel_rfl) hS ?_
          have h := h.drew
          refine xt_read (i := 0) rfl (fun W => r_move s0) rfl (fun _ _ _ hh => by first | exact bodyR_np hh | exact bodyY_np hh | exact hh) ?_
          refine xt_read (i := 1) rfl (fun W => r_nilCheck es) rfl (fun _ _ _ hh => by first | exact bodyR_np hh | exact bodyY_np hh | exact hh) ?_
          refine xt_read (i := 2) rfl (fun W => r_fieldAddr (o' := 0) Try.underlying93 rfl Try.sizeOf88 rfl es rfl) rfl (fun _ _ _ hh => by first | exact bodyR_np hh | exact bodyY_np hh | exact hh) ?_
          refine xt_read (i := 3) rfl (fun W => r_fieldAddr (o' := 1) Try.underlying88 rfl Try.sizeOf84 rfl es rfl) rfl (fun _ _ _ hh => by first | exact bodyR_np hh | exact bodyY_np hh | exact hh) ?_
          refine xt_load (i := 4) rfl (fun W hW => r_load hW 0 rfl Try.isAgg84 es gc1) rfl (fun _ _ _ hh => by first | exact bodyR_np hh | exact bodyY_np hh | exact hh) ?_
          refine xt_read (i := 5) rfl (fun W => r_fieldAddr (o' := 0) Try.underlying103 rfl Try.sizeOf58 rfl (en rfl (en rfl (en rfl (en rfl (en rfl s8))))) rfl) rfl (fun _ _ _ hh => by first | exact bodyR_np hh | exact bodyY_np hh | exact hh) ?_
          refine xt_load (i := 6) rfl (fun W hW => r_loadAgg hW 1 rfl Try.isAgg58 Try.sizeOf58 es (ndle ‹_›) (ndx ‹_›)) rfl (fun _ _ _ hh => by first | exact bodyR_np hh | exact bodyY_np hh | exact hh) ?_
          refine xt_read (i := 7) rfl (fun W => r_move (en rfl (en rfl (en rfl (en rfl (en rfl (en rfl (en rfl s2)))))))) rfl (fun _ _ _ hh => by first | exact bodyR_np hh | exact bodyY_np hh | exact hh) ?_
          refine xt_read (i := 8) rfl (fun W => r_move (en rfl (en rfl (en rfl (en rfl (en rfl (en rfl (en rfl (en rfl s10))))))))) rfl (fun _ _ _ hh => by first | exact bodyR_np hh | exact bodyY_np hh | exact hh) ?_
          refine xt_read (i := 9) rfl (fun W => r_sub (en rfl es) es (show _ = (((i - sz l.xs : Nat) : Int) : Int) from by omega) (by unfold I64; omega)) rfl (fun _ _ _ hh => by first | exact bodyR_np hh | exact bodyY_np hh | exact hh) ?_
          refine xt_e3 ?_ ?_ ?_
          ·
            skip
            refine xs_enter (i := 10) rfl (r_callv Try.call49 (en rfl (en rfl (en rfl (en rfl (en rfl es))))) (.cons (en rfl (en rfl (en rfl es))) (.cons es .nil))) rfl (cut_ok ht.2.1 h0 hlt h) ?_
            rintro _ w ⟨rfl, h⟩
            refine ⟨(fun _ => (h.f1).drop), ?_⟩
            refine xt_read (i := 11) rfl (fun W => r_move es) rfl (fun _ _ _ hh => by first | exact bodyR_np hh | exact bodyY_np hh | exact hh) ?_
            refine xt_read (i := 12) rfl (fun W => r_extract es gc0) rfl (fun _ _ _ hh => by first | exact bodyR_np hh | exact bodyY_np hh | exact hh) ?_
            refine xt_read (i := 13) rfl (fun W => r_extract (en rfl es) gc1) rfl (fun _ _ _ hh => by first | exact bodyR_np hh | exact bodyY_np hh | exact hh) ?_
            refine xt_e2 ?_ ?_
            ·
              skip
              refine xs_allocA (i := 14) rfl h zX rfl ?_
              intro b14 w h
              refine ⟨(fun _ => ((h.f0).drop.f1).drop), ?_⟩
              refine xt_e1 ?_
              refine xs_allocA (i := 15) rfl h zX rfl ?_
              intro b15 w h
              refine ⟨(fun _ => (((h.f0).drop.f0).drop.f1).drop), ?_⟩
              refine xt_e1 ?_
              refine xs_st (i := 16) rfl (r_storeAgg h 1 rfl Try.sizeOf58 (en rfl es) (en rfl (en rfl (en rfl es))) (Ok.size (by first | assumption | exact Ok.node (by assumption) | exact xOk.cells (by assumption) | exact ChOk.ok (by assumption))) (Ok.one (by first | assumption | exact Ok.node (by assumption) | exact xOk.cells (by assumption) | exact ChOk.ok (by assumption))) (by exact Nat.le_refl _)) (h.r1 (over_full rfl)) (fun _ w h => (((h.f0).drop.f0).drop.f1).drop) ?_
              intro w h
              refine xt_e1 ?_
              refine xs_st (i := 17) rfl (r_storeAgg h 0 rfl Try.sizeOf58 es (en rfl (en rfl es)) (Ok.size (by first | assumption | exact Ok.node (by assumption) | exact xOk.cells (by assumption) | exact ChOk.ok (by assumption))) (Ok.one (by first | assumption | exact Ok.node (by assumption) | exact xOk.cells (by assumption) | exact ChOk.ok (by assumption))) (by exact Nat.le_refl _)) (h.r0 (over_full rfl)) (fun _ w h => (((h.f0).drop.f0).drop.f1).drop) ?_
              intro w h
              refine xt_nil ?_
              have h := h.f4
              have h := h.f4
              have h := h.f4
              have h := h.f3
              have h := h.f4
              exact ⟨⟨b14, b15, (en rfl es), es, h⟩, ⟨((en rfl (en rfl (en rfl (en rfl (en rfl (en rfl (en rfl (en rfl (en rfl (en rfl (en rfl (en rfl (en rfl (en rfl (en rfl (en rfl s0))))))))))))))))).trans zG14_0.symm, ((en rfl (en rfl (en rfl (en rfl (en rfl (en rfl (en rfl (en rfl (en rfl (en rfl (en rfl (en rfl (en rfl (en rfl (en rfl (en rfl s1))))))))))))))))).trans zG14_1.symm, ((en rfl (en rfl (en rfl (en rfl (en rfl (en rfl (en rfl (en rfl (en rfl (en rfl (en rfl (en rfl (en rfl (en rfl (en rfl (en rfl s2))))))))))))))))).trans zG14_2.symm, ((en rfl (en rfl (en rfl (en rfl (en rfl (en rfl (en rfl (en rfl (en rfl (en rfl (en rfl (en rfl (en rfl (en rfl (en rfl (en rfl s6))))))))))))))))).trans zG14_6.symm, ((en rfl (en rfl (en rfl (en rfl (en rfl (en rfl (en rfl (en rfl (en rfl (en rfl (en rfl (en rfl (en rfl (en rfl (en rfl (en rfl s7))))))))))))))))).trans zG14_7.symm, ((en rfl (en rfl (en rfl (en rfl (en rfl (en rfl (en rfl (en rfl (en rfl (en rfl (en rfl (en rfl (en rfl (en rfl (en rfl (en rfl s8))))))))))))))))).trans zG14_8.symm, ((en rfl (en rfl (en rfl (en rfl (en rfl (en rfl (en rfl (en rfl (en rfl (en rfl (en rfl (en rfl (en rfl (en rfl (en rfl (en rfl s10))))))))))))))))).trans zG14_10.symm, ((en rfl (en rfl (en rfl (en rfl (en rfl (en rfl (en rfl (en rfl (en rfl (en rfl (en rfl (en rfl (en rfl (en rfl (en rfl (en rfl s12))))))))))))))))).trans zG14_12.symm, ((en rfl (en rfl (en rfl (en rfl (en rfl (en rfl (en rfl (en rfl (en rfl (en rfl (en rfl (en rfl (en rfl (en rfl (en rfl (en rfl s19))))))))))))))))).trans zG14_19.symm, ((en rfl (en rfl (en rfl (en rfl (en rfl (en rfl (en rfl (en rfl (en rfl (en rfl (en rfl (en rfl (en rfl (en rfl (en rfl (en rfl s42))))))))))))))))).trans zG14_42.symm, ((en rfl (en rfl (en rfl (en rfl (en rfl (en rfl (en rfl (en rfl (en rfl (en rfl (en rfl (en rfl (en rfl (en rfl (en rfl (en rfl s61))))))))))))))))).trans zG14_61.symm⟩⟩
            ·
              skip
              refine xs_allocA (i := 15) rfl h zX rfl ?_
              intro b15 w h
              refine ⟨(fun _ => ((h.f0).drop.f1).drop), ?_⟩
              refine xt_e1 ?_
              refine xs_allocA (i := 14) rfl h zX rfl ?_
              intro b14 w h
              refine ⟨(fun _ => (((h.f0).drop.f0).drop.f1).drop), ?_⟩
              refine xt_e1 ?_
              refine xs_st (i := 16) rfl (r_storeAgg h 0 rfl Try.sizeOf58 es (en rfl (en rfl (en rfl es))) (Ok.size (by first | assumption | exact Ok.node (by assumption) | exact xOk.cells (by assumption) | exact ChOk.ok (by assumption))) (Ok.one (by first | assumption | exact Ok.node (by assumption) | exact xOk.cells (by assumption) | exact ChOk.ok (by assumption))) (by exact Nat.le_refl _)) (h.r0 (over_full rfl)) (fun _ w h => (((h.f0).drop.f0).drop.f1).drop) ?_
              intro w h
              refine xt_e1 ?_
              refine xs_st (i := 17) rfl (r_storeAgg h 1 rfl Try.sizeOf58 (en rfl es) (en rfl (en rfl es)) (Ok.size (by first | assumption | exact Ok.node (by assumption) | exact xOk.cells (by assumption) | exact ChOk.ok (by assumption))) (Ok.one (by first | assumption | exact Ok.node (by assumption) | exact xOk.cells (by assumption) | exact ChOk.ok (by assumption))) (by exact Nat.le_refl _)) (h.r1 (over_full rfl)) (fun _ w h => (((h.f0).drop.f0).drop.f1).drop) ?_
              intro w h
              refine xt_nil ?_
              have h := h.f4
              have h := h.f4
              have h := h.f4
              have h := h.f4
              have h := h.f4
              exact ⟨⟨b14, b15, es, (en rfl es), h⟩, ⟨((en rfl (en rfl (en rfl (en rfl (en rfl (en rfl (en rfl (en rfl (en rfl (en rfl (en rfl (en rfl (en rfl (en rfl (en rfl (en rfl s0))))))))))))))))).trans zG14_0.symm, ((en rfl (en rfl (en rfl (en rfl (en rfl (en rfl (en rfl (en rfl (en rfl (en rfl (en rfl (en rfl (en rfl (en rfl (en rfl (en rfl s1))))))))))))))))).trans zG14_1.symm, ((en rfl (en rfl (en rfl (en rfl (en rfl (en rfl (en rfl (en rfl (en rfl (en rfl (en rfl (en rfl (en rfl (en rfl (en rfl (en rfl s2))))))))))))))))).trans zG14_2.symm, ((en rfl (en rfl (en rfl (en rfl (en rfl (en rfl (en rfl (en rfl (en rfl (en rfl (en rfl (en rfl (en rfl (en rfl (en rfl (en rfl s6))))))))))))))))).trans zG14_6.symm, ((en rfl (en rfl (en rfl (en rfl (en rfl (en rfl (en rfl (en rfl (en rfl (en rfl (en rfl (en rfl (en rfl (en rfl (en rfl (en rfl s7))))))))))))))))).trans zG14_7.symm, ((en rfl (en rfl (en rfl (en rfl (en rfl (en rfl (en rfl (en rfl (en rfl (en rfl (en rfl (en rfl (en rfl (en rfl (en rfl (en rfl s8))))))))))))))))).trans zG14_8.symm, ((en rfl (en rfl (en rfl (en rfl (en rfl (en rfl (en rfl (en rfl (en rfl (en rfl (en rfl (en rfl (en rfl (en rfl (en rfl (en rfl s10))))))))))))))))).trans zG14_10.symm, ((en rfl (en rfl (en rfl (en rfl (en rfl (en rfl (en rfl (en rfl (en rfl (en rfl (en rfl (en rfl (en rfl (en rfl (en rfl (en rfl s12))))))))))))))))).trans zG14_12.symm, ((en rfl (en rfl (en rfl (en rfl (en rfl (en rfl (en rfl (en rfl (en rfl (en rfl (en rfl (en rfl (en rfl (en rfl (en rfl (en rfl s19))))))))))))))))).trans zG14_19.symm, ((en rfl (en rfl (en rfl (en rfl (en rfl (en rfl (en rfl (en rfl (en rfl (en rfl (en rfl (en rfl (en rfl (en rfl (en rfl (en rfl s42))))))))))))))))).trans zG14_42.symm, ((en rfl (en rfl (en rfl (en rfl (en rfl (en rfl (en rfl (en rfl (en rfl (en rfl (en rfl (en rfl (en rfl (en rfl (en rfl (en rfl s61))))))))))))))))).trans zG14_61.symm⟩⟩
          ·
            skip
            refine xs_allocA (i := 14) rfl h zX rfl ?_
            intro b14 w h
            refine ⟨(fun _ => ((h.f0).drop.f1).drop), ?_⟩
            refine xt_e2 ?_ ?_
            ·
              skip
              refine xs_enter (i := 10) rfl (r_callv Try.call49 (en rfl (en rfl (en rfl (en rfl (en rfl (en rfl es)))))) (.cons (en rfl (en rfl (en rfl (en rfl es)))) (.cons (en rfl es) .nil))) rfl (cut_ok ht.2.1 h0 hlt h) ?_
              rintro _ w ⟨rfl, h⟩
              refine ⟨(fun _ => ((h.f0).drop.f1).drop), ?_⟩
              refine xt_read (i := 11) rfl (fun W => r_move es) rfl (fun _ _ _ hh => by first | exact bodyR_np hh | exact bodyY_np hh | exact hh) ?_
              refine xt_read (i := 12) rfl (fun W => r_extract es gc0) rfl (fun _ _ _ hh => by first | exact bodyR_np hh | exact bodyY_np hh | exact hh) ?_
              refine xt_read (i := 13) rfl (fun W => r_extract (en rfl es) gc1) rfl (fun _ _ _ hh => by first | exact bodyR_np hh | exact bodyY_np hh | exact hh) ?_
              refine xt_e1 ?_
              refine xs_allocA (i := 15) rfl h zX rfl ?_
              intro b15 w h
              refine ⟨(fun _ => (((h.f0).drop.f0).drop.f1).drop), ?_⟩
              refine xt_e1 ?_
              refine xs_st (i := 16) rfl (r_storeAgg h 1 rfl Try.sizeOf58 (en rfl (en rfl (en rfl (en rfl (en rfl es))))) (en rfl (en rfl es)) (Ok.size (by first | assumption | exact Ok.node (by assumption) | exact xOk.cells (by assumption) | exact ChOk.ok (by assumption))) (Ok.one (by first | assumption | exact Ok.node (by assumption) | exact xOk.cells (by assumption) | exact ChOk.ok (by assumption))) (by exact Nat.le_refl _)) (h.r1 (over_full rfl)) (fun _ w h => (((h.f0).drop.f0).drop.f1).drop) ?_
              intro w h
              refine xt_e1 ?_
              refine xs_st (i := 17) rfl (r_storeAgg h 0 rfl Try.sizeOf58 es (en rfl es) (Ok.size (by first | assumption | exact Ok.node (by assumption) | exact xOk.cells (by assumption) | exact ChOk.ok (by assumption))) (Ok.one (by first | assumption | exact Ok.node (by assumption) | exact xOk.cells (by assumption) | exact ChOk.ok (by assumption))) (by exact Nat.le_refl _)) (h.r0 (over_full rfl)) (fun _ w h => (((h.f0).drop.f0).drop.f1).drop) ?_
              intro w h
              refine xt_nil ?_
              have h := h.f4
              have h := h.f4
              have h := h.f4
              have h := h.f3
              have h := h.f4
              exact ⟨⟨b14, b15, (en rfl (en rfl (en rfl (en rfl (en rfl es))))), es, h⟩, ⟨((en rfl (en rfl (en rfl (en rfl (en rfl (en rfl (en rfl (en rfl (en rfl (en rfl (en rfl (en rfl (en rfl (en rfl (en rfl (en rfl s0))))))))))))))))).trans zG14_0.symm, ((en rfl (en rfl (en rfl (en rfl (en rfl (en rfl (en rfl (en rfl (en rfl (en rfl (en rfl (en rfl (en rfl (en rfl (en rfl (en rfl s1))))))))))))))))).trans zG14_1.symm, ((en rfl (en rfl (en rfl (en rfl (en rfl (en rfl (en rfl (en rfl (en rfl (en rfl (en rfl (en rfl (en rfl (en rfl (en rfl (en rfl s2))))))))))))))))).trans zG14_2.symm, ((en rfl (en rfl (en rfl (en rfl (en rfl (en rfl (en rfl (en rfl (en rfl (en rfl (en rfl (en rfl (en rfl (en rfl (en rfl (en rfl s6))))))))))))))))).trans zG14_6.symm, ((en rfl (en rfl (en rfl (en rfl (en rfl (en rfl (en rfl (en rfl (en rfl (en rfl (en rfl (en rfl (en rfl (en rfl (en rfl (en rfl s7))))))))))))))))).trans zG14_7.symm, ((en rfl (en rfl (en rfl (en rfl (en rfl (en rfl (en rfl (en rfl (en rfl (en rfl (en rfl (en rfl (en rfl (en rfl (en rfl (en rfl s8))))))))))))))))).trans zG14_8.symm, ((en rfl (en rfl (en rfl (en rfl (en rfl (en rfl (en rfl (en rfl (en rfl (en rfl (en rfl (en rfl (en rfl (en rfl (en rfl (en rfl s10))))))))))))))))).trans zG14_10.symm, ((en rfl (en rfl (en rfl (en rfl (en rfl (en rfl (en rfl (en rfl (en rfl (en rfl (en rfl (en rfl (en rfl (en rfl (en rfl (en rfl s12))))))))))))))))).trans zG14_12.symm, ((en rfl (en rfl (en rfl (en rfl (en rfl (en rfl (en rfl (en rfl (en rfl (en rfl (en rfl (en rfl (en rfl (en rfl (en rfl (en rfl s19))))))))))))))))).trans zG14_19.symm, ((en rfl (en rfl (en rfl (en rfl (en rfl (en rfl (en rfl (en rfl (en rfl (en rfl (en rfl (en rfl (en rfl (en rfl (en rfl (en rfl s42))))))))))))))))).trans zG14_42.symm, ((en rfl (en rfl (en rfl (en rfl (en rfl (en rfl (en rfl (en rfl (en rfl (en rfl (en rfl (en rfl (en rfl (en rfl (en rfl (en rfl s61))))))))))))))))).trans zG14_61.symm⟩⟩
            ·
              skip
              refine xs_allocA (i := 15) rfl h zX rfl ?_
              intro b15 w h
              refine ⟨(fun _ => (((h.f0).drop.f0).drop.f1).drop), ?_⟩
              refine xt_e1 ?_
              refine xs_enter (i := 10) rfl (r_callv Try.call49 (en rfl (en rfl (en rfl (en rfl (en rfl (en rfl (en rfl es))))))) (.cons (en rfl (en rfl (en rfl (en rfl (en rfl es))))) (.cons (en rfl (en rfl es)) .nil))) rfl (cut_ok ht.2.1 h0 hlt h) ?_
              rintro _ w ⟨rfl, h⟩
              refine ⟨(fun _ => (((h.f0).drop.f0).drop.f1).drop), ?_⟩
              refine xt_read (i := 11) rfl (fun W => r_move es) rfl (fun _ _ _ hh => by first | exact bodyR_np hh | exact bodyY_np hh | exact hh) ?_
              refine xt_read (i := 12) rfl (fun W => r_extract es gc0) rfl (fun _ _ _ hh => by first | exact bodyR_np hh | exact bodyY_np hh | exact hh) ?_
              refine xt_read (i := 13) rfl (fun W => r_extract (en rfl es) gc1) rfl (fun _ _ _ hh => by first | exact bodyR_np hh | exact bodyY_np hh | exact hh) ?_
              refine xt_e1 ?_
              refine xs_st (i := 16) rfl (r_storeAgg h 1 rfl Try.sizeOf58 (en rfl (en rfl (en rfl (en rfl (en rfl es))))) (en rfl es) (Ok.size (by first | assumption | exact Ok.node (by assumption) | exact xOk.cells (by assumption) | exact ChOk.ok (by assumption))) (Ok.one (by first | assumption | exact Ok.node (by assumption) | exact xOk.cells (by assumption) | exact ChOk.ok (by assumption))) (by exact Nat.le_refl _)) (h.r1 (over_full rfl)) (fun _ w h => (((h.f0).drop.f0).drop.f1).drop) ?_
              intro w h
              refine xt_e1 ?_
              refine xs_st (i := 17) rfl (r_storeAgg h 0 rfl Try.sizeOf58 (en rfl (en rfl (en rfl (en rfl es)))) es (Ok.size (by first | assumption | exact Ok.node (by assumption) | exact xOk.cells (by assumption) | exact ChOk.ok (by assumption))) (Ok.one (by first | assumption | exact Ok.node (by assumption) | exact xOk.cells (by assumption) | exact ChOk.ok (by assumption))) (by exact Nat.le_refl _)) (h.r0 (over_full rfl)) (fun _ w h => (((h.f0).drop.f0).drop.f1).drop) ?_
              intro w h
              refine xt_nil ?_
              have h := h.f4
              have h := h.f4
              have h := h.f4
              have h := h.f3
              have h := h.f4
              exact ⟨⟨b14, b15, (en rfl (en rfl (en rfl (en rfl (en rfl es))))), (en rfl (en rfl (en rfl (en rfl es)))), h⟩, ⟨((en rfl (en rfl (en rfl (en rfl (en rfl (en rfl (en rfl (en rfl (en rfl (en rfl (en rfl (en rfl (en rfl (en rfl (en rfl (en rfl s0))))))))))))))))).trans zG14_0.symm, ((en rfl (en rfl (en rfl (en rfl (en rfl (en rfl (en rfl (en rfl (en rfl (en rfl (en rfl (en rfl (en rfl (en rfl (en rfl (en rfl s1))))))))))))))))).trans zG14_1.symm, ((en rfl (en rfl (en rfl (en rfl (en rfl (en rfl (en rfl (en rfl (en rfl (en rfl (en rfl (en rfl (en rfl (en rfl (en rfl (en rfl s2))))))))))))))))).trans zG14_2.symm, ((en rfl (en rfl (en rfl (en rfl (en rfl (en rfl (en rfl (en rfl (en rfl (en rfl (en rfl (en rfl (en rfl (en rfl (en rfl (en rfl s6))))))))))))))))).trans zG14_6.symm, ((en rfl (en rfl (en rfl (en rfl (en rfl (en rfl (en rfl (en rfl (en rfl (en rfl (en rfl (en rfl (en rfl (en rfl (en rfl (en rfl s7))))))))))))))))).trans zG14_7.symm, ((en rfl (en rfl (en rfl (en rfl (en rfl (en rfl (en rfl (en rfl (en rfl (en rfl (en rfl (en rfl (en rfl (en rfl (en rfl (en rfl s8))))))))))))))))).trans zG14_8.symm, ((en rfl (en rfl (en rfl (en rfl (en rfl (en rfl (en rfl (en rfl (en rfl (en rfl (en rfl (en rfl (en rfl (en rfl (en rfl (en rfl s10))))))))))))))))).trans zG14_10.symm, ((en rfl (en rfl (en rfl (en rfl (en rfl (en rfl (en rfl (en rfl (en rfl (en rfl (en rfl (en rfl (en rfl (en rfl (en rfl (en rfl s12))))))))))))))))).trans zG14_12.symm, ((en rfl (en rfl (en rfl (en rfl (en rfl (en rfl (en rfl (en rfl (en rfl (en rfl (en rfl (en rfl (en rfl (en rfl (en rfl (en rfl s19))))))))))))))))).trans zG14_19.symm, ((en rfl (en rfl (en rfl (en rfl (en rfl (en rfl (en rfl (en rfl (en rfl (en rfl (en rfl (en rfl (en rfl (en rfl (en rfl (en rfl s42))))))))))))))))).trans zG14_42.symm, ((en rfl (en rfl (en rfl (en rfl (en rfl (en rfl (en rfl (en rfl (en rfl (en rfl (en rfl (en rfl (en rfl (en rfl (en rfl (en rfl s61))))))))))))))))).trans zG14_61.symm⟩⟩
          ·
            skip
            refine xs_allocA (i := 15) rfl h zX rfl ?_
            intro b15 w h
            refine ⟨(fun _ => ((h.f0).drop.f1).drop), ?_⟩
            refine xt_e2 ?_ ?_
            ·
              skip
              refine xs_enter (i := 10) rfl (r_callv Try.call49 (en rfl (en rfl (en rfl (en rfl (en rfl (en rfl es)))))) (.cons (en rfl (en rfl (en rfl (en rfl es)))) (.cons (en rfl es) .nil))) rfl (cut_ok ht.2.1 h0 hlt h) ?_
              rintro _ w ⟨rfl, h⟩
              refine ⟨(fun _ => ((h.f0).drop.f1).drop), ?_⟩
              refine xt_read (i := 11) rfl (fun W => r_move es) rfl (fun _ _ _ hh => by first | exact bodyR_np hh | exact bodyY_np hh | exact hh) ?_
              refine xt_read (i := 12) rfl (fun W => r_extract es gc0) rfl (fun _ _ _ hh => by first | exact bodyR_np hh | exact bodyY_np hh | exact hh) ?_
              refine xt_read (i := 13) rfl (fun W => r_extract (en rfl es) gc1) rfl (fun _ _ _ hh => by first | exact bodyR_np hh | exact bodyY_np hh | exact hh) ?_
              refine xt_e1 ?_
              refine xs_allocA (i := 14) rfl h zX rfl ?_
              intro b14 w h
              refine ⟨(fun _ => (((h.f0).drop.f0).drop.f1).drop), ?_⟩
              refine xt_e1 ?_
              refine xs_st (i := 16) rfl (r_storeAgg h 0 rfl Try.sizeOf58 es (en rfl (en rfl es)) (Ok.size (by first | assumption | exact Ok.node (by assumption) | exact xOk.cells (by assumption) | exact ChOk.ok (by assumption))) (Ok.one (by first | assumption | exact Ok.node (by assumption) | exact xOk.cells (by assumption) | exact ChOk.ok (by assumption))) (by exact Nat.le_refl _)) (h.r0 (over_full rfl)) (fun _ w h => (((h.f0).drop.f0).drop.f1).drop) ?_
              intro w h
              refine xt_e1 ?_
              refine xs_st (i := 17) rfl (r_storeAgg h 1 rfl Try.sizeOf58 (en rfl (en rfl (en rfl (en rfl (en rfl es))))) (en rfl es) (Ok.size (by first | assumption | exact Ok.node (by assumption) | exact xOk.cells (by assumption) | exact ChOk.ok (by assumption))) (Ok.one (by first | assumption | exact Ok.node (by assumption) | exact xOk.cells (by assumption) | exact ChOk.ok (by assumption))) (by exact Nat.le_refl _)) (h.r1 (over_full rfl)) (fun _ w h => (((h.f0).drop.f0).drop.f1).drop) ?_
              intro w h
              refine xt_nil ?_
              have h := h.f4
              have h := h.f4
              have h := h.f4
              have h := h.f4
              have h := h.f4
              exact ⟨⟨b14, b15, es, (en rfl (en rfl (en rfl (en rfl (en rfl es))))), h⟩, ⟨((en rfl (en rfl (en rfl (en rfl (en rfl (en rfl (en rfl (en rfl (en rfl (en rfl (en rfl (en rfl (en rfl (en rfl (en rfl (en rfl s0))))))))))))))))).trans zG14_0.symm, ((en rfl (en rfl (en rfl (en rfl (en rfl (en rfl (en rfl (en rfl (en rfl (en rfl (en rfl (en rfl (en rfl (en rfl (en rfl (en rfl s1))))))))))))))))).trans zG14_1.symm, ((en rfl (en rfl (en rfl (en rfl (en rfl (en rfl (en rfl (en rfl (en rfl (en rfl (en rfl (en rfl (en rfl (en rfl (en rfl (en rfl s2))))))))))))))))).trans zG14_2.symm, ((en rfl (en rfl (en rfl (en rfl (en rfl (en rfl (en rfl (en rfl (en rfl (en rfl (en rfl (en rfl (en rfl (en rfl (en rfl (en rfl s6))))))))))))))))).trans zG14_6.symm, ((en rfl (en rfl (en rfl (en rfl (en rfl (en rfl (en rfl (en rfl (en rfl (en rfl (en rfl (en rfl (en rfl (en rfl (en rfl (en rfl s7))))))))))))))))).trans zG14_7.symm, ((en rfl (en rfl (en rfl (en rfl (en rfl (en rfl (en rfl (en rfl (en rfl (en rfl (en rfl (en rfl (en rfl (en rfl (en rfl (en rfl s8))))))))))))))))).trans zG14_8.symm, ((en rfl (en rfl (en rfl (en rfl (en rfl (en rfl (en rfl (en rfl (en rfl (en rfl (en rfl (en rfl (en rfl (en rfl (en rfl (en rfl s10))))))))))))))))).trans zG14_10.symm, ((en rfl (en rfl (en rfl (en rfl (en rfl (en rfl (en rfl (en rfl (en rfl (en rfl (en rfl (en rfl (en rfl (en rfl (en rfl (en rfl s12))))))))))))))))).trans zG14_12.symm, ((en rfl (en rfl (en rfl (en rfl (en rfl (en rfl (en rfl (en rfl (en rfl (en rfl (en rfl (en rfl (en rfl (en rfl (en rfl (en rfl s19))))))))))))))))).trans zG14_19.symm, ((en rfl (en rfl (en rfl (en rfl (en rfl (en rfl (en rfl (en rfl (en rfl (en rfl (en rfl (en rfl (en rfl (en rfl (en rfl (en rfl s42))))))))))))))))).trans zG14_42.symm, ((en rfl (en rfl (en rfl (en rfl (en rfl (en rfl (en rfl (en rfl (en rfl (en rfl (en rfl (en rfl (en rfl (en rfl (en rfl (en rfl s61))))))))))))))))).trans zG14_61.symm⟩⟩
            ·
              skip
              refine xs_allocA (i := 14) rfl h zX rfl ?_
              intro b14 w h
              refine ⟨(fun _ => (((h.f0).drop.f0).drop.f1).drop), ?_⟩
              refine xt_e1 ?_
              refine xs_enter (i := 10) rfl (r_callv Try.call49 (en rfl (en rfl (en rfl (en rfl (en rfl (en rfl (en rfl es))))))) (.cons (en rfl (en rfl (en rfl (en rfl (en rfl es))))) (.cons (en rfl (en rfl es)) .nil))) rfl (cut_ok ht.2.1 h0 hlt h) ?_
              rintro _ w ⟨rfl, h⟩
              refine ⟨(fun _ => (((h.f0).drop.f0).drop.f1).drop), ?_⟩
              refine xt_read (i := 11) rfl (fun W => r_move es) rfl (fun _ _ _ hh => by first | exact bodyR_np hh | exact bodyY_np hh | exact hh) ?_
              refine xt_read (i := 12) rfl (fun W => r_extract es gc0) rfl (fun _ _ _ hh => by first | exact bodyR_np hh | exact bodyY_np hh | exact hh) ?_
              refine xt_read (i := 13) rfl (fun W => r_extract (en rfl es) gc1) rfl (fun _ _ _ hh => by first | exact bodyR_np hh | exact bodyY_np hh | exact hh) ?_
              refine xt_e1 ?_
              refine xs_st (i := 16) rfl (r_storeAgg h 0 rfl Try.sizeOf58 (en rfl (en rfl (en rfl (en rfl es)))) (en rfl es) (Ok.size (by first | assumption | exact Ok.node (by assumption) | exact xOk.cells (by assumption) | exact ChOk.ok (by assumption))) (Ok.one (by first | assumption | exact Ok.node (by assumption) | exact xOk.cells (by assumption) | exact ChOk.ok (by assumption))) (by exact Nat.le_refl _)) (h.r0 (over_full rfl)) (fun _ w h => (((h.f0).drop.f0).drop.f1).drop) ?_
              intro w h
              refine xt_e1 ?_
              refine xs_st (i := 17) rfl (r_storeAgg h 1 rfl Try.sizeOf58 (en rfl (en rfl (en rfl (en rfl (en rfl es))))) es (Ok.size (by first | assumption | exact Ok.node (by assumption) | exact xOk.cells (by assumption) | exact ChOk.ok (by assumption))) (Ok.one (by first | assumption | exact Ok.node (by assumption) | exact xOk.cells (by assumption) | exact ChOk.ok (by assumption))) (by exact Nat.le_refl _)) (h.r1 (over_full rfl)) (fun _ w h => (((h.f0).drop.f0).drop.f1).drop) ?_
              intro w h
              refine xt_nil ?_
              have h := h.f4
              have h := h.f4
              have h := h.f4
              have h := h.f4
              have h := h.f4
              exact ⟨⟨b14, b15, (en rfl (en rfl (en rfl (en rfl es)))), (en rfl (en rfl (en rfl (en rfl (en rfl es))))), h⟩, ⟨((en rfl (en rfl (en rfl (en rfl (en rfl (en rfl (en rfl (en rfl (en rfl (en rfl (en rfl (en rfl (en rfl (en rfl (en rfl (en rfl s0))))))))))))))))).trans zG14_0.symm, ((en rfl (en rfl (en rfl (en rfl (en rfl (en rfl (en rfl (en rfl (en rfl (en rfl (en rfl (en rfl (en rfl (en rfl (en rfl (en rfl s1))))))))))))))))).trans zG14_1.symm, ((en rfl (en rfl (en rfl (en rfl (en rfl (en rfl (en rfl (en rfl (en rfl (en rfl (en rfl (en rfl (en rfl (en rfl (en rfl (en rfl s2))))))))))))))))).trans zG14_2.symm, ((en rfl (en rfl (en rfl (en rfl (en rfl (en rfl (en rfl (en rfl (en rfl (en rfl (en rfl (en rfl (en rfl (en rfl (en rfl (en rfl s6))))))))))))))))).trans zG14_6.symm, ((en rfl (en rfl (en rfl (en rfl (en rfl (en rfl (en rfl (en rfl (en rfl (en rfl (en rfl (en rfl (en rfl (en rfl (en rfl (en rfl s7))))))))))))))))).trans zG14_7.symm, ((en rfl (en rfl (en rfl (en rfl (en rfl (en rfl (en rfl (en rfl (en rfl (en rfl (en rfl (en rfl (en rfl (en rfl (en rfl (en rfl s8))))))))))))))))).trans zG14_8.symm, ((en rfl (en rfl (en rfl (en rfl (en rfl (en rfl (en rfl (en rfl (en rfl (en rfl (en rfl (en rfl (en rfl (en rfl (en rfl (en rfl s10))))))))))))))))).trans zG14_10.symm, ((en rfl (en rfl (en rfl (en rfl (en rfl (en rfl (en rfl (en rfl (en rfl (en rfl (en rfl (en rfl (en rfl (en rfl (en rfl (en rfl s12))))))))))))))))).trans zG14_12.symm, ((en rfl (en rfl (en rfl (en rfl (en rfl (en rfl (en rfl (en rfl (en rfl (en rfl (en rfl (en rfl (en rfl (en rfl (en rfl (en rfl s19))))))))))))))))).trans zG14_19.symm, ((en rfl (en rfl (en rfl (en rfl (en rfl (en rfl (en rfl (en rfl (en rfl (en rfl (en rfl (en rfl (en rfl (en rfl (en rfl (en rfl s42))))))))))))))))).trans zG14_42.symm, ((en rfl (en rfl (en rfl (en rfl (en rfl (en rfl (en rfl (en rfl (en rfl (en rfl (en rfl (en rfl (en rfl (en rfl (en rfl (en rfl s61))))))))))))))))).trans zG14_61.symm⟩⟩
        ·
          rintro g w ⟨⟨b14, b15, s14, s15, h⟩, ⟨y0, y1, y2, y6, y7, y8, y10, y12, y19, y42, y61⟩⟩
          have s0 := y0.trans zG14_0
          have s1 := y1.trans zG14_1
          have s2 := y2.trans zG14_2
          have s6 := y6.trans zG14_6
          have s7 := y7.trans zG14_7
          have s8 := y8.trans zG14_8
          have s10 := y10.trans zG14_10
          have s12 := y12.trans zG14_12
          have s19 := y19.trans zG14_19
          have s42 := y42.trans zG14_42
          have s61 := y61.trans zG14_61
          refine xc_seq (fun K hK15 => ?_)
          refine xc_plan 6 [(0, 2), (1, 1), (2, 2), (3, 1), (4, 2), (5, 2)] (by kernel_rfl) rfl (by kernel_rfl) h ?_
          have h := h.drew
          refine xp_read (i := 0) rfl (fun W => r_fieldAddr (o' := 33) Try.underlying103 rfl Try.sizeOf3 rfl s8 rfl) rfl (fun _ _ _ hh => by first | exact bodyR_np hh | exact bodyY_np hh | exact hh) ?_
          refine xp_load (i := 1) rfl (fun W hW => r_load hW 4 rfl Try.isAgg3 es (nd0 ‹_›)) rfl (fun _ _ _ hh => by first | exact bodyR_np hh | exact bodyY_np hh | exact hh) ?_
          refine xp_read (i := 2) rfl (fun W => r_fieldAddr (o' := 34) Try.underlying103 rfl Try.sizeOf3 rfl (en rfl (en rfl s8)) rfl) rfl (fun _ _ _ hh => by first | exact bodyR_np hh | exact bodyY_np hh | exact hh) ?_
          refine xp_load (i := 3) rfl (fun W hW => r_load hW 4 rfl Try.isAgg3 es (nd1 ‹_›)) rfl (fun _ _ _ hh => by first | exact bodyR_np hh | exact bodyY_np hh | exact hh) ?_
          refine xp_read (i := 4) rfl (fun W => r_assign (en rfl (en rfl es))) rfl (fun _ _ _ hh => by first | exact bodyR_np hh | exact bodyY_np hh | exact hh) ?_
          refine xp_read (i := 5) rfl (fun W => r_assign (en rfl es)) rfl (fun _ _ _ hh => by first | exact bodyR_np hh | exact bodyY_np hh | exact hh) ?_
          refine xp_nil ?_
          refine hK15 _ _ ?_
          refine xc_gen (fun g hg => ?_)
          have s0 := (hg 0).trans (en rfl (en rfl (en rfl (en rfl (en rfl (en rfl s0))))))
          have s1 := (hg 1).trans (en rfl (en rfl (en rfl (en rfl (en rfl (en rfl s1))))))
          have s2 := (hg 2).trans (en rfl (en rfl (en rfl (en rfl (en rfl (en rfl s2))))))
          have s6 := (hg 6).trans (en rfl (en rfl (en rfl (en rfl (en rfl (en rfl s6))))))
          have s7 := (hg 7).trans (en rfl (en rfl (en rfl (en rfl (en rfl (en rfl s7))))))
          have s8 := (hg 8).trans (en rfl (en rfl (en rfl (en rfl (en rfl (en rfl s8))))))
          have s10 := (hg 10).trans (en rfl (en rfl (en rfl (en rfl (en rfl (en rfl s10))))))
          have s12 := (hg 12).trans (en rfl (en rfl (en rfl (en rfl (en rfl (en rfl s12))))))
          have s14 := (hg 14).trans (en rfl (en rfl (en rfl (en rfl (en rfl (en rfl s14))))))
          have s15 := (hg 15).trans (en rfl (en rfl (en rfl (en rfl (en rfl (en rfl s15))))))
          have s16 := (hg 16).trans (en rfl es)
          have s17 := (hg 17).trans es
          have s19 := (hg 19).trans (en rfl (en rfl (en rfl (en rfl (en rfl (en rfl s19))))))
          have s42 := (hg 42).trans (en rfl (en rfl (en rfl (en rfl (en rfl (en rfl s42))))))
          have s61 := (hg 61).trans (en rfl (en rfl (en rfl (en rfl (en rfl (en rfl s61))))))
          clear hg
          refine xc_seq (fun K hK16 => ?_)
          refine xc_region ?_
          refine x_val (r_loadAgg h 0 rfl Try.isAgg58 Try.sizeOf58 s14 (Ok.le (by first | assumption | exact Ok.node (by assumption) | exact xOk.cells (by assumption) | exact ChOk.ok (by assumption))) (ext_full (Ok.size (by first | assumption | exact Ok.node (by assumption) | exact xOk.cells (by assumption) | exact ChOk.ok (by assumption))))) (nd_of rfl) rfl ?_
          refine x_val (r_fieldAddr (o' := 0) Try.underlying103 rfl Try.sizeOf58 rfl (en rfl s8) rfl) (nd_of rfl) rfl ?_
          refine x_st (r_storeAgg h 4 rfl Try.sizeOf58 es (en rfl es) (Ok.size hoa) (Ok.one hoa) (ndle hox)) rfl (h.r4 (ndput hox hoa)) ?_
          intro w h
          refine xw_nil ?_
          refine hK16 _ _ ?_
          refine xc_gen (fun g hg => ?_)
          have s0 := (hg 0).trans (en rfl (en rfl s0))
          have s1 := (hg 1).trans (en rfl (en rfl s1))
          have s2 := (hg 2).trans (en rfl (en rfl s2))
          have s6 := (hg 6).trans (en rfl (en rfl s6))
          have s7 := (hg 7).trans (en rfl (en rfl s7))
          have s8 := (hg 8).trans (en rfl (en rfl s8))
          have s10 := (hg 10).trans (en rfl (en rfl s10))
          have s12 := (hg 12).trans (en rfl (en rfl s12))
          have s14 := (hg 14).trans (en rfl (en rfl s14))
          have s15 := (hg 15).trans (en rfl (en rfl s15))
          have s16 := (hg 16).trans (en rfl (en rfl s16))
          have s17 := (hg 17).trans (en rfl (en rfl s17))
          have s19 := (hg 19).trans (en rfl (en rfl s19))
          have s42 := (hg 42).trans (en rfl (en rfl s42))
          have s61 := (hg 61).trans (en rfl (en rfl s61))
          clear hg
          refine xc_seq (fun K hK17 => ?_)
          have hS := h
          have hS := (hS.f0).drop
          have hS := (hS.f0).drop
          have hS := (hS.f1).drop
          refine xc_plan 6 [(0, 2), (1, 2), (2, 2), (3, 1), (4, 2), (5, 1), (6, 0)] (by kernel_rfl) rfl (by kernel_rfl) hS ?_
          have h := h.drew
          refine xp_read (i := 0) rfl (fun W => r_move s0) rfl (fun _ _ _ hh => by first | exact bodyR_np hh | exact bodyY_np hh | exact hh) ?_
          refine xp_read (i := 1) rfl (fun W => r_nilCheck es) rfl (fun _ _ _ hh => by first | exact bodyR_np hh | exact bodyY_np hh | exact hh) ?_
          refine xp_read (i := 2) rfl (fun W => r_fieldAddr (o' := 3) Try.underlying93 rfl Try.sizeOf91 rfl es rfl) rfl (fun _ _ _ hh => by first | exact bodyR_np hh | exact bodyY_np hh | exact hh) ?_
          refine xp_load (i := 3) rfl (fun W hW => r_load hW 0 rfl Try.isAgg91 es gc3) rfl (fun _ _ _ hh => by first | exact bodyR_np hh | exact bodyY_np hh | exact hh) ?_
          refine xp_read (i := 4) rfl (fun W => r_move (en rfl (en rfl (en rfl (en rfl s1))))) rfl (fun _ _ _ hh => by first | exact bodyR_np hh | exact bodyY_np hh | exact hh) ?_
          refine xp_load (i := 5) rfl (fun W hW => r_loadAgg hW 1 rfl Try.isAgg103 Try.sizeOf103 (en rfl (en rfl (en rfl (en rfl (en rfl s8))))) (Ok.le (by first | assumption | exact Ok.node (by assumption) | exact xOk.cells (by assumption) | exact ChOk.ok (by assumption))) (ext_full (Ok.size (by first | assumption | exact Ok.node (by assumption) | exact xOk.cells (by assumption) | exact ChOk.ok (by assumption))))) rfl (fun _ _ _ hh => by first | exact bodyR_np hh | exact bodyY_np hh | exact hh) ?_
          have h := h.f3
          refine xp_enter (i := 6) rfl (r_call Try.call73 (.cons (en rfl (en rfl es)) (.cons (en rfl es) (.cons es .nil)))) rfl (put_ok ht.1 (Ok.node hoa) h) ?_
          rintro _ w ⟨rfl, h⟩
          refine ⟨(fun hh => absurd rfl hh), ?_⟩
          refine xp_nil ?_
          refine hK17 _ _ ?_
          refine xc_gen (fun g hg => ?_)
          have s0 := (hg 0).trans (en rfl (en rfl (en rfl (en rfl (en rfl (en rfl (en rfl s0)))))))
          have s1 := (hg 1).trans (en rfl (en rfl (en rfl (en rfl (en rfl (en rfl (en rfl s1)))))))
          have s2 := (hg 2).trans (en rfl (en rfl (en rfl (en rfl (en rfl (en rfl (en rfl s2)))))))
          have s6 := (hg 6).trans (en rfl (en rfl (en rfl (en rfl (en rfl (en rfl (en rfl s6)))))))
          have s7 := (hg 7).trans (en rfl (en rfl (en rfl (en rfl (en rfl (en rfl (en rfl s7)))))))
          have s8 := (hg 8).trans (en rfl (en rfl (en rfl (en rfl (en rfl (en rfl (en rfl s8)))))))
          have s10 := (hg 10).trans (en rfl (en rfl (en rfl (en rfl (en rfl (en rfl (en rfl s10)))))))
          have s12 := (hg 12).trans (en rfl (en rfl (en rfl (en rfl (en rfl (en rfl (en rfl s12)))))))
          have s14 := (hg 14).trans (en rfl (en rfl (en rfl (en rfl (en rfl (en rfl (en rfl s14)))))))
          have s15 := (hg 15).trans (en rfl (en rfl (en rfl (en rfl (en rfl (en rfl (en rfl s15)))))))
          have s16 := (hg 16).trans (en rfl (en rfl (en rfl (en rfl (en rfl (en rfl (en rfl s16)))))))
          have s17 := (hg 17).trans (en rfl (en rfl (en rfl (en rfl (en rfl (en rfl (en rfl s17)))))))
          have s19 := (hg 19).trans (en rfl (en rfl (en rfl (en rfl (en rfl (en rfl (en rfl s19)))))))
          have s42 := (hg 42).trans (en rfl (en rfl (en rfl (en rfl (en rfl (en rfl (en rfl s42)))))))
          have s61 := (hg 61).trans (en rfl (en rfl (en rfl (en rfl (en rfl (en rfl (en rfl s61)))))))
          clear hg
          refine xc_seq (fun K hK18 => ?_)
          obtain ⟨hj1, hco⟩ := Sp.cut (fr := fr) ht hn hbl hoka hokb (by rw [xS_cut1 h0 hlt]; omega) (by rw [xS_cut2 hlt]; omega) xM_cut1 xM_cut2
          have hS := h
          have hS := (hS.f0).drop
          have hS := (hS.f0).drop
          have hS := (hS.f2).drop
          refine xc_plan 16 [(0, 2), (1, 2), (2, 2), (4, 2), (5, 2), (6, 2), (7, 2), (8, 1), (9, 1), (10, 2), (12, 2), (3, 0), (11, 0), (13, 0), (14, 2), (15, 2)] (by kernel_rfl) rfl (by kernel_rfl) hS ?_
          have h := h.drew
          refine xp_read (i := 0) rfl (fun W => r_move s0) rfl (fun _ _ _ hh => by first | exact bodyR_np hh | exact bodyY_np hh | exact hh) ?_
          refine xp_read (i := 1) rfl (fun W => r_move (en rfl s16)) rfl (fun _ _ _ hh => by first | exact bodyR_np hh | exact bodyY_np hh | exact hh) ?_
          refine xp_read (i := 2) rfl (fun W => r_move (en rfl (en rfl s1))) rfl (fun _ _ _ hh => by first | exact bodyR_np hh | exact bodyY_np hh | exact hh) ?_
          refine xp_read (i := 4) rfl (fun W => r_move (en rfl (en rfl (en rfl s0)))) rfl (fun _ _ _ hh => by first | exact bodyR_np hh | exact bodyY_np hh | exact hh) ?_
          refine xp_read (i := 5) rfl (fun W => r_move (en rfl (en rfl (en rfl (en rfl s0))))) rfl (fun _ _ _ hh => by first | exact bodyR_np hh | exact bodyY_np hh | exact hh) ?_
          refine xp_read (i := 6) rfl (fun W => r_nilCheck es) rfl (fun _ _ _ hh => by first | exact bodyR_np hh | exact bodyY_np hh | exact hh) ?_
          refine xp_read (i := 7) rfl (fun W => r_fieldAddr (o' := 3) Try.underlying93 rfl Try.sizeOf91 rfl es rfl) rfl (fun _ _ _ hh => by first | exact bodyR_np hh | exact bodyY_np hh | exact hh) ?_
          refine xp_load (i := 8) rfl (fun W hW => r_load hW 1 rfl Try.isAgg91 es gc3) rfl (fun _ _ _ hh => by first | exact bodyR_np hh | exact bodyY_np hh | exact hh) ?_
          refine xp_load (i := 9) rfl (fun W hW => r_loadAgg hW 0 rfl Try.isAgg58 Try.sizeOf58 (en rfl (en rfl (en rfl (en rfl (en rfl (en rfl (en rfl (en rfl s15)))))))) (Ok.le (by first | assumption | exact Ok.node (by assumption) | exact xOk.cells (by assumption) | exact ChOk.ok (by assumption))) (ext_full (Ok.size (by first | assumption | exact Ok.node (by assumption) | exact xOk.cells (by assumption) | exact ChOk.ok (by assumption))))) rfl (fun _ _ _ hh => by first | exact bodyR_np hh | exact bodyY_np hh | exact hh) ?_
          refine xp_read (i := 10) rfl (fun W => r_bnode Try.underlying103 zN_eq zN_ok.size zN_drop Try.sizeOf58 Try.sizeOf3 Try.sizeOf3 Try.sizeOf3 Try.sizeOf3 Try.sizeOf3 rfl es rfl hob) rfl (fun _ _ _ hh => by first | exact bodyR_np hh | exact bodyY_np hh | exact hh) ?_
          refine xp_read (i := 12) rfl (fun W => r_move (en rfl (en rfl (en rfl (en rfl (en rfl (en rfl (en rfl (en rfl (en rfl (en rfl s17))))))))))) rfl (fun _ _ _ hh => by first | exact bodyR_np hh | exact bodyY_np hh | exact hh) ?_
          have h := h.f3
          refine xp_enter (i := 3) rfl (r_call Try.call60 (.cons (en rfl (en rfl (en rfl (en rfl (en rfl (en rfl (en rfl (en rfl (en rfl (en rfl es)))))))))) (.cons (en rfl (en rfl (en rfl (en rfl (en rfl (en rfl (en rfl (en rfl (en rfl es))))))))) (.cons (en rfl (en rfl (en rfl (en rfl (en rfl (en rfl (en rfl (en rfl es)))))))) (.cons ec .nil))))) rfl (join_t (l := l) (r := .nil) hj1 h) ?_
          rintro _ w ⟨t1, pl2, rfl, hc1, h⟩
          refine ⟨(fun _ => (((h.f1).drop.f1).drop.f2).drop.f1), ?_⟩
          have hc1l := hc1.len
          have h := h.f1
          refine xp_enter (i := 11) rfl (r_call Try.call61 (.cons (en rfl (en rfl (en rfl (en rfl es)))) (.cons (en rfl (en rfl es)) .nil))) rfl (take_t (c := ndC (xC (xCut x (i - sz l.xs)).2) 0 0 0 0 0) (Ok.node hob) (by rw [hc1l, List.length_set]; exact hpl) h) ?_
          rintro _ w ⟨j, pl3, fr3, rfl, htk, h⟩
          refine ⟨(fun _ => (((h.f0).drop.f1).drop.f2).drop.f1), ?_⟩
          obtain ⟨hj2, hk⟩ := hco hc1 htk
          have h := h.f1
          refine xp_enter (i := 13) rfl (r_call Try.call60 (.cons (en rfl (en rfl (en rfl (en rfl (en rfl (en rfl (en rfl (en rfl (en rfl es))))))))) (.cons ec (.cons es (.cons (en rfl (en rfl es)) .nil))))) rfl (join_t (l := .nil) (r := r) hj2 h) ?_
          rintro _ w ⟨t2, pl4, rfl, hc2, h⟩
          refine ⟨(fun _ => (((h.f1).drop.f1).drop.f2).drop.f1), ?_⟩
          refine xp_read (i := 14) rfl (fun W => r_assign (en rfl (en rfl es))) rfl (fun _ _ _ hh => by first | exact bodyR_np hh | exact bodyY_np hh | exact hh) ?_
          refine xp_read (i := 15) rfl (fun W => r_assign (en rfl es)) rfl (fun _ _ _ hh => by first | exact bodyR_np hh | exact bodyY_np hh | exact hh) ?_
          refine xp_nil ?_
          refine hK18 _ _ ?_
          refine xc_gen (fun g hg => ?_)
          have s0 := (hg 0).trans (en rfl (en rfl (en rfl (en rfl (en rfl (en rfl (en rfl (en rfl (en rfl (en rfl (en rfl (en rfl (en rfl (en rfl (en rfl (en rfl s0))))))))))))))))
          have s1 := (hg 1).trans (en rfl (en rfl (en rfl (en rfl (en rfl (en rfl (en rfl (en rfl (en rfl (en rfl (en rfl (en rfl (en rfl (en rfl (en rfl (en rfl s1))))))))))))))))
          have s2 := (hg 2).trans (en rfl (en rfl (en rfl (en rfl (en rfl (en rfl (en rfl (en rfl (en rfl (en rfl (en rfl (en rfl (en rfl (en rfl (en rfl (en rfl s2))))))))))))))))
          have s6 := (hg 6).trans (en rfl es)
          have s7 := (hg 7).trans es
          have s8 := (hg 8).trans (en rfl (en rfl (en rfl (en rfl (en rfl (en rfl (en rfl (en rfl (en rfl (en rfl (en rfl (en rfl (en rfl (en rfl (en rfl (en rfl s8))))))))))))))))
          have s10 := (hg 10).trans (en rfl (en rfl (en rfl (en rfl (en rfl (en rfl (en rfl (en rfl (en rfl (en rfl (en rfl (en rfl (en rfl (en rfl (en rfl (en rfl s10))))))))))))))))
          have s12 := (hg 12).trans (en rfl (en rfl (en rfl (en rfl (en rfl (en rfl (en rfl (en rfl (en rfl (en rfl (en rfl (en rfl (en rfl (en rfl (en rfl (en rfl s12))))))))))))))))
          have s14 := (hg 14).trans (en rfl (en rfl (en rfl (en rfl (en rfl (en rfl (en rfl (en rfl (en rfl (en rfl (en rfl (en rfl (en rfl (en rfl (en rfl (en rfl s14))))))))))))))))
          have s15 := (hg 15).trans (en rfl (en rfl (en rfl (en rfl (en rfl (en rfl (en rfl (en rfl (en rfl (en rfl (en rfl (en rfl (en rfl (en rfl (en rfl (en rfl s15))))))))))))))))
          have s16 := (hg 16).trans (en rfl (en rfl (en rfl (en rfl (en rfl (en rfl (en rfl (en rfl (en rfl (en rfl (en rfl (en rfl (en rfl (en rfl (en rfl (en rfl s16))))))))))))))))
          have s17 := (hg 17).trans (en rfl (en rfl (en rfl (en rfl (en rfl (en rfl (en rfl (en rfl (en rfl (en rfl (en rfl (en rfl (en rfl (en rfl (en rfl (en rfl s17))))))))))))))))
          have s19 := (hg 19).trans (en rfl (en rfl (en rfl (en rfl (en rfl (en rfl (en rfl (en rfl (en rfl (en rfl (en rfl (en rfl (en rfl (en rfl (en rfl (en rfl s19))))))))))))))))
          have s42 := (hg 42).trans (en rfl (en rfl (en rfl (en rfl (en rfl (en rfl (en rfl (en rfl (en rfl (en rfl (en rfl (en rfl (en rfl (en rfl (en rfl (en rfl s42))))))))))))))))
          have s61 := (hg 61).trans (en rfl (en rfl (en rfl (en rfl (en rfl (en rfl (en rfl (en rfl (en rfl (en rfl (en rfl (en rfl (en rfl (en rfl (en rfl (en rfl s61))))))))))))))))
          clear hg
          refine xc_ret ?_
          refine bodyR_2 rfl s6 s7 ?_
          have h := h.f4
          have h := h.f3
          have h := h.f4
          have h := h.f4
          have h := h.f4
          exact ⟨t1, t2, pl4, fr3, rfl, hk hc2, by rw [hspl, hc1.xs]; rfl, by rw [hspl, hc2.xs]; rfl, (((h.f2.drop).f2.drop).f2.drop)⟩
end
end Go.Proofs.Ytmfkhfmidnojhaa
