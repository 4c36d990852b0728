/-
A tree cut at a place: the walk of split.
-/
import Derived.Test.YtonnijghdlakfaaT5
import Derived.Test.YtonnijghdlakfaaX8
namespace Go.Proofs.Ytonnijghdlakfaa
open Go Go.RowKit
section
variable {E : Env} {bt ba : Nat} {ro : Int}
theorem split_t : ∀ (t : Tr) {R : List SProp} {w : World} {pl : Pl} {fr : List Nat} {i : Nat}, Has pl t → t.idx.Nodup → Bd t.xs → Ps t.xs → i ≤ 1000000000000 → pl.length ≤ 100000000 → SatL E w (TC bt ba ro :: Ar ba pl fr :: R) →
    Calls Try.prog 40 #[pT bt, .int .i64 t.root, .int .i64 (i : Int)] w (Ret fun v w' => ∃ (tl tr : Tr) (pl' : Pl) (fr' : List Nat), v = .tuple #[.int .i64 tl.root, .int .i64 tr.root] ∧ Sp pl fr pl' fr' t tl tr ∧ tl.xs = (splitL t.xs i).1 ∧ tr.xs = (splitL t.xs i).2 ∧ SatL E w' (TC bt ba ro :: Ar ba pl' fr' :: R)) := by
  intro t
  induction t with
  | nil =>
    intro R w pl fr i _ _ _ _ _ _ h
    refine calls_x Try.func40 rfl Try.ntmps40 rfl ?_
    refine xc_gen (fun g hg => ?_)
    have s0 := (hg 0).trans arg0
    have s1 := (hg 1).trans arg1
    have s2 := (hg 2).trans arg2
    clear hg
    refine xc_seq (fun K hK1 => ?_)
    refine xc_region ?_
    refine x_val (r_assign ec) (nd_of rfl) rfl ?_
    refine x_val (r_assign ec) (nd_of rfl) rfl ?_
    refine xw_nil ?_
    refine hK1 _ _ ?_
    refine xc_gen (fun g hg => ?_)
    have s0 := (hg 0).trans (en rfl (en rfl s0))
    have s1 := (hg 1).trans (en rfl (en rfl s1))
    have s2 := (hg 2).trans (en rfl (en rfl s2))
    have s6 := (hg 6).trans (en rfl es)
    have s7 := (hg 7).trans es
    clear hg
    refine xc_seq (fun K hK2 => ?_)
    refine xc_seq (fun K hK3 => ?_)
    refine xc_region ?_
    refine x_val (r_move s1) (nd_of rfl) rfl ?_
    refine x_val (r_eql es ec (decide_eq_true (by rfl))) (nd_of rfl) rfl ?_
    refine xw_nil ?_
    refine hK3 _ _ ?_
    refine xc_gen (fun g hg => ?_)
    have s0 := (hg 0).trans (en rfl (en rfl s0))
    have s1 := (hg 1).trans (en rfl (en rfl s1))
    have s2 := (hg 2).trans (en rfl (en rfl s2))
    have s6 := (hg 6).trans (en rfl (en rfl s6))
    have s7 := (hg 7).trans (en rfl (en rfl s7))
    have s19 := (hg 19).trans es
    clear hg
    refine xc_cond s19 (fun _ => ?_) (fun hc => by cases hc)
    refine xc_seq (fun K hK4 => ?_)
    refine xc_region ?_
    refine x_val (r_assign ec) (nd_of rfl) rfl ?_
    refine x_val (r_assign ec) (nd_of rfl) rfl ?_
    refine xw_nil ?_
    refine hK4 _ _ ?_
    refine xc_gen (fun g hg => ?_)
    have s0 := (hg 0).trans (en rfl (en rfl s0))
    have s1 := (hg 1).trans (en rfl (en rfl s1))
    have s2 := (hg 2).trans (en rfl (en rfl s2))
    have s6 := (hg 6).trans (en rfl es)
    have s7 := (hg 7).trans es
    have s19 := (hg 19).trans (en rfl (en rfl s19))
    clear hg
    refine xc_ret ?_
    refine bodyR_2 rfl s6 s7 ?_
    exact ⟨.nil, .nil, pl, fr, rfl, ⟨trivial, trivial, by simp [Tr.idx], by simp [Tr.idx], Keep.refl, by simp [Tr.xs], .inl (Nat.le_refl _)⟩, rfl, rfl, h⟩
  | node k l x r ihl ihr =>
    intro R w pl fr i ht hn hb hp hi hpl h
    have hox := ht.2.1.cells
    have hni := List.nodup_cons.1 hn
    have hna := List.nodup_append.1 hni.2
    have hbl := hb
    simp only [Tr.xs] at hbl
    have hb0 := hbl
    simp only [Bd, List.length_append, List.length_cons, sz_app, mks_app, sz, mks] at hb0
    have hpl' : Ps l.xs := fun y hy => hp y (by simp [Tr.xs, hy])
    have hpr : Ps r.xs := fun y hy => hp y (by simp [Tr.xs, hy])
    have hpx : 0 < xS x := hp x (by simp [Tr.xs])
    have hle1 := splitL_le l.xs i
    have hle2 := splitL_le r.xs (i - sz l.xs - xS x)
    change Calls _ _ #[pT bt, .int .i64 (k : Int), .int .i64 (i : Int)] w _
    refine calls_x Try.func40 rfl Try.ntmps40 rfl ?_
    refine xc_gen (fun g hg => ?_)
    have s0 := (hg 0).trans arg0
    have s1 := (hg 1).trans arg1
    have s2 := (hg 2).trans arg2
    clear hg
    refine xc_seq (fun K hK1 => ?_)
    refine xc_region ?_
    refine x_val (r_assign ec) (nd_of rfl) rfl ?_
    refine x_val (r_assign ec) (nd_of rfl) rfl ?_
    refine xw_nil ?_
    refine hK1 _ _ ?_
    refine xc_gen (fun g hg => ?_)
    have s0 := (hg 0).trans (en rfl (en rfl s0))
    have s1 := (hg 1).trans (en rfl (en rfl s1))
    have s2 := (hg 2).trans (en rfl (en rfl s2))
    have s6 := (hg 6).trans (en rfl es)
    have s7 := (hg 7).trans es
    clear hg
    refine xc_seq (fun K hK2 => ?_)
    refine xc_seq (fun K hK3 => ?_)
    refine xc_region ?_
    refine x_val (r_move s1) (nd_of rfl) rfl ?_
    refine x_val (r_eql es ec (decide_eq_false (by omega))) (nd_of rfl) rfl ?_
    refine xw_nil ?_
    refine hK3 _ _ ?_
    refine xc_gen (fun g hg => ?_)
    have s0 := (hg 0).trans (en rfl (en rfl s0))
    have s1 := (hg 1).trans (en rfl (en rfl s1))
    have s2 := (hg 2).trans (en rfl (en rfl s2))
    have s6 := (hg 6).trans (en rfl (en rfl s6))
    have s7 := (hg 7).trans (en rfl (en rfl s7))
    have s19 := (hg 19).trans es
    clear hg
    refine xc_cond s19 (fun hc => by cases hc) (fun _ => ?_)
    refine xc_skip ?_
    refine hK2 _ _ ?_
    refine xc_seq (fun K hK4 => ?_)
    refine xc_region ?_
    refine x_val (r_move s0) (nd_of rfl) rfl ?_
    refine x_val (r_move (en rfl s1)) (nd_of rfl) rfl ?_
    refine x_enter (r_call Try.call54 (.cons (en rfl es) (.cons es .nil))) (nd_of rfl) rfl (at_t ht.1 h) ?_
    rintro _ w ⟨rfl, h⟩
    refine x_declA h Try.zeroValue90 Try.sizeOf90 rfl (en rfl es) (by first | assumption | exact Ok.node (by assumption) | exact xOk.cells (by assumption) | exact ChOk.ok (by assumption)) rfl ?_
    intro b8 w h
    refine xw_nil ?_
    refine hK4 _ _ ?_
    refine xc_gen (fun g hg => ?_)
    have s0 := (hg 0).trans (en rfl (en rfl (en rfl (en rfl s0))))
    have s1 := (hg 1).trans (en rfl (en rfl (en rfl (en rfl s1))))
    have s2 := (hg 2).trans (en rfl (en rfl (en rfl (en rfl s2))))
    have s6 := (hg 6).trans (en rfl (en rfl (en rfl (en rfl s6))))
    have s7 := (hg 7).trans (en rfl (en rfl (en rfl (en rfl s7))))
    have s8 := (hg 8).trans es
    have s19 := (hg 19).trans (en rfl (en rfl (en rfl (en rfl s19))))
    clear hg
    refine xc_seq (fun K hK5 => ?_)
    refine xc_region ?_
    refine x_val (r_move s0) (nd_of rfl) rfl ?_
    refine x_val (r_fieldAddr (o' := 1) Try.underlying90 rfl Try.sizeOf3 rfl (en rfl s8) rfl) (nd_of rfl) rfl ?_
    refine x_val (r_load h 0 rfl Try.isAgg3 es (nd0 ‹_›)) (nd_of rfl) rfl ?_
    have h := h.f2
    have h := h.f2
    refine x_enter (r_call Try.call53 (.cons (en rfl (en rfl es)) (.cons es .nil))) (nd_of rfl) rfl (totals_t ht.2.2.1 h) ?_
    rintro _ w ⟨rfl, h⟩
    refine x_val (r_move es) (nd_of rfl) rfl ?_
    refine x_val (r_extract es gc0) (nd_of rfl) rfl ?_
    refine x_val (r_extract (en rfl es) gc1) (nd_of rfl) rfl ?_
    refine x_val (r_extract (en rfl (en rfl es)) gc2) (nd_of rfl) rfl ?_
    refine x_val (r_assign (en rfl (en rfl es))) (nd_of rfl) rfl ?_
    refine x_val (r_assign (en rfl (en rfl es))) (nd_of rfl) rfl ?_
    refine x_val (r_assign (en rfl (en rfl es))) (nd_of rfl) rfl ?_
    refine xw_nil ?_
    refine hK5 _ _ ?_
    refine xc_gen (fun g hg => ?_)
    have s0 := (hg 0).trans (en rfl (en rfl (en rfl (en rfl (en rfl (en rfl (en rfl (en rfl (en rfl (en rfl (en rfl s0)))))))))))
    have s1 := (hg 1).trans (en rfl (en rfl (en rfl (en rfl (en rfl (en rfl (en rfl (en rfl (en rfl (en rfl (en rfl s1)))))))))))
    have s2 := (hg 2).trans (en rfl (en rfl (en rfl (en rfl (en rfl (en rfl (en rfl (en rfl (en rfl (en rfl (en rfl s2)))))))))))
    have s6 := (hg 6).trans (en rfl (en rfl (en rfl (en rfl (en rfl (en rfl (en rfl (en rfl (en rfl (en rfl (en rfl s6)))))))))))
    have s7 := (hg 7).trans (en rfl (en rfl (en rfl (en rfl (en rfl (en rfl (en rfl (en rfl (en rfl (en rfl (en rfl s7)))))))))))
    have s8 := (hg 8).trans (en rfl (en rfl (en rfl (en rfl (en rfl (en rfl (en rfl (en rfl (en rfl (en rfl (en rfl s8)))))))))))
    have s10 := (hg 10).trans (en rfl es)
    have s19 := (hg 19).trans (en rfl (en rfl (en rfl (en rfl (en rfl (en rfl (en rfl (en rfl (en rfl (en rfl (en rfl s19)))))))))))
    clear hg
    refine xc_seq (fun K hK6 => ?_)
    refine xc_plan 13 [(0, 2), (1, 2), (2, 2), (3, 2), (4, 1), (5, 2), (6, 1), (7, 0), (8, 2), (9, 2), (10, 2), (11, 2), (12, 2)] (by kernel_rfl) rfl (by kernel_rfl) h ?_
    have h := h.drew
    refine xp_read (i := 0) rfl (fun W => r_move s0) rfl (fun _ _ _ hh => by first | exact bodyR_np hh | exact bodyY_np hh | exact hh) ?_
    refine xp_read (i := 1) rfl (fun W => r_nilCheck es) rfl (fun _ _ _ hh => by first | exact bodyR_np hh | exact bodyY_np hh | exact hh) ?_
    refine xp_read (i := 2) rfl (fun W => r_fieldAddr (o' := 0) Try.underlying83 rfl Try.sizeOf78 rfl es rfl) rfl (fun _ _ _ hh => by first | exact bodyR_np hh | exact bodyY_np hh | exact hh) ?_
    refine xp_read (i := 3) rfl (fun W => r_fieldAddr (o' := 0) Try.underlying78 rfl Try.sizeOf74 rfl es rfl) rfl (fun _ _ _ hh => by first | exact bodyR_np hh | exact bodyY_np hh | exact hh) ?_
    refine xp_load (i := 4) rfl (fun W hW => r_load hW 0 rfl Try.isAgg74 es gc0) rfl (fun _ _ _ hh => by first | exact bodyR_np hh | exact bodyY_np hh | exact hh) ?_
    refine xp_read (i := 5) rfl (fun W => r_fieldAddr (o' := 0) Try.underlying90 rfl Try.sizeOf38 rfl (en rfl (en rfl (en rfl (en rfl (en rfl s8))))) rfl) rfl (fun _ _ _ hh => by first | exact bodyR_np hh | exact bodyY_np hh | exact hh) ?_
    refine xp_load (i := 6) rfl (fun W hW => r_load hW 2 rfl Try.isAgg38 es ndx0) rfl (fun _ _ _ hh => by first | exact bodyR_np hh | exact bodyY_np hh | exact hh) ?_
    refine xp_enter (i := 7) rfl (r_callv Try.call37 (en rfl (en rfl es)) (.cons es .nil)) rfl (measure_ok ht.2.1 h) ?_
    rintro _ w ⟨rfl, h⟩
    refine ⟨(fun _ => h), ?_⟩
    refine xp_read (i := 8) rfl (fun W => r_move es) rfl (fun _ _ _ hh => by first | exact bodyR_np hh | exact bodyY_np hh | exact hh) ?_
    refine xp_read (i := 9) rfl (fun W => r_extract es gc0) rfl (fun _ _ _ hh => by first | exact bodyR_np hh | exact bodyY_np hh | exact hh) ?_
    refine xp_read (i := 10) rfl (fun W => r_extract (en rfl es) gc1) rfl (fun _ _ _ hh => by first | exact bodyR_np hh | exact bodyY_np hh | exact hh) ?_
    refine xp_read (i := 11) rfl (fun W => r_assign (en rfl es)) rfl (fun _ _ _ hh => by first | exact bodyR_np hh | exact bodyY_np hh | exact hh) ?_
    refine xp_read (i := 12) rfl (fun W => r_assign (en rfl es)) rfl (fun _ _ _ hh => by first | exact bodyR_np hh | exact bodyY_np hh | exact hh) ?_
    refine xp_nil ?_
    refine hK6 _ _ ?_
    refine xc_gen (fun g hg => ?_)
    have s0 := (hg 0).trans (en rfl (en rfl (en rfl (en rfl (en rfl (en rfl (en rfl (en rfl (en rfl (en rfl (en rfl (en rfl (en rfl s0)))))))))))))
    have s1 := (hg 1).trans (en rfl (en rfl (en rfl (en rfl (en rfl (en rfl (en rfl (en rfl (en rfl (en rfl (en rfl (en rfl (en rfl s1)))))))))))))
    have s2 := (hg 2).trans (en rfl (en rfl (en rfl (en rfl (en rfl (en rfl (en rfl (en rfl (en rfl (en rfl (en rfl (en rfl (en rfl s2)))))))))))))
    have s6 := (hg 6).trans (en rfl (en rfl (en rfl (en rfl (en rfl (en rfl (en rfl (en rfl (en rfl (en rfl (en rfl (en rfl (en rfl s6)))))))))))))
    have s7 := (hg 7).trans (en rfl (en rfl (en rfl (en rfl (en rfl (en rfl (en rfl (en rfl (en rfl (en rfl (en rfl (en rfl (en rfl s7)))))))))))))
    have s8 := (hg 8).trans (en rfl (en rfl (en rfl (en rfl (en rfl (en rfl (en rfl (en rfl (en rfl (en rfl (en rfl (en rfl (en rfl s8)))))))))))))
    have s10 := (hg 10).trans (en rfl (en rfl (en rfl (en rfl (en rfl (en rfl (en rfl (en rfl (en rfl (en rfl (en rfl (en rfl (en rfl s10)))))))))))))
    have s12 := (hg 12).trans (en rfl es)
    have s19 := (hg 19).trans (en rfl (en rfl (en rfl (en rfl (en rfl (en rfl (en rfl (en rfl (en rfl (en rfl (en rfl (en rfl (en rfl s19)))))))))))))
    clear hg
    refine xc_seq (fun K hK7 => ?_)
    refine xc_block ?_
    refine xc_seq (fun K hK8 => ?_)
    refine xc_region ?_
    refine x_val (r_move s2) (nd_of rfl) rfl ?_
    refine x_val (r_move (en rfl s10)) (nd_of rfl) rfl ?_
    refine x_val (r_leq (en rfl es) es rfl) (nd_of rfl) rfl ?_
    refine x_val (r_assign es) (nd_of rfl) rfl ?_
    refine xw_nil ?_
    refine hK8 _ _ ?_
    refine xc_gen (fun g hg => ?_)
    have s0 := (hg 0).trans (en rfl (en rfl (en rfl (en rfl s0))))
    have s1 := (hg 1).trans (en rfl (en rfl (en rfl (en rfl s1))))
    have s2 := (hg 2).trans (en rfl (en rfl (en rfl (en rfl s2))))
    have s6 := (hg 6).trans (en rfl (en rfl (en rfl (en rfl s6))))
    have s7 := (hg 7).trans (en rfl (en rfl (en rfl (en rfl s7))))
    have s8 := (hg 8).trans (en rfl (en rfl (en rfl (en rfl s8))))
    have s10 := (hg 10).trans (en rfl (en rfl (en rfl (en rfl s10))))
    have s12 := (hg 12).trans (en rfl (en rfl (en rfl (en rfl s12))))
    have s19 := (hg 19).trans (en rfl (en rfl (en rfl (en rfl s19))))
    have s42 := (hg 42).trans es
    clear hg
    refine xc_cond s42 (fun hc => ?_) (fun hc => ?_)
    ·
      refine xc_seq (fun K hK9 => ?_)
      have hd := of_decide_eq_true hc
      have hil : i ≤ sz l.xs := by omega
      refine xc_region ?_
      refine x_val (r_move s0) (nd_of rfl) rfl ?_
      refine x_val (r_fieldAddr (o' := 1) Try.underlying90 rfl Try.sizeOf3 rfl (en rfl s8) rfl) (nd_of rfl) rfl ?_
      refine x_val (r_load h 2 rfl Try.isAgg3 es (nd0 ‹_›)) (nd_of rfl) rfl ?_
      refine x_val (r_move (en rfl (en rfl (en rfl s2)))) (nd_of rfl) rfl ?_
      have h := h.f1
      have h := h.f1
      refine x_enter (r_call Try.call40 (.cons (en rfl (en rfl (en rfl es))) (.cons (en rfl es) (.cons es .nil)))) (nd_of rfl) rfl (ihl (i := i) ht.2.2.1 hna.1 hbl.left hpl' hi hpl h) ?_
      rintro _ w ⟨tl, tr, pl1, fr1, rfl, hsp, hx1, hx2, h⟩
      have hbj : Bd (tr.xs ++ x :: r.xs) := by rw [hx2]; simp only [Bd, List.length_append, List.length_cons, sz_app, mks_app, sz, mks]; omega
      obtain ⟨hj, hk⟩ := Sp.goL ht hn hsp hbj
      refine x_val (r_move es) (nd_of rfl) rfl ?_
      refine x_val (r_extract es gc0) (nd_of rfl) rfl ?_
      refine x_val (r_extract (en rfl es) gc1) (nd_of rfl) rfl ?_
      refine x_val (r_assign (en rfl es)) (nd_of rfl) rfl ?_
      refine x_val (r_assign (en rfl es)) (nd_of rfl) rfl ?_
      refine xw_nil ?_
      refine hK9 _ _ ?_
      refine xc_gen (fun g hg => ?_)
      have s0 := (hg 0).trans (en rfl (en rfl (en rfl (en rfl (en rfl (en rfl (en rfl (en rfl (en rfl (en rfl s0))))))))))
      have s1 := (hg 1).trans (en rfl (en rfl (en rfl (en rfl (en rfl (en rfl (en rfl (en rfl (en rfl (en rfl s1))))))))))
      have s2 := (hg 2).trans (en rfl (en rfl (en rfl (en rfl (en rfl (en rfl (en rfl (en rfl (en rfl (en rfl s2))))))))))
      have s6 := (hg 6).trans (en rfl es)
      have s7 := (hg 7).trans es
      have s8 := (hg 8).trans (en rfl (en rfl (en rfl (en rfl (en rfl (en rfl (en rfl (en rfl (en rfl (en rfl s8))))))))))
      have s10 := (hg 10).trans (en rfl (en rfl (en rfl (en rfl (en rfl (en rfl (en rfl (en rfl (en rfl (en rfl s10))))))))))
      have s12 := (hg 12).trans (en rfl (en rfl (en rfl (en rfl (en rfl (en rfl (en rfl (en rfl (en rfl (en rfl s12))))))))))
      have s19 := (hg 19).trans (en rfl (en rfl (en rfl (en rfl (en rfl (en rfl (en rfl (en rfl (en rfl (en rfl s19))))))))))
      have s42 := (hg 42).trans (en rfl (en rfl (en rfl (en rfl (en rfl (en rfl (en rfl (en rfl (en rfl (en rfl s42))))))))))
      clear hg
      refine xc_seq (fun K hK10 => ?_)
      refine xc_region ?_
      refine x_val (r_move s6) (nd_of rfl) rfl ?_
      refine x_val (r_move (en rfl s0)) (nd_of rfl) rfl ?_
      refine x_val (r_move (en rfl (en rfl s7))) (nd_of rfl) rfl ?_
      refine x_val (r_move (en rfl (en rfl (en rfl s1)))) (nd_of rfl) rfl ?_
      refine x_val (r_fieldAddr (o' := 2) Try.underlying90 rfl Try.sizeOf3 rfl (en rfl (en rfl (en rfl (en rfl s8)))) rfl) (nd_of rfl) rfl ?_
      refine x_val (r_load h 2 rfl Try.isAgg3 es (nd1 ‹_›)) (nd_of rfl) rfl ?_
      refine x_enter (r_call Try.call46 (.cons (en rfl (en rfl (en rfl (en rfl es)))) (.cons (en rfl (en rfl (en rfl es))) (.cons (en rfl (en rfl es)) (.cons es .nil))))) (nd_of rfl) rfl (join_t (l := tr) (r := r) hj h) ?_
      rintro _ w ⟨t2, pl2, rfl, hc2, h⟩
      refine x_val (r_assign (en rfl (en rfl (en rfl (en rfl (en rfl (en rfl es))))))) (nd_of rfl) rfl ?_
      refine x_val (r_assign (en rfl es)) (nd_of rfl) rfl ?_
      refine xw_nil ?_
      refine hK10 _ _ ?_
      refine xc_gen (fun g hg => ?_)
      have s0 := (hg 0).trans (en rfl (en rfl (en rfl (en rfl (en rfl (en rfl (en rfl (en rfl (en rfl s0)))))))))
      have s1 := (hg 1).trans (en rfl (en rfl (en rfl (en rfl (en rfl (en rfl (en rfl (en rfl (en rfl s1)))))))))
      have s2 := (hg 2).trans (en rfl (en rfl (en rfl (en rfl (en rfl (en rfl (en rfl (en rfl (en rfl s2)))))))))
      have s6 := (hg 6).trans (en rfl es)
      have s7 := (hg 7).trans es
      have s8 := (hg 8).trans (en rfl (en rfl (en rfl (en rfl (en rfl (en rfl (en rfl (en rfl (en rfl s8)))))))))
      have s10 := (hg 10).trans (en rfl (en rfl (en rfl (en rfl (en rfl (en rfl (en rfl (en rfl (en rfl s10)))))))))
      have s12 := (hg 12).trans (en rfl (en rfl (en rfl (en rfl (en rfl (en rfl (en rfl (en rfl (en rfl s12)))))))))
      have s19 := (hg 19).trans (en rfl (en rfl (en rfl (en rfl (en rfl (en rfl (en rfl (en rfl (en rfl s19)))))))))
      have s42 := (hg 42).trans (en rfl (en rfl (en rfl (en rfl (en rfl (en rfl (en rfl (en rfl (en rfl s42)))))))))
      clear hg
      refine xc_ret ?_
      refine bodyR_2 rfl s6 s7 ?_
      exact ⟨tl, t2, pl2, fr1, rfl, hk hc2, by rw [Tr.xs, split_le _ _ _ hil]; exact hx1, by rw [Tr.xs, split_le _ _ _ hil, hc2.xs, hx2], h.f2.drop⟩
    ·
      refine xc_seq (fun K hK11 => ?_)
      have hd := of_decide_eq_false hc
      refine xc_region ?_
      refine x_val (r_move s2) (nd_of rfl) rfl ?_
      refine x_val (r_move (en rfl s10)) (nd_of rfl) rfl ?_
      refine x_val (r_move (en rfl (en rfl s12))) (nd_of rfl) rfl ?_
      refine x_val (r_add (en rfl es) es rfl (by unfold I64; omega)) (nd_of rfl) rfl ?_
      refine x_val (r_geq (en rfl (en rfl (en rfl es))) es rfl) (nd_of rfl) rfl ?_
      refine x_val (r_assign es) (nd_of rfl) rfl ?_
      refine xw_nil ?_
      refine hK11 _ _ ?_
      refine xc_gen (fun g hg => ?_)
      have s0 := (hg 0).trans (en rfl (en rfl (en rfl (en rfl (en rfl (en rfl s0))))))
      have s1 := (hg 1).trans (en rfl (en rfl (en rfl (en rfl (en rfl (en rfl s1))))))
      have s2 := (hg 2).trans (en rfl (en rfl (en rfl (en rfl (en rfl (en rfl s2))))))
      have s6 := (hg 6).trans (en rfl (en rfl (en rfl (en rfl (en rfl (en rfl s6))))))
      have s7 := (hg 7).trans (en rfl (en rfl (en rfl (en rfl (en rfl (en rfl s7))))))
      have s8 := (hg 8).trans (en rfl (en rfl (en rfl (en rfl (en rfl (en rfl s8))))))
      have s10 := (hg 10).trans (en rfl (en rfl (en rfl (en rfl (en rfl (en rfl s10))))))
      have s12 := (hg 12).trans (en rfl (en rfl (en rfl (en rfl (en rfl (en rfl s12))))))
      have s19 := (hg 19).trans (en rfl (en rfl (en rfl (en rfl (en rfl (en rfl s19))))))
      have s42 := (hg 42).trans (en rfl (en rfl (en rfl (en rfl (en rfl (en rfl s42))))))
      have s61 := (hg 61).trans es
      clear hg
      refine xc_cond s61 (fun hc => ?_) (fun hc => ?_)
      ·
        refine xc_seq (fun K hK12 => ?_)
        have hd2 := of_decide_eq_true hc
        have hps : Ps (l.xs ++ [x]) := by intro y hy; rcases List.mem_append.1 hy with h1 | h1; exact hpl' y h1; simp at h1; rw [h1]; exact hpx
        have hsx : sz (l.xs ++ [x]) = sz l.xs + xS x := by simp [sz_app, sz]
        have hge : sz (l.xs ++ [x]) ≤ i := by rw [hsx]; omega
        have hxe : (Tr.node k l x r).xs = (l.xs ++ [x]) ++ r.xs := by simp [Tr.xs]
        refine xc_region ?_
        refine x_val (r_move s0) (nd_of rfl) rfl ?_
        refine x_val (r_fieldAddr (o' := 2) Try.underlying90 rfl Try.sizeOf3 rfl (en rfl s8) rfl) (nd_of rfl) rfl ?_
        refine x_val (r_load h 2 rfl Try.isAgg3 es (nd1 ‹_›)) (nd_of rfl) rfl ?_
        refine x_val (r_move (en rfl (en rfl (en rfl s2)))) (nd_of rfl) rfl ?_
        refine x_val (r_move (en rfl (en rfl (en rfl (en rfl s10))))) (nd_of rfl) rfl ?_
        refine x_val (r_sub (en rfl es) es (show _ = ((i : Int) - sz l.xs : Int) from by rfl) (by unfold I64; omega)) (nd_of rfl) rfl ?_
        refine x_val (r_move (en rfl (en rfl (en rfl (en rfl (en rfl (en rfl s12))))))) (nd_of rfl) rfl ?_
        refine x_val (r_sub (en rfl es) es (show _ = (((i - sz l.xs - xS x : Nat) : Int) : Int) from by omega) (by unfold I64; omega)) (nd_of rfl) rfl ?_
        have h := h.f1
        have h := h.f1
        refine x_enter (r_call Try.call40 (.cons (en rfl (en rfl (en rfl (en rfl (en rfl (en rfl (en rfl es))))))) (.cons (en rfl (en rfl (en rfl (en rfl (en rfl es))))) (.cons es .nil)))) (nd_of rfl) rfl (ihr (i := i - sz l.xs - xS x) ht.2.2.2 hna.2.1 hbl.right.tail hpr (by omega) hpl h) ?_
        rintro _ w ⟨tl, tr, pl1, fr1, rfl, hsp, hx1, hx2, h⟩
        have hbj : Bd (l.xs ++ x :: tl.xs) := by rw [hx1]; simp only [Bd, List.length_append, List.length_cons, sz_app, mks_app, sz, mks]; omega
        obtain ⟨hj, hk⟩ := Sp.goR ht hn hsp hbj
        refine x_val (r_move es) (nd_of rfl) rfl ?_
        refine x_val (r_extract es gc0) (nd_of rfl) rfl ?_
        refine x_val (r_extract (en rfl es) gc1) (nd_of rfl) rfl ?_
        refine x_val (r_assign (en rfl es)) (nd_of rfl) rfl ?_
        refine x_val (r_assign (en rfl es)) (nd_of rfl) rfl ?_
        refine xw_nil ?_
        refine hK12 _ _ ?_
        refine xc_gen (fun g hg => ?_)
        have s0 := (hg 0).trans (en rfl (en rfl (en rfl (en rfl (en rfl (en rfl (en rfl (en rfl (en rfl (en rfl (en rfl (en rfl (en rfl (en rfl s0))))))))))))))
        have s1 := (hg 1).trans (en rfl (en rfl (en rfl (en rfl (en rfl (en rfl (en rfl (en rfl (en rfl (en rfl (en rfl (en rfl (en rfl (en rfl s1))))))))))))))
        have s2 := (hg 2).trans (en rfl (en rfl (en rfl (en rfl (en rfl (en rfl (en rfl (en rfl (en rfl (en rfl (en rfl (en rfl (en rfl (en rfl s2))))))))))))))
        have s6 := (hg 6).trans (en rfl es)
        have s7 := (hg 7).trans es
        have s8 := (hg 8).trans (en rfl (en rfl (en rfl (en rfl (en rfl (en rfl (en rfl (en rfl (en rfl (en rfl (en rfl (en rfl (en rfl (en rfl s8))))))))))))))
        have s10 := (hg 10).trans (en rfl (en rfl (en rfl (en rfl (en rfl (en rfl (en rfl (en rfl (en rfl (en rfl (en rfl (en rfl (en rfl (en rfl s10))))))))))))))
        have s12 := (hg 12).trans (en rfl (en rfl (en rfl (en rfl (en rfl (en rfl (en rfl (en rfl (en rfl (en rfl (en rfl (en rfl (en rfl (en rfl s12))))))))))))))
        have s19 := (hg 19).trans (en rfl (en rfl (en rfl (en rfl (en rfl (en rfl (en rfl (en rfl (en rfl (en rfl (en rfl (en rfl (en rfl (en rfl s19))))))))))))))
        have s42 := (hg 42).trans (en rfl (en rfl (en rfl (en rfl (en rfl (en rfl (en rfl (en rfl (en rfl (en rfl (en rfl (en rfl (en rfl (en rfl s42))))))))))))))
        have s61 := (hg 61).trans (en rfl (en rfl (en rfl (en rfl (en rfl (en rfl (en rfl (en rfl (en rfl (en rfl (en rfl (en rfl (en rfl (en rfl s61))))))))))))))
        clear hg
        refine xc_seq (fun K hK13 => ?_)
        refine xc_region ?_
        refine x_val (r_move s0) (nd_of rfl) rfl ?_
        refine x_val (r_fieldAddr (o' := 1) Try.underlying90 rfl Try.sizeOf3 rfl (en rfl s8) rfl) (nd_of rfl) rfl ?_
        refine x_val (r_load h 2 rfl Try.isAgg3 es (nd0 ‹_›)) (nd_of rfl) rfl ?_
        refine x_val (r_move (en rfl (en rfl (en rfl s1)))) (nd_of rfl) rfl ?_
        refine x_val (r_move (en rfl (en rfl (en rfl (en rfl s6))))) (nd_of rfl) rfl ?_
        have h := h.f1
        have h := h.f1
        refine x_enter (r_call Try.call46 (.cons (en rfl (en rfl (en rfl (en rfl es)))) (.cons (en rfl (en rfl es)) (.cons (en rfl es) (.cons es .nil))))) (nd_of rfl) rfl (join_t (l := l) (r := tl) hj h) ?_
        rintro _ w ⟨t2, pl2, rfl, hc2, h⟩
        refine x_val (r_move (en rfl (en rfl (en rfl (en rfl (en rfl (en rfl s7))))))) (nd_of rfl) rfl ?_
        refine x_val (r_assign (en rfl es)) (nd_of rfl) rfl ?_
        refine x_val (r_assign (en rfl es)) (nd_of rfl) rfl ?_
        refine xw_nil ?_
        refine hK13 _ _ ?_
        refine xc_gen (fun g hg => ?_)
        have s0 := (hg 0).trans (en rfl (en rfl (en rfl (en rfl (en rfl (en rfl (en rfl (en rfl (en rfl s0)))))))))
        have s1 := (hg 1).trans (en rfl (en rfl (en rfl (en rfl (en rfl (en rfl (en rfl (en rfl (en rfl s1)))))))))
        have s2 := (hg 2).trans (en rfl (en rfl (en rfl (en rfl (en rfl (en rfl (en rfl (en rfl (en rfl s2)))))))))
        have s6 := (hg 6).trans (en rfl es)
        have s7 := (hg 7).trans es
        have s8 := (hg 8).trans (en rfl (en rfl (en rfl (en rfl (en rfl (en rfl (en rfl (en rfl (en rfl s8)))))))))
        have s10 := (hg 10).trans (en rfl (en rfl (en rfl (en rfl (en rfl (en rfl (en rfl (en rfl (en rfl s10)))))))))
        have s12 := (hg 12).trans (en rfl (en rfl (en rfl (en rfl (en rfl (en rfl (en rfl (en rfl (en rfl s12)))))))))
        have s19 := (hg 19).trans (en rfl (en rfl (en rfl (en rfl (en rfl (en rfl (en rfl (en rfl (en rfl s19)))))))))
        have s42 := (hg 42).trans (en rfl (en rfl (en rfl (en rfl (en rfl (en rfl (en rfl (en rfl (en rfl s42)))))))))
        have s61 := (hg 61).trans (en rfl (en rfl (en rfl (en rfl (en rfl (en rfl (en rfl (en rfl (en rfl s61)))))))))
        clear hg
        refine xc_ret ?_
        refine bodyR_2 rfl s6 s7 ?_
        exact ⟨t2, tr, pl2, fr1, rfl, hk hc2, by rw [hxe, split_ge _ _ _ hps hge, hc2.xs, hx1, hsx, Nat.sub_sub]; simp, by rw [hxe, split_ge _ _ _ hps hge, hx2, hsx, Nat.sub_sub], h.f2.drop⟩
      ·
        have hd2 := of_decide_eq_false hc
        have hlt : i - sz l.xs < xS x := by omega
        have h0 : 0 < i - sz l.xs := by omega
        exact absurd hlt (by unfold xS; omega)
end
end Go.Proofs.Ytonnijghdlakfaa
