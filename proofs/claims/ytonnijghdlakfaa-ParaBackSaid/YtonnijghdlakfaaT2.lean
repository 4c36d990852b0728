/-
The tree's small functions: lean, lift, balance.
-/
import Derived.Test.YtonnijghdlakfaaT1
namespace Go.Proofs.Ytonnijghdlakfaa
open Go Go.RowKit
section
variable {E : Env} {R : List SProp} {w : World} {bt ba : Nat} {ro : Int} {pl : Pl} {fr : List Nat} {i j : Nat} {c0 : Array Value} {l r a b c : Tr} {x y : X}
theorem lean_t (ht : Has pl (.node i l x r)) (hb : Bd (l.xs ++ x :: r.xs)) (h : SatL E w (TC bt ba ro :: Ar ba pl fr :: R)) :
    Calls Try.prog 63 #[pT bt, .int .i64 (i : Int)] w (Ret fun v w' => v = .int .i64 ((l.ht : Int) - r.ht) ∧ SatL E w' (TC bt ba ro :: Ar ba pl fr :: R)) := by
  obtain ⟨hi, hx, hl, hr⟩ := ht
  have hok := hx.cells
  have h1 := l.ht_le
  have h2 := r.ht_le
  simp only [Bd, List.length_append, List.length_cons] at hb
  refine calls_x Try.func63 rfl Try.ntmps63 rfl ?_
  refine xc_gen (fun g hg => ?_)
  have s0 := (hg 0).trans arg0
  have s1 := (hg 1).trans arg1
  clear hg
  refine xc_seq (fun K hK1 => ?_)
  refine xc_region ?_
  refine x_val (r_assign ec) (nd_of rfl) rfl ?_
  refine xw_nil ?_
  refine hK1 _ _ ?_
  refine xc_gen (fun g hg => ?_)
  have s0 := (hg 0).trans (en rfl s0)
  have s1 := (hg 1).trans (en rfl s1)
  have s4 := (hg 4).trans es
  clear hg
  refine xc_seq (fun K hK2 => ?_)
  refine xc_region ?_
  refine x_val (r_move s0) (nd_of rfl) rfl ?_
  refine x_val (r_move (en rfl s1)) (nd_of rfl) rfl ?_
  refine x_enter (r_call Try.call54 (.cons (en rfl es) (.cons es .nil))) (nd_of rfl) rfl (at_t hi h) ?_
  rintro _ w ⟨rfl, h⟩
  refine x_declA h Try.zeroValue90 Try.sizeOf90 rfl (en rfl es) (by first | assumption | exact Ok.node (by assumption) | exact xOk.cells (by assumption) | exact ChOk.ok (by assumption)) rfl ?_
  intro b5 w h
  refine xw_nil ?_
  refine hK2 _ _ ?_
  refine xc_gen (fun g hg => ?_)
  have s0 := (hg 0).trans (en rfl (en rfl (en rfl (en rfl s0))))
  have s1 := (hg 1).trans (en rfl (en rfl (en rfl (en rfl s1))))
  have s4 := (hg 4).trans (en rfl (en rfl (en rfl (en rfl s4))))
  have s5 := (hg 5).trans es
  clear hg
  refine xc_seq (fun K hK3 => ?_)
  refine xc_region ?_
  refine x_val (r_move s0) (nd_of rfl) rfl ?_
  refine x_val (r_fieldAddr (o' := 1) Try.underlying90 rfl Try.sizeOf3 rfl (en rfl s5) rfl) (nd_of rfl) rfl ?_
  refine x_val (r_load h 0 rfl Try.isAgg3 es (nd0 ‹_›)) (nd_of rfl) rfl ?_
  have h := h.f2
  have h := h.f2
  refine x_enter (r_call Try.call53 (.cons (en rfl (en rfl es)) (.cons es .nil))) (nd_of rfl) rfl (totals_t hl h) ?_
  rintro _ w ⟨rfl, h⟩
  refine x_val (r_move es) (nd_of rfl) rfl ?_
  refine x_val (r_extract es gc0) (nd_of rfl) rfl ?_
  refine x_val (r_extract (en rfl es) gc1) (nd_of rfl) rfl ?_
  refine x_val (r_extract (en rfl (en rfl es)) gc2) (nd_of rfl) rfl ?_
  refine x_val (r_assign (en rfl (en rfl es))) (nd_of rfl) rfl ?_
  refine x_val (r_assign (en rfl (en rfl es))) (nd_of rfl) rfl ?_
  refine x_val (r_assign (en rfl (en rfl es))) (nd_of rfl) rfl ?_
  refine xw_nil ?_
  refine hK3 _ _ ?_
  refine xc_gen (fun g hg => ?_)
  have s0 := (hg 0).trans (en rfl (en rfl (en rfl (en rfl (en rfl (en rfl (en rfl (en rfl (en rfl (en rfl (en rfl s0)))))))))))
  have s1 := (hg 1).trans (en rfl (en rfl (en rfl (en rfl (en rfl (en rfl (en rfl (en rfl (en rfl (en rfl (en rfl s1)))))))))))
  have s4 := (hg 4).trans (en rfl (en rfl (en rfl (en rfl (en rfl (en rfl (en rfl (en rfl (en rfl (en rfl (en rfl s4)))))))))))
  have s5 := (hg 5).trans (en rfl (en rfl (en rfl (en rfl (en rfl (en rfl (en rfl (en rfl (en rfl (en rfl (en rfl s5)))))))))))
  have s6 := (hg 6).trans (en rfl (en rfl es))
  clear hg
  refine xc_seq (fun K hK4 => ?_)
  refine xc_region ?_
  refine x_val (r_move s0) (nd_of rfl) rfl ?_
  refine x_val (r_fieldAddr (o' := 2) Try.underlying90 rfl Try.sizeOf3 rfl (en rfl s5) rfl) (nd_of rfl) rfl ?_
  refine x_val (r_load h 2 rfl Try.isAgg3 es (nd1 ‹_›)) (nd_of rfl) rfl ?_
  have h := h.f1
  have h := h.f1
  refine x_enter (r_call Try.call53 (.cons (en rfl (en rfl es)) (.cons es .nil))) (nd_of rfl) rfl (totals_t hr h) ?_
  rintro _ w ⟨rfl, h⟩
  refine x_val (r_move es) (nd_of rfl) rfl ?_
  refine x_val (r_extract es gc0) (nd_of rfl) rfl ?_
  refine x_val (r_extract (en rfl es) gc1) (nd_of rfl) rfl ?_
  refine x_val (r_extract (en rfl (en rfl es)) gc2) (nd_of rfl) rfl ?_
  refine x_val (r_assign (en rfl (en rfl es))) (nd_of rfl) rfl ?_
  refine x_val (r_assign (en rfl (en rfl es))) (nd_of rfl) rfl ?_
  refine x_val (r_assign (en rfl (en rfl es))) (nd_of rfl) rfl ?_
  refine xw_nil ?_
  refine hK4 _ _ ?_
  refine xc_gen (fun g hg => ?_)
  have s0 := (hg 0).trans (en rfl (en rfl (en rfl (en rfl (en rfl (en rfl (en rfl (en rfl (en rfl (en rfl (en rfl s0)))))))))))
  have s1 := (hg 1).trans (en rfl (en rfl (en rfl (en rfl (en rfl (en rfl (en rfl (en rfl (en rfl (en rfl (en rfl s1)))))))))))
  have s4 := (hg 4).trans (en rfl (en rfl (en rfl (en rfl (en rfl (en rfl (en rfl (en rfl (en rfl (en rfl (en rfl s4)))))))))))
  have s5 := (hg 5).trans (en rfl (en rfl (en rfl (en rfl (en rfl (en rfl (en rfl (en rfl (en rfl (en rfl (en rfl s5)))))))))))
  have s6 := (hg 6).trans (en rfl (en rfl (en rfl (en rfl (en rfl (en rfl (en rfl (en rfl (en rfl (en rfl (en rfl s6)))))))))))
  have s9 := (hg 9).trans (en rfl (en rfl es))
  clear hg
  refine xc_seq (fun K hK5 => ?_)
  refine xc_region ?_
  refine x_val (r_move s6) (nd_of rfl) rfl ?_
  refine x_val (r_move (en rfl s9)) (nd_of rfl) rfl ?_
  refine x_val (r_sub (en rfl es) es rfl (by unfold I64; omega)) (nd_of rfl) rfl ?_
  refine x_val (r_assign es) (nd_of rfl) rfl ?_
  refine xw_nil ?_
  refine hK5 _ _ ?_
  refine xc_gen (fun g hg => ?_)
  have s0 := (hg 0).trans (en rfl (en rfl (en rfl (en rfl s0))))
  have s1 := (hg 1).trans (en rfl (en rfl (en rfl (en rfl s1))))
  have s4 := (hg 4).trans es
  have s5 := (hg 5).trans (en rfl (en rfl (en rfl (en rfl s5))))
  have s6 := (hg 6).trans (en rfl (en rfl (en rfl (en rfl s6))))
  have s9 := (hg 9).trans (en rfl (en rfl (en rfl (en rfl s9))))
  clear hg
  refine xc_ret ?_
  refine bodyR_1 rfl s4 ?_
  exact ⟨rfl, h.f2.drop⟩
theorem lift_l_pure (ht : Has pl (.node i (.node j a y b) x c)) (hn : (Tr.node i (.node j a y b) x c).idx.Nodup) :
    (pl.set i (some (cellOf b x c)))[j]? = some (some (cellOf a y b)) ∧ Has (pl.set i (some (cellOf b x c))) a ∧ Has (pl.set i (some (cellOf b x c))) (.node i b x c) ∧
    Ch pl ((pl.set i (some (cellOf b x c))).set j (some (cellOf a y (.node i b x c)))) (.node j a y (.node i b x c)) (Tr.node i (.node j a y b) x c).xs (Tr.node i (.node j a y b) x c).idx := by
  obtain ⟨hi, hx, ⟨hj, hy, ha, hb⟩, hc⟩ := ht
  have hil := (List.getElem?_eq_some_iff.1 hi).1
  have hjl := (List.getElem?_eq_some_iff.1 hj).1
  simp only [Tr.idx, List.nodup_cons, List.mem_cons, List.mem_append, List.cons_append, not_or] at hn
  have hnd := hn.2.2
  have hab := List.nodup_append.1 hnd
  have hab2 := List.nodup_append.1 hab.1
  have e1 : (pl.set i (some (cellOf b x c)))[j]? = some (some (cellOf a y b)) := by rw [List.getElem?_set_ne hn.1.1]; exact hj
  have e2 : Has (pl.set i (some (cellOf b x c))) a := ha.keep Keep.set (fun k hk => by simp; rintro rfl; exact hn.1.2.1.1 hk)
  have e3 : Has (pl.set i (some (cellOf b x c))) (.node i b x c) := hb.setNode hc hx (fun hk => hn.1.2.1.2 hk) hn.1.2.2 hil
  refine ⟨e1, e2, e3, ?_⟩
  have hnn : (j :: (a.idx ++ (Tr.node i b x c).idx)).Nodup := by
    have : (Tr.node i (.node j a y b) x c).idx.Nodup := by
      simp only [Tr.idx, List.nodup_cons, List.mem_cons, List.mem_append, List.cons_append, not_or]
      exact hn
    refine (List.Perm.nodup_iff (perm_of fun k => ?_)).1 this
    simp only [Tr.idx, List.count_append, List.count_cons]
    ac_rfl
  have hch := Ch.set e2 e3 hy hnn (by simpa using hjl)
  exact ⟨hch.has, by simp [Tr.xs], perm_of fun k => by simp only [Tr.idx, List.count_append, List.count_cons]; ac_rfl, (Keep.set.trans hch.keep (fun k hk => by simp at hk; simp [Tr.idx, hk]) (fun k hk => by simp [Tr.idx] at hk ⊢; rcases hk with h | h | h | h | h <;> simp [h])), by simp⟩
theorem lift_r_pure (ht : Has pl (.node i a x (.node j b y c))) (hn : (Tr.node i a x (.node j b y c)).idx.Nodup) :
    (pl.set i (some (cellOf a x b)))[j]? = some (some (cellOf b y c)) ∧ Has (pl.set i (some (cellOf a x b))) c ∧ Has (pl.set i (some (cellOf a x b))) (.node i a x b) ∧
    Ch pl ((pl.set i (some (cellOf a x b))).set j (some (cellOf (.node i a x b) y c))) (.node j (.node i a x b) y c) (Tr.node i a x (.node j b y c)).xs (Tr.node i a x (.node j b y c)).idx := by
  obtain ⟨hi, hx, ha, hj, hy, hb, hc⟩ := ht
  have hil := (List.getElem?_eq_some_iff.1 hi).1
  have hjl := (List.getElem?_eq_some_iff.1 hj).1
  have hn0 := hn
  simp only [Tr.idx, List.nodup_cons, List.mem_cons, List.mem_append, List.cons_append, not_or] at hn
  have e1 : (pl.set i (some (cellOf a x b)))[j]? = some (some (cellOf b y c)) := by rw [List.getElem?_set_ne hn.1.2.1]; exact hj
  have e2 : Has (pl.set i (some (cellOf a x b))) c := hc.keep Keep.set (fun k hk => by simp; rintro rfl; exact hn.1.2.2.2 hk)
  have e3 : Has (pl.set i (some (cellOf a x b))) (.node i a x b) := ha.setNode hb hx hn.1.1 hn.1.2.2.1 hil
  refine ⟨e1, e2, e3, ?_⟩
  have hnn : (j :: ((Tr.node i a x b).idx ++ c.idx)).Nodup := by
    refine (List.Perm.nodup_iff (perm_of fun k => ?_)).1 hn0
    simp only [Tr.idx, List.count_append, List.count_cons]
    ac_rfl
  have hch := Ch.set e3 e2 hy hnn (by simpa using hjl)
  exact ⟨hch.has, by simp [Tr.xs], perm_of fun k => by simp only [Tr.idx, List.count_append, List.count_cons]; ac_rfl, (Keep.set.trans hch.keep (fun k hk => by simp at hk; simp [Tr.idx, hk]) (fun k hk => by simp [Tr.idx] at hk ⊢; rcases hk with h | h | h | h | h <;> simp [h])), by simp⟩
theorem lift_l (ht : Has pl (.node i (.node j a y b) x c)) (hn : (Tr.node i (.node j a y b) x c).idx.Nodup) (hb : Bd (Tr.node i (.node j a y b) x c).xs) (h : SatL E w (TC bt ba ro :: Ar ba pl fr :: R)) :
    Calls Try.prog 64 #[pT bt, .int .i64 (i : Int), .bool true] w (Ret fun v w' => v = .int .i64 (j : Int) ∧ ∃ pl', Ch pl pl' (.node j a y (.node i b x c)) (Tr.node i (.node j a y b) x c).xs (Tr.node i (.node j a y b) x c).idx ∧ SatL E w' (TC bt ba ro :: Ar ba pl' fr :: R)) := by
  obtain ⟨e1, e2, e3, hch⟩ := lift_l_pure ht hn
  obtain ⟨hi, hx, ⟨hj, hy, ha, hbb⟩, hc⟩ := ht
  have hox := hx.cells
  have hoy := hy.cells
  have hb1 : Bd (b.xs ++ x :: c.xs) := by simp only [Tr.xs, List.append_assoc] at hb; exact (hb.right).tail
  have hb2 : Bd (a.xs ++ y :: (Tr.node i b x c).xs) := by simpa [Tr.xs] using hb
  refine calls_x Try.func64 rfl Try.ntmps64 rfl ?_
  refine xc_gen (fun g hg => ?_)
  have s0 := (hg 0).trans arg0
  have s1 := (hg 1).trans arg1
  have s2 := (hg 2).trans arg2
  clear hg
  refine xc_seq (fun K hK1 => ?_)
  refine xc_region ?_
  refine x_val (r_assign ec) (nd_of rfl) rfl ?_
  refine xw_nil ?_
  refine hK1 _ _ ?_
  refine xc_gen (fun g hg => ?_)
  have s0 := (hg 0).trans (en rfl s0)
  have s1 := (hg 1).trans (en rfl s1)
  have s2 := (hg 2).trans (en rfl s2)
  have s6 := (hg 6).trans es
  clear hg
  refine xc_seq (fun K hK2 => ?_)
  refine xc_region ?_
  refine x_val (r_move s0) (nd_of rfl) rfl ?_
  refine x_val (r_move (en rfl s1)) (nd_of rfl) rfl ?_
  refine x_enter (r_call Try.call54 (.cons (en rfl es) (.cons es .nil))) (nd_of rfl) rfl (at_t hi h) ?_
  rintro _ w ⟨rfl, h⟩
  refine x_declA h Try.zeroValue90 Try.sizeOf90 rfl (en rfl es) (by first | assumption | exact Ok.node (by assumption) | exact xOk.cells (by assumption) | exact ChOk.ok (by assumption)) rfl ?_
  intro b7 w h
  refine xw_nil ?_
  refine hK2 _ _ ?_
  refine xc_gen (fun g hg => ?_)
  have s0 := (hg 0).trans (en rfl (en rfl (en rfl (en rfl s0))))
  have s1 := (hg 1).trans (en rfl (en rfl (en rfl (en rfl s1))))
  have s2 := (hg 2).trans (en rfl (en rfl (en rfl (en rfl s2))))
  have s6 := (hg 6).trans (en rfl (en rfl (en rfl (en rfl s6))))
  have s7 := (hg 7).trans es
  clear hg
  refine xc_seq (fun K hK3 => ?_)
  refine xc_region ?_
  refine x_val (r_assign ec) (nd_of rfl) rfl ?_
  refine xw_nil ?_
  refine hK3 _ _ ?_
  refine xc_gen (fun g hg => ?_)
  have s0 := (hg 0).trans (en rfl s0)
  have s1 := (hg 1).trans (en rfl s1)
  have s2 := (hg 2).trans (en rfl s2)
  have s6 := (hg 6).trans (en rfl s6)
  have s7 := (hg 7).trans (en rfl s7)
  have s8 := (hg 8).trans es
  clear hg
  refine xc_seq (fun K hK4 => ?_)
  refine xc_seq (fun K hK5 => ?_)
  refine xc_region ?_
  refine x_val (r_move s2) (nd_of rfl) rfl ?_
  refine xw_nil ?_
  refine hK5 _ _ ?_
  refine xc_gen (fun g hg => ?_)
  have s0 := (hg 0).trans (en rfl s0)
  have s1 := (hg 1).trans (en rfl s1)
  have s2 := (hg 2).trans (en rfl s2)
  have s6 := (hg 6).trans (en rfl s6)
  have s7 := (hg 7).trans (en rfl s7)
  have s8 := (hg 8).trans (en rfl s8)
  have s14 := (hg 14).trans es
  clear hg
  refine xc_cond s14 (fun _ => ?_) (fun hc => by cases hc)
  refine xc_seq (fun K hK6 => ?_)
  refine xc_region ?_
  refine x_val (r_fieldAddr (o' := 1) Try.underlying90 rfl Try.sizeOf3 rfl s7 rfl) (nd_of rfl) rfl ?_
  refine x_val (r_load h 0 rfl Try.isAgg3 es (nd0 ‹_›)) (nd_of rfl) rfl ?_
  refine x_val (r_assign es) (nd_of rfl) rfl ?_
  refine xw_nil ?_
  refine hK6 _ _ ?_
  refine xc_gen (fun g hg => ?_)
  have s0 := (hg 0).trans (en rfl (en rfl (en rfl s0)))
  have s1 := (hg 1).trans (en rfl (en rfl (en rfl s1)))
  have s2 := (hg 2).trans (en rfl (en rfl (en rfl s2)))
  have s6 := (hg 6).trans (en rfl (en rfl (en rfl s6)))
  have s7 := (hg 7).trans (en rfl (en rfl (en rfl s7)))
  have s8 := (hg 8).trans es
  have s14 := (hg 14).trans (en rfl (en rfl (en rfl s14)))
  clear hg
  refine xc_seq (fun K hK7 => ?_)
  refine xc_region ?_
  refine x_val (r_move s0) (nd_of rfl) rfl ?_
  refine x_val (r_move (en rfl s8)) (nd_of rfl) rfl ?_
  have h := h.f2
  have h := h.f2
  refine x_enter (r_call Try.call54 (.cons (en rfl es) (.cons es .nil))) (nd_of rfl) rfl (at_t hj h) ?_
  rintro _ w ⟨rfl, h⟩
  refine x_declA h Try.zeroValue90 Try.sizeOf90 rfl (en rfl es) (by first | assumption | exact Ok.node (by assumption) | exact xOk.cells (by assumption) | exact ChOk.ok (by assumption)) rfl ?_
  intro b9 w h
  refine xw_nil ?_
  refine hK7 _ _ ?_
  refine xc_gen (fun g hg => ?_)
  have s0 := (hg 0).trans (en rfl (en rfl (en rfl (en rfl s0))))
  have s1 := (hg 1).trans (en rfl (en rfl (en rfl (en rfl s1))))
  have s2 := (hg 2).trans (en rfl (en rfl (en rfl (en rfl s2))))
  have s6 := (hg 6).trans (en rfl (en rfl (en rfl (en rfl s6))))
  have s7 := (hg 7).trans (en rfl (en rfl (en rfl (en rfl s7))))
  have s8 := (hg 8).trans (en rfl (en rfl (en rfl (en rfl s8))))
  have s9 := (hg 9).trans es
  have s14 := (hg 14).trans (en rfl (en rfl (en rfl (en rfl s14))))
  clear hg
  refine xc_seq (fun K hK8 => ?_)
  refine xc_region ?_
  refine x_val (r_fieldAddr (o' := 2) Try.underlying90 rfl Try.sizeOf3 rfl s9 rfl) (nd_of rfl) rfl ?_
  refine x_val (r_load h 0 rfl Try.isAgg3 es (nd1 ‹_›)) (nd_of rfl) rfl ?_
  refine x_val (r_fieldAddr (o' := 1) Try.underlying90 rfl Try.sizeOf3 rfl (en rfl (en rfl s7)) rfl) (nd_of rfl) rfl ?_
  refine x_st (r_store h 3 rfl Try.sizeOf3 es (en rfl es) rfl (nd0 ‹_›)) rfl (h.u3 (ns0 ‹_›)) ?_
  intro w h
  refine xw_nil ?_
  refine hK8 _ _ ?_
  refine xc_gen (fun g hg => ?_)
  have s0 := (hg 0).trans (en rfl (en rfl (en rfl s0)))
  have s1 := (hg 1).trans (en rfl (en rfl (en rfl s1)))
  have s2 := (hg 2).trans (en rfl (en rfl (en rfl s2)))
  have s6 := (hg 6).trans (en rfl (en rfl (en rfl s6)))
  have s7 := (hg 7).trans (en rfl (en rfl (en rfl s7)))
  have s8 := (hg 8).trans (en rfl (en rfl (en rfl s8)))
  have s9 := (hg 9).trans (en rfl (en rfl (en rfl s9)))
  have s14 := (hg 14).trans (en rfl (en rfl (en rfl s14)))
  clear hg
  refine xc_seq (fun K hK9 => ?_)
  refine xc_region ?_
  refine x_val (r_move s0) (nd_of rfl) rfl ?_
  refine x_val (r_move (en rfl s1)) (nd_of rfl) rfl ?_
  refine x_val (r_loadAgg h 3 rfl Try.isAgg90 Try.sizeOf90 (en rfl (en rfl s7)) (Ok.le (by first | assumption | exact Ok.node (by assumption) | exact xOk.cells (by assumption) | exact ChOk.ok (by assumption))) (ext_full (Ok.size (by first | assumption | exact Ok.node (by assumption) | exact xOk.cells (by assumption) | exact ChOk.ok (by assumption))))) (nd_of rfl) rfl ?_
  have h := h.f2
  have h := h.f2
  refine x_enter (r_call Try.call60 (.cons (en rfl (en rfl es)) (.cons (en rfl es) (.cons es .nil)))) (nd_of rfl) rfl (set_t hi hbb hc hx hb1 h) ?_
  rintro _ w h
  refine xw_nil ?_
  refine hK9 _ _ ?_
  refine xc_gen (fun g hg => ?_)
  have s0 := (hg 0).trans (en rfl (en rfl (en rfl (en rfl s0))))
  have s1 := (hg 1).trans (en rfl (en rfl (en rfl (en rfl s1))))
  have s2 := (hg 2).trans (en rfl (en rfl (en rfl (en rfl s2))))
  have s6 := (hg 6).trans (en rfl (en rfl (en rfl (en rfl s6))))
  have s7 := (hg 7).trans (en rfl (en rfl (en rfl (en rfl s7))))
  have s8 := (hg 8).trans (en rfl (en rfl (en rfl (en rfl s8))))
  have s9 := (hg 9).trans (en rfl (en rfl (en rfl (en rfl s9))))
  have s14 := (hg 14).trans (en rfl (en rfl (en rfl (en rfl s14))))
  clear hg
  refine xc_seq (fun K hK10 => ?_)
  refine xc_region ?_
  refine x_val (r_move s1) (nd_of rfl) rfl ?_
  refine x_val (r_fieldAddr (o' := 2) Try.underlying90 rfl Try.sizeOf3 rfl (en rfl s9) rfl) (nd_of rfl) rfl ?_
  refine x_st (r_store h 2 rfl Try.sizeOf3 es (en rfl es) rfl (nd1 ‹_›)) rfl (h.u2 (ns1 ‹_›)) ?_
  intro w h
  refine xw_nil ?_
  refine hK10 _ _ ?_
  refine xc_gen (fun g hg => ?_)
  have s0 := (hg 0).trans (en rfl (en rfl s0))
  have s1 := (hg 1).trans (en rfl (en rfl s1))
  have s2 := (hg 2).trans (en rfl (en rfl s2))
  have s6 := (hg 6).trans (en rfl (en rfl s6))
  have s7 := (hg 7).trans (en rfl (en rfl s7))
  have s8 := (hg 8).trans (en rfl (en rfl s8))
  have s9 := (hg 9).trans (en rfl (en rfl s9))
  have s14 := (hg 14).trans (en rfl (en rfl s14))
  clear hg
  refine xc_region ?_
  refine x_val (r_move s0) (nd_of rfl) rfl ?_
  refine x_val (r_move (en rfl s8)) (nd_of rfl) rfl ?_
  refine x_val (r_loadAgg h 2 rfl Try.isAgg90 Try.sizeOf90 (en rfl (en rfl s9)) (Ok.le (by first | assumption | exact Ok.node (by assumption) | exact xOk.cells (by assumption) | exact ChOk.ok (by assumption))) (ext_full (Ok.size (by first | assumption | exact Ok.node (by assumption) | exact xOk.cells (by assumption) | exact ChOk.ok (by assumption))))) (nd_of rfl) rfl ?_
  have h := h.f1
  have h := h.f1
  refine x_enter (r_call Try.call60 (.cons (en rfl (en rfl es)) (.cons (en rfl es) (.cons es .nil)))) (nd_of rfl) rfl (set_t (l := a) (r := .node i b x c) (x := y) e1 e2 e3 hy hb2 h) ?_
  rintro _ w h
  refine xw_nil ?_
  refine hK4 _ _ ?_
  refine xc_gen (fun g hg => ?_)
  have s0 := (hg 0).trans (en rfl (en rfl (en rfl (en rfl s0))))
  have s1 := (hg 1).trans (en rfl (en rfl (en rfl (en rfl s1))))
  have s2 := (hg 2).trans (en rfl (en rfl (en rfl (en rfl s2))))
  have s6 := (hg 6).trans (en rfl (en rfl (en rfl (en rfl s6))))
  have s7 := (hg 7).trans (en rfl (en rfl (en rfl (en rfl s7))))
  have s8 := (hg 8).trans (en rfl (en rfl (en rfl (en rfl s8))))
  have s9 := (hg 9).trans (en rfl (en rfl (en rfl (en rfl s9))))
  have s14 := (hg 14).trans (en rfl (en rfl (en rfl (en rfl s14))))
  clear hg
  refine xc_seq (fun K hK11 => ?_)
  refine xc_region ?_
  refine x_val (r_move s8) (nd_of rfl) rfl ?_
  refine x_val (r_assign es) (nd_of rfl) rfl ?_
  refine xw_nil ?_
  refine hK11 _ _ ?_
  refine xc_gen (fun g hg => ?_)
  have s0 := (hg 0).trans (en rfl (en rfl s0))
  have s1 := (hg 1).trans (en rfl (en rfl s1))
  have s2 := (hg 2).trans (en rfl (en rfl s2))
  have s6 := (hg 6).trans es
  have s7 := (hg 7).trans (en rfl (en rfl s7))
  have s8 := (hg 8).trans (en rfl (en rfl s8))
  have s9 := (hg 9).trans (en rfl (en rfl s9))
  have s14 := (hg 14).trans (en rfl (en rfl s14))
  clear hg
  refine xc_ret ?_
  refine bodyR_1 rfl s6 ?_
  exact ⟨rfl, _, hch, h.f2.drop.f2.drop⟩
theorem lift_r (ht : Has pl (.node i a x (.node j b y c))) (hn : (Tr.node i a x (.node j b y c)).idx.Nodup) (hb : Bd (Tr.node i a x (.node j b y c)).xs) (h : SatL E w (TC bt ba ro :: Ar ba pl fr :: R)) :
    Calls Try.prog 64 #[pT bt, .int .i64 (i : Int), .bool false] w (Ret fun v w' => v = .int .i64 (j : Int) ∧ ∃ pl', Ch pl pl' (.node j (.node i a x b) y c) (Tr.node i a x (.node j b y c)).xs (Tr.node i a x (.node j b y c)).idx ∧ SatL E w' (TC bt ba ro :: Ar ba pl' fr :: R)) := by
  obtain ⟨e1, e2, e3, hch⟩ := lift_r_pure ht hn
  obtain ⟨hi, hx, ha, hj, hy, hbb, hc⟩ := ht
  have hox := hx.cells
  have hoy := hy.cells
  have hb1 : Bd (a.xs ++ x :: b.xs) := by
    simp only [Tr.xs] at hb
    rw [show a.xs ++ x :: (b.xs ++ y :: c.xs) = (a.xs ++ x :: b.xs) ++ (y :: c.xs) by simp] at hb; exact hb.left
  have hb2 : Bd ((Tr.node i a x b).xs ++ y :: c.xs) := by simpa [Tr.xs] using hb
  refine calls_x Try.func64 rfl Try.ntmps64 rfl ?_
  refine xc_gen (fun g hg => ?_)
  have s0 := (hg 0).trans arg0
  have s1 := (hg 1).trans arg1
  have s2 := (hg 2).trans arg2
  clear hg
  refine xc_seq (fun K hK1 => ?_)
  refine xc_region ?_
  refine x_val (r_assign ec) (nd_of rfl) rfl ?_
  refine xw_nil ?_
  refine hK1 _ _ ?_
  refine xc_gen (fun g hg => ?_)
  have s0 := (hg 0).trans (en rfl s0)
  have s1 := (hg 1).trans (en rfl s1)
  have s2 := (hg 2).trans (en rfl s2)
  have s6 := (hg 6).trans es
  clear hg
  refine xc_seq (fun K hK2 => ?_)
  refine xc_region ?_
  refine x_val (r_move s0) (nd_of rfl) rfl ?_
  refine x_val (r_move (en rfl s1)) (nd_of rfl) rfl ?_
  refine x_enter (r_call Try.call54 (.cons (en rfl es) (.cons es .nil))) (nd_of rfl) rfl (at_t hi h) ?_
  rintro _ w ⟨rfl, h⟩
  refine x_declA h Try.zeroValue90 Try.sizeOf90 rfl (en rfl es) (by first | assumption | exact Ok.node (by assumption) | exact xOk.cells (by assumption) | exact ChOk.ok (by assumption)) rfl ?_
  intro b7 w h
  refine xw_nil ?_
  refine hK2 _ _ ?_
  refine xc_gen (fun g hg => ?_)
  have s0 := (hg 0).trans (en rfl (en rfl (en rfl (en rfl s0))))
  have s1 := (hg 1).trans (en rfl (en rfl (en rfl (en rfl s1))))
  have s2 := (hg 2).trans (en rfl (en rfl (en rfl (en rfl s2))))
  have s6 := (hg 6).trans (en rfl (en rfl (en rfl (en rfl s6))))
  have s7 := (hg 7).trans es
  clear hg
  refine xc_seq (fun K hK3 => ?_)
  refine xc_region ?_
  refine x_val (r_assign ec) (nd_of rfl) rfl ?_
  refine xw_nil ?_
  refine hK3 _ _ ?_
  refine xc_gen (fun g hg => ?_)
  have s0 := (hg 0).trans (en rfl s0)
  have s1 := (hg 1).trans (en rfl s1)
  have s2 := (hg 2).trans (en rfl s2)
  have s6 := (hg 6).trans (en rfl s6)
  have s7 := (hg 7).trans (en rfl s7)
  have s8 := (hg 8).trans es
  clear hg
  refine xc_seq (fun K hK4 => ?_)
  refine xc_seq (fun K hK5 => ?_)
  refine xc_region ?_
  refine x_val (r_move s2) (nd_of rfl) rfl ?_
  refine xw_nil ?_
  refine hK5 _ _ ?_
  refine xc_gen (fun g hg => ?_)
  have s0 := (hg 0).trans (en rfl s0)
  have s1 := (hg 1).trans (en rfl s1)
  have s2 := (hg 2).trans (en rfl s2)
  have s6 := (hg 6).trans (en rfl s6)
  have s7 := (hg 7).trans (en rfl s7)
  have s8 := (hg 8).trans (en rfl s8)
  have s14 := (hg 14).trans es
  clear hg
  refine xc_cond s14 (fun hc => by cases hc) (fun _ => ?_)
  refine xc_seq (fun K hK6 => ?_)
  refine xc_region ?_
  refine x_val (r_fieldAddr (o' := 2) Try.underlying90 rfl Try.sizeOf3 rfl s7 rfl) (nd_of rfl) rfl ?_
  refine x_val (r_load h 0 rfl Try.isAgg3 es (nd1 ‹_›)) (nd_of rfl) rfl ?_
  refine x_val (r_assign es) (nd_of rfl) rfl ?_
  refine xw_nil ?_
  refine hK6 _ _ ?_
  refine xc_gen (fun g hg => ?_)
  have s0 := (hg 0).trans (en rfl (en rfl (en rfl s0)))
  have s1 := (hg 1).trans (en rfl (en rfl (en rfl s1)))
  have s2 := (hg 2).trans (en rfl (en rfl (en rfl s2)))
  have s6 := (hg 6).trans (en rfl (en rfl (en rfl s6)))
  have s7 := (hg 7).trans (en rfl (en rfl (en rfl s7)))
  have s8 := (hg 8).trans es
  have s14 := (hg 14).trans (en rfl (en rfl (en rfl s14)))
  clear hg
  refine xc_seq (fun K hK7 => ?_)
  refine xc_region ?_
  refine x_val (r_move s0) (nd_of rfl) rfl ?_
  refine x_val (r_move (en rfl s8)) (nd_of rfl) rfl ?_
  have h := h.f2
  have h := h.f2
  refine x_enter (r_call Try.call54 (.cons (en rfl es) (.cons es .nil))) (nd_of rfl) rfl (at_t hj h) ?_
  rintro _ w ⟨rfl, h⟩
  refine x_declA h Try.zeroValue90 Try.sizeOf90 rfl (en rfl es) (by first | assumption | exact Ok.node (by assumption) | exact xOk.cells (by assumption) | exact ChOk.ok (by assumption)) rfl ?_
  intro b10 w h
  refine xw_nil ?_
  refine hK7 _ _ ?_
  refine xc_gen (fun g hg => ?_)
  have s0 := (hg 0).trans (en rfl (en rfl (en rfl (en rfl s0))))
  have s1 := (hg 1).trans (en rfl (en rfl (en rfl (en rfl s1))))
  have s2 := (hg 2).trans (en rfl (en rfl (en rfl (en rfl s2))))
  have s6 := (hg 6).trans (en rfl (en rfl (en rfl (en rfl s6))))
  have s7 := (hg 7).trans (en rfl (en rfl (en rfl (en rfl s7))))
  have s8 := (hg 8).trans (en rfl (en rfl (en rfl (en rfl s8))))
  have s10 := (hg 10).trans es
  have s14 := (hg 14).trans (en rfl (en rfl (en rfl (en rfl s14))))
  clear hg
  refine xc_seq (fun K hK8 => ?_)
  refine xc_region ?_
  refine x_val (r_fieldAddr (o' := 1) Try.underlying90 rfl Try.sizeOf3 rfl s10 rfl) (nd_of rfl) rfl ?_
  refine x_val (r_load h 0 rfl Try.isAgg3 es (nd0 ‹_›)) (nd_of rfl) rfl ?_
  refine x_val (r_fieldAddr (o' := 2) Try.underlying90 rfl Try.sizeOf3 rfl (en rfl (en rfl s7)) rfl) (nd_of rfl) rfl ?_
  refine x_st (r_store h 3 rfl Try.sizeOf3 es (en rfl es) rfl (nd1 ‹_›)) rfl (h.u3 (ns1 ‹_›)) ?_
  intro w h
  refine xw_nil ?_
  refine hK8 _ _ ?_
  refine xc_gen (fun g hg => ?_)
  have s0 := (hg 0).trans (en rfl (en rfl (en rfl s0)))
  have s1 := (hg 1).trans (en rfl (en rfl (en rfl s1)))
  have s2 := (hg 2).trans (en rfl (en rfl (en rfl s2)))
  have s6 := (hg 6).trans (en rfl (en rfl (en rfl s6)))
  have s7 := (hg 7).trans (en rfl (en rfl (en rfl s7)))
  have s8 := (hg 8).trans (en rfl (en rfl (en rfl s8)))
  have s10 := (hg 10).trans (en rfl (en rfl (en rfl s10)))
  have s14 := (hg 14).trans (en rfl (en rfl (en rfl s14)))
  clear hg
  refine xc_seq (fun K hK9 => ?_)
  refine xc_region ?_
  refine x_val (r_move s0) (nd_of rfl) rfl ?_
  refine x_val (r_move (en rfl s1)) (nd_of rfl) rfl ?_
  refine x_val (r_loadAgg h 3 rfl Try.isAgg90 Try.sizeOf90 (en rfl (en rfl s7)) (Ok.le (by first | assumption | exact Ok.node (by assumption) | exact xOk.cells (by assumption) | exact ChOk.ok (by assumption))) (ext_full (Ok.size (by first | assumption | exact Ok.node (by assumption) | exact xOk.cells (by assumption) | exact ChOk.ok (by assumption))))) (nd_of rfl) rfl ?_
  have h := h.f2
  have h := h.f2
  refine x_enter (r_call Try.call60 (.cons (en rfl (en rfl es)) (.cons (en rfl es) (.cons es .nil)))) (nd_of rfl) rfl (set_t hi ha hbb hx hb1 h) ?_
  rintro _ w h
  refine xw_nil ?_
  refine hK9 _ _ ?_
  refine xc_gen (fun g hg => ?_)
  have s0 := (hg 0).trans (en rfl (en rfl (en rfl (en rfl s0))))
  have s1 := (hg 1).trans (en rfl (en rfl (en rfl (en rfl s1))))
  have s2 := (hg 2).trans (en rfl (en rfl (en rfl (en rfl s2))))
  have s6 := (hg 6).trans (en rfl (en rfl (en rfl (en rfl s6))))
  have s7 := (hg 7).trans (en rfl (en rfl (en rfl (en rfl s7))))
  have s8 := (hg 8).trans (en rfl (en rfl (en rfl (en rfl s8))))
  have s10 := (hg 10).trans (en rfl (en rfl (en rfl (en rfl s10))))
  have s14 := (hg 14).trans (en rfl (en rfl (en rfl (en rfl s14))))
  clear hg
  refine xc_seq (fun K hK10 => ?_)
  refine xc_region ?_
  refine x_val (r_move s1) (nd_of rfl) rfl ?_
  refine x_val (r_fieldAddr (o' := 1) Try.underlying90 rfl Try.sizeOf3 rfl (en rfl s10) rfl) (nd_of rfl) rfl ?_
  refine x_st (r_store h 2 rfl Try.sizeOf3 es (en rfl es) rfl (nd0 ‹_›)) rfl (h.u2 (ns0 ‹_›)) ?_
  intro w h
  refine xw_nil ?_
  refine hK10 _ _ ?_
  refine xc_gen (fun g hg => ?_)
  have s0 := (hg 0).trans (en rfl (en rfl s0))
  have s1 := (hg 1).trans (en rfl (en rfl s1))
  have s2 := (hg 2).trans (en rfl (en rfl s2))
  have s6 := (hg 6).trans (en rfl (en rfl s6))
  have s7 := (hg 7).trans (en rfl (en rfl s7))
  have s8 := (hg 8).trans (en rfl (en rfl s8))
  have s10 := (hg 10).trans (en rfl (en rfl s10))
  have s14 := (hg 14).trans (en rfl (en rfl s14))
  clear hg
  refine xc_region ?_
  refine x_val (r_move s0) (nd_of rfl) rfl ?_
  refine x_val (r_move (en rfl s8)) (nd_of rfl) rfl ?_
  refine x_val (r_loadAgg h 2 rfl Try.isAgg90 Try.sizeOf90 (en rfl (en rfl s10)) (Ok.le (by first | assumption | exact Ok.node (by assumption) | exact xOk.cells (by assumption) | exact ChOk.ok (by assumption))) (ext_full (Ok.size (by first | assumption | exact Ok.node (by assumption) | exact xOk.cells (by assumption) | exact ChOk.ok (by assumption))))) (nd_of rfl) rfl ?_
  have h := h.f1
  have h := h.f1
  refine x_enter (r_call Try.call60 (.cons (en rfl (en rfl es)) (.cons (en rfl es) (.cons es .nil)))) (nd_of rfl) rfl (set_t (l := .node i a x b) (r := c) (x := y) e1 e3 e2 hy hb2 h) ?_
  rintro _ w h
  refine xw_nil ?_
  refine hK4 _ _ ?_
  refine xc_gen (fun g hg => ?_)
  have s0 := (hg 0).trans (en rfl (en rfl (en rfl (en rfl s0))))
  have s1 := (hg 1).trans (en rfl (en rfl (en rfl (en rfl s1))))
  have s2 := (hg 2).trans (en rfl (en rfl (en rfl (en rfl s2))))
  have s6 := (hg 6).trans (en rfl (en rfl (en rfl (en rfl s6))))
  have s7 := (hg 7).trans (en rfl (en rfl (en rfl (en rfl s7))))
  have s8 := (hg 8).trans (en rfl (en rfl (en rfl (en rfl s8))))
  have s10 := (hg 10).trans (en rfl (en rfl (en rfl (en rfl s10))))
  have s14 := (hg 14).trans (en rfl (en rfl (en rfl (en rfl s14))))
  clear hg
  refine xc_seq (fun K hK11 => ?_)
  refine xc_region ?_
  refine x_val (r_move s8) (nd_of rfl) rfl ?_
  refine x_val (r_assign es) (nd_of rfl) rfl ?_
  refine xw_nil ?_
  refine hK11 _ _ ?_
  refine xc_gen (fun g hg => ?_)
  have s0 := (hg 0).trans (en rfl (en rfl s0))
  have s1 := (hg 1).trans (en rfl (en rfl s1))
  have s2 := (hg 2).trans (en rfl (en rfl s2))
  have s6 := (hg 6).trans es
  have s7 := (hg 7).trans (en rfl (en rfl s7))
  have s8 := (hg 8).trans (en rfl (en rfl s8))
  have s10 := (hg 10).trans (en rfl (en rfl s10))
  have s14 := (hg 14).trans (en rfl (en rfl s14))
  clear hg
  refine xc_ret ?_
  refine bodyR_1 rfl s6 ?_
  exact ⟨rfl, _, hch, h.f2.drop.f2.drop⟩
theorem Ch.next {pl' pl'' : Pl} {t t' : Tr} {xs : List X} {ix : List Nat} (h : Ch pl pl' t xs ix) (h' : Ch pl' pl'' t' t.xs t.idx) : Ch pl pl'' t' xs ix := h.trans h' h.xs h.idx
theorem Ch.left {pl1 pl2 : Pl} {l' : Tr} {X0 : List X} {I0 : List Nat} (h : Ch pl pl1 (.node i l x r) X0 I0) (hn : (Tr.node i l x r).idx.Nodup) (h1 : Ch pl1 pl2 l' l.xs l.idx) :
    pl2[i]? = some (some (cellOf l x r)) ∧ Has pl2 r ∧ (i :: (l'.idx ++ r.idx)).Nodup ∧ Ch pl (pl2.set i (some (cellOf l' x r))) (.node i l' x r) X0 I0 := by
  have hi1 : pl2[i]? = some (some (cellOf l x r)) := h1.keep i _ (fun hh => (List.nodup_cons.1 hn).1 (by simp [hh])) h.has.1
  have hr1 : Has pl2 r := h.has.2.2.2.keep h1.keep (fun m hm hh => (List.nodup_append.1 (List.nodup_cons.1 hn).2).2.2 m hh m hm rfl)
  have hp1 : (i :: (l'.idx ++ r.idx)).Perm (i :: (l.idx ++ r.idx)) := (h1.idx.append_right _).cons _
  have hn1 := hp1.nodup_iff.2 hn
  have h2 := Ch.set h1.has hr1 h.has.2.1 hn1 (List.getElem?_eq_some_iff.1 hi1).1
  refine ⟨hi1, hr1, hn1, h2.has, ?_, hp1.trans h.idx, ?_, (h2.len.trans h1.len).trans h.len⟩
  · rw [← h.xs, h2.xs, h1.xs]; rfl
  · have hk1 : Keep pl1 pl2 (Tr.node i l x r).idx := h1.keep.mono fun m hm => by simp [Tr.idx, hm]
    have hk2 : Keep pl2 (pl2.set i (some (cellOf l' x r))) (Tr.node i l x r).idx := Keep.set.mono fun m hm => by simp at hm; simp [Tr.idx, hm]
    exact (h.keep.trans hk1 (fun _ hm => hm) (fun m hm => h.idx.subset hm)).trans hk2 (fun _ hm => hm) (fun m hm => h.idx.subset hm)
theorem Ch.right {pl1 pl2 : Pl} {r' : Tr} {X0 : List X} {I0 : List Nat} (h : Ch pl pl1 (.node i l x r) X0 I0) (hn : (Tr.node i l x r).idx.Nodup) (h1 : Ch pl1 pl2 r' r.xs r.idx) :
    pl2[i]? = some (some (cellOf l x r)) ∧ Has pl2 l ∧ (i :: (l.idx ++ r'.idx)).Nodup ∧ Ch pl (pl2.set i (some (cellOf l x r'))) (.node i l x r') X0 I0 := by
  have hi1 : pl2[i]? = some (some (cellOf l x r)) := h1.keep i _ (fun hh => (List.nodup_cons.1 hn).1 (by simp [hh])) h.has.1
  have hr1 : Has pl2 l := h.has.2.2.1.keep h1.keep (fun m hm hh => (List.nodup_append.1 (List.nodup_cons.1 hn).2).2.2 m hm m hh rfl)
  have hp1 : (i :: (l.idx ++ r'.idx)).Perm (i :: (l.idx ++ r.idx)) := (h1.idx.append_left _).cons _
  have hn1 := hp1.nodup_iff.2 hn
  have h2 := Ch.set hr1 h1.has h.has.2.1 hn1 (List.getElem?_eq_some_iff.1 hi1).1
  refine ⟨hi1, hr1, hn1, h2.has, ?_, hp1.trans h.idx, ?_, (h2.len.trans h1.len).trans h.len⟩
  · rw [← h.xs, h2.xs, h1.xs]; rfl
  · have hk1 : Keep pl1 pl2 (Tr.node i l x r).idx := h1.keep.mono fun m hm => by simp [Tr.idx, hm]
    have hk2 : Keep pl2 (pl2.set i (some (cellOf l x r'))) (Tr.node i l x r).idx := Keep.set.mono fun m hm => by simp at hm; simp [Tr.idx, hm]
    exact (h.keep.trans hk1 (fun _ hm => hm) (fun m hm => h.idx.subset hm)).trans hk2 (fun _ hm => hm) (fun m hm => h.idx.subset hm)
theorem balance_t {p q s : Int} (hi : pl[i]? = some (some c0)) (hl : Has pl l) (hr : Has pl r) (hx : xOk x) (hn : (i :: (l.idx ++ r.idx)).Nodup) (hb : Bd (l.xs ++ x :: r.xs)) (h : SatL E w (TC bt ba ro :: Ar ba pl fr :: R)) :
    Calls Try.prog 59 #[pT bt, .int .i64 (i : Int), .agg (ndC (xC x) l.root r.root p q s)] w (Ret fun v w' => ∃ t' pl', v = .int .i64 t'.root ∧ Ch pl pl' t' (l.xs ++ x :: r.xs) (i :: (l.idx ++ r.idx)) ∧ SatL E w' (TC bt ba ro :: Ar ba pl' fr :: R)) := by
  have hil := (List.getElem?_eq_some_iff.1 hi).1
  have hox := hx.cells
  have hch := Ch.set hl hr hx hn hil
  have hN : (Tr.node i l x r).idx.Nodup := hn
  have hB : Bd (Tr.node i l x r).xs := hb
  refine calls_x Try.func59 rfl Try.ntmps59 rfl ?_
  refine xc_gen (fun g hg => ?_)
  have s0 := (hg 0).trans arg0
  have s1 := (hg 1).trans arg1
  have s2 := (hg 2).trans arg2
  clear hg
  refine xc_seq (fun K hK1 => ?_)
  refine xc_region ?_
  refine x_boxA h s2 rfl ?_
  intro b5 w h
  refine x_val (r_assign ec) (nd_of rfl) rfl ?_
  refine xw_nil ?_
  refine hK1 _ _ ?_
  refine xc_gen (fun g hg => ?_)
  have s0 := (hg 0).trans (en rfl (en rfl s0))
  have s1 := (hg 1).trans (en rfl (en rfl s1))
  have s2 := (hg 2).trans (en rfl (en rfl s2))
  have s5 := (hg 5).trans (en rfl es)
  have s6 := (hg 6).trans es
  clear hg
  refine xc_seq (fun K hK2 => ?_)
  refine xc_region ?_
  refine x_val (r_move s0) (nd_of rfl) rfl ?_
  refine x_val (r_move (en rfl s1)) (nd_of rfl) rfl ?_
  refine x_val (r_loadAgg h 0 rfl Try.isAgg90 Try.sizeOf90 (en rfl (en rfl s5)) (Ok.le (by first | assumption | exact Ok.node (by assumption) | exact xOk.cells (by assumption) | exact ChOk.ok (by assumption))) (ext_full (Ok.size (by first | assumption | exact Ok.node (by assumption) | exact xOk.cells (by assumption) | exact ChOk.ok (by assumption))))) (nd_of rfl) rfl ?_
  have h := h.f2
  have h := h.f2
  refine x_enter (r_call Try.call60 (.cons (en rfl (en rfl es)) (.cons (en rfl es) (.cons es .nil)))) (nd_of rfl) rfl (set_t (l := l) (r := r) (x := x) hi hl hr hx hb h) ?_
  rintro _ w h
  refine xw_nil ?_
  refine hK2 _ _ ?_
  refine xc_gen (fun g hg => ?_)
  have s0 := (hg 0).trans (en rfl (en rfl (en rfl (en rfl s0))))
  have s1 := (hg 1).trans (en rfl (en rfl (en rfl (en rfl s1))))
  have s2 := (hg 2).trans (en rfl (en rfl (en rfl (en rfl s2))))
  have s5 := (hg 5).trans (en rfl (en rfl (en rfl (en rfl s5))))
  have s6 := (hg 6).trans (en rfl (en rfl (en rfl (en rfl s6))))
  clear hg
  refine xc_seq (fun K hK3 => ?_)
  refine xc_seq (fun K hK4 => ?_)
  refine xc_region ?_
  refine x_val (r_move s0) (nd_of rfl) rfl ?_
  refine x_val (r_move (en rfl s1)) (nd_of rfl) rfl ?_
  have h := h.f1
  have h := h.f1
  refine x_enter (r_call Try.call63 (.cons (en rfl es) (.cons es .nil))) (nd_of rfl) rfl (lean_t hch.has hb h) ?_
  rintro _ w ⟨rfl, h⟩
  refine x_val (r_assign es) (nd_of rfl) rfl ?_
  refine xw_nil ?_
  refine hK4 _ _ ?_
  refine xc_gen (fun g hg => ?_)
  have s0 := (hg 0).trans (en rfl (en rfl (en rfl (en rfl s0))))
  have s1 := (hg 1).trans (en rfl (en rfl (en rfl (en rfl s1))))
  have s2 := (hg 2).trans (en rfl (en rfl (en rfl (en rfl s2))))
  have s5 := (hg 5).trans (en rfl (en rfl (en rfl (en rfl s5))))
  have s6 := (hg 6).trans (en rfl (en rfl (en rfl (en rfl s6))))
  have s7 := (hg 7).trans es
  clear hg
  refine xc_block ?_
  refine xc_seq (fun K hK5 => ?_)
  refine xc_region ?_
  refine x_val (r_move s7) (nd_of rfl) rfl ?_
  refine x_val (r_gtr es ec rfl) (nd_of rfl) rfl ?_
  refine x_val (r_assign es) (nd_of rfl) rfl ?_
  refine xw_nil ?_
  refine hK5 _ _ ?_
  refine xc_gen (fun g hg => ?_)
  have s0 := (hg 0).trans (en rfl (en rfl (en rfl s0)))
  have s1 := (hg 1).trans (en rfl (en rfl (en rfl s1)))
  have s2 := (hg 2).trans (en rfl (en rfl (en rfl s2)))
  have s5 := (hg 5).trans (en rfl (en rfl (en rfl s5)))
  have s6 := (hg 6).trans (en rfl (en rfl (en rfl s6)))
  have s7 := (hg 7).trans (en rfl (en rfl (en rfl s7)))
  have s15 := (hg 15).trans es
  clear hg
  refine xc_cond s15 (fun hc => ?_) (fun hc => ?_)
  ·
    refine xc_seq (fun K hK6 => ?_)
    refine xc_seq (fun K hK7 => ?_)
    have hd := of_decide_eq_true hc
    obtain ⟨j, a, y, b, rfl⟩ : ∃ j a y b, l = .node j a y b := by cases l with | nil => (simp only [Tr.ht] at hd; omega) | node j a y b => exact ⟨j, a, y, b, rfl⟩
    have hB2 : Bd (a.xs ++ y :: b.xs) := hb.left
    refine xc_region ?_
    refine x_val (r_move s0) (nd_of rfl) rfl ?_
    refine x_val (r_fieldAddr (o' := 1) Try.underlying90 rfl Try.sizeOf3 rfl (en rfl s5) rfl) (nd_of rfl) rfl ?_
    refine x_val (r_load h 2 rfl Try.isAgg3 es (nd0 ‹_›)) (nd_of rfl) rfl ?_
    have h := h.f1
    have h := h.f1
    refine x_enter (r_call Try.call63 (.cons (en rfl (en rfl es)) (.cons es .nil))) (nd_of rfl) rfl (lean_t (l := a) (r := b) hch.has.2.2.1 hB2 h) ?_
    rintro _ w ⟨rfl, h⟩
    refine x_val (r_lss es ec rfl) (nd_of rfl) rfl ?_
    refine xw_nil ?_
    refine hK7 _ _ ?_
    refine xc_gen (fun g hg => ?_)
    have s0 := (hg 0).trans (en rfl (en rfl (en rfl (en rfl (en rfl s0)))))
    have s1 := (hg 1).trans (en rfl (en rfl (en rfl (en rfl (en rfl s1)))))
    have s2 := (hg 2).trans (en rfl (en rfl (en rfl (en rfl (en rfl s2)))))
    have s5 := (hg 5).trans (en rfl (en rfl (en rfl (en rfl (en rfl s5)))))
    have s6 := (hg 6).trans (en rfl (en rfl (en rfl (en rfl (en rfl s6)))))
    have s7 := (hg 7).trans (en rfl (en rfl (en rfl (en rfl (en rfl s7)))))
    have s15 := (hg 15).trans (en rfl (en rfl (en rfl (en rfl (en rfl s15)))))
    have s22 := (hg 22).trans es
    clear hg
    refine xc_cond s22 (fun hc => ?_) (fun hc => ?_)
    ·
      refine xc_seq (fun K hK8 => ?_)
      have hd2 := of_decide_eq_true hc
      obtain ⟨k, b1, z, b2, rfl⟩ : ∃ k b1 z b2, b = .node k b1 z b2 := by cases b with | nil => (simp only [Tr.ht] at hd2; omega) | node k b1 z b2 => exact ⟨k, b1, z, b2, rfl⟩
      have hNl : (Tr.node j a y (.node k b1 z b2)).idx.Nodup := (List.nodup_append.1 (List.nodup_cons.1 hN).2).1
      refine xc_region ?_
      refine x_val (r_move s0) (nd_of rfl) rfl ?_
      refine x_val (r_fieldAddr (o' := 1) Try.underlying90 rfl Try.sizeOf3 rfl (en rfl s5) rfl) (nd_of rfl) rfl ?_
      refine x_val (r_load h 2 rfl Try.isAgg3 es (nd0 ‹_›)) (nd_of rfl) rfl ?_
      have h := h.f1
      have h := h.f1
      refine x_enter (r_call Try.call64 (.cons (en rfl (en rfl es)) (.cons es (.cons ec .nil)))) (nd_of rfl) rfl (lift_r hch.has.2.2.1 hNl hB2 h) ?_
      rintro _ w ⟨rfl, pl1, hc1, h⟩
      obtain ⟨hi1, hr1, hn1, hch2⟩ := hch.left hN hc1
      have hb1 : Bd ((Tr.node k (.node j a y b1) z b2).xs ++ x :: r.xs) := by rw [hc1.xs]; exact hb
      refine x_val (r_fieldAddr (o' := 1) Try.underlying90 rfl Try.sizeOf3 rfl (en rfl (en rfl (en rfl (en rfl s5)))) rfl) (nd_of rfl) rfl ?_
      refine x_st (r_store h 2 rfl Try.sizeOf3 es (en rfl es) rfl (nd0 ‹_›)) rfl (h.u2 (ns0 ‹_›)) ?_
      intro w h
      refine xw_nil ?_
      refine hK8 _ _ ?_
      refine xc_gen (fun g hg => ?_)
      have s0 := (hg 0).trans (en rfl (en rfl (en rfl (en rfl (en rfl s0)))))
      have s1 := (hg 1).trans (en rfl (en rfl (en rfl (en rfl (en rfl s1)))))
      have s2 := (hg 2).trans (en rfl (en rfl (en rfl (en rfl (en rfl s2)))))
      have s5 := (hg 5).trans (en rfl (en rfl (en rfl (en rfl (en rfl s5)))))
      have s6 := (hg 6).trans (en rfl (en rfl (en rfl (en rfl (en rfl s6)))))
      have s7 := (hg 7).trans (en rfl (en rfl (en rfl (en rfl (en rfl s7)))))
      have s15 := (hg 15).trans (en rfl (en rfl (en rfl (en rfl (en rfl s15)))))
      have s22 := (hg 22).trans (en rfl (en rfl (en rfl (en rfl (en rfl s22)))))
      clear hg
      refine xc_region ?_
      refine x_val (r_move s0) (nd_of rfl) rfl ?_
      refine x_val (r_move (en rfl s1)) (nd_of rfl) rfl ?_
      refine x_val (r_loadAgg h 2 rfl Try.isAgg90 Try.sizeOf90 (en rfl (en rfl s5)) (Ok.le (by first | assumption | exact Ok.node (by assumption) | exact xOk.cells (by assumption) | exact ChOk.ok (by assumption))) (ext_full (Ok.size (by first | assumption | exact Ok.node (by assumption) | exact xOk.cells (by assumption) | exact ChOk.ok (by assumption))))) (nd_of rfl) rfl ?_
      have h := h.f1
      have h := h.f1
      refine x_enter (r_call Try.call60 (.cons (en rfl (en rfl es)) (.cons (en rfl es) (.cons es .nil)))) (nd_of rfl) rfl (set_t (l := .node k (.node j a y b1) z b2) (r := r) (x := x) hi1 hc1.has hr1 hx hb1 h) ?_
      rintro _ w h
      refine xw_nil ?_
      refine hK6 _ _ ?_
      refine xc_gen (fun g hg => ?_)
      have s0 := (hg 0).trans (en rfl (en rfl (en rfl (en rfl s0))))
      have s1 := (hg 1).trans (en rfl (en rfl (en rfl (en rfl s1))))
      have s2 := (hg 2).trans (en rfl (en rfl (en rfl (en rfl s2))))
      have s5 := (hg 5).trans (en rfl (en rfl (en rfl (en rfl s5))))
      have s6 := (hg 6).trans (en rfl (en rfl (en rfl (en rfl s6))))
      have s7 := (hg 7).trans (en rfl (en rfl (en rfl (en rfl s7))))
      have s15 := (hg 15).trans (en rfl (en rfl (en rfl (en rfl s15))))
      have s22 := (hg 22).trans (en rfl (en rfl (en rfl (en rfl s22))))
      clear hg
      refine xc_seq (fun K hK9 => ?_)
      refine xc_region ?_
      refine x_val (r_move s0) (nd_of rfl) rfl ?_
      refine x_val (r_move (en rfl s1)) (nd_of rfl) rfl ?_
      have h := h.f1
      have h := h.f1
      refine x_enter (r_call Try.call64 (.cons (en rfl es) (.cons es (.cons ec .nil)))) (nd_of rfl) rfl (lift_l hch2.has hn1 hb1 h) ?_
      rintro _ w ⟨rfl, pl2, hc2, h⟩
      refine x_val (r_assign es) (nd_of rfl) rfl ?_
      refine xw_nil ?_
      refine hK9 _ _ ?_
      refine xc_gen (fun g hg => ?_)
      have s0 := (hg 0).trans (en rfl (en rfl (en rfl (en rfl s0))))
      have s1 := (hg 1).trans (en rfl (en rfl (en rfl (en rfl s1))))
      have s2 := (hg 2).trans (en rfl (en rfl (en rfl (en rfl s2))))
      have s5 := (hg 5).trans (en rfl (en rfl (en rfl (en rfl s5))))
      have s6 := (hg 6).trans es
      have s7 := (hg 7).trans (en rfl (en rfl (en rfl (en rfl s7))))
      have s15 := (hg 15).trans (en rfl (en rfl (en rfl (en rfl s15))))
      have s22 := (hg 22).trans (en rfl (en rfl (en rfl (en rfl s22))))
      clear hg
      refine xc_ret ?_
      refine bodyR_1 rfl s6 ?_
      exact ⟨_, pl2, rfl, hch2.next hc2, h.f2.drop⟩
    ·
      refine xc_skip ?_
      refine hK6 _ _ ?_
      refine xc_seq (fun K hK10 => ?_)
      refine xc_region ?_
      refine x_val (r_move s0) (nd_of rfl) rfl ?_
      refine x_val (r_move (en rfl s1)) (nd_of rfl) rfl ?_
      have h := h.f1
      have h := h.f1
      refine x_enter (r_call Try.call64 (.cons (en rfl es) (.cons es (.cons ec .nil)))) (nd_of rfl) rfl (lift_l hch.has hN hb h) ?_
      rintro _ w ⟨rfl, pl2, hc2, h⟩
      refine x_val (r_assign es) (nd_of rfl) rfl ?_
      refine xw_nil ?_
      refine hK10 _ _ ?_
      refine xc_gen (fun g hg => ?_)
      have s0 := (hg 0).trans (en rfl (en rfl (en rfl (en rfl s0))))
      have s1 := (hg 1).trans (en rfl (en rfl (en rfl (en rfl s1))))
      have s2 := (hg 2).trans (en rfl (en rfl (en rfl (en rfl s2))))
      have s5 := (hg 5).trans (en rfl (en rfl (en rfl (en rfl s5))))
      have s6 := (hg 6).trans es
      have s7 := (hg 7).trans (en rfl (en rfl (en rfl (en rfl s7))))
      have s15 := (hg 15).trans (en rfl (en rfl (en rfl (en rfl s15))))
      have s22 := (hg 22).trans (en rfl (en rfl (en rfl (en rfl s22))))
      clear hg
      refine xc_ret ?_
      refine bodyR_1 rfl s6 ?_
      exact ⟨_, pl2, rfl, hch.next hc2, h.f2.drop⟩
  ·
    refine xc_seq (fun K hK11 => ?_)
    refine xc_region ?_
    refine x_val (r_move s7) (nd_of rfl) rfl ?_
    refine x_val (r_lss es ec rfl) (nd_of rfl) rfl ?_
    refine x_val (r_assign es) (nd_of rfl) rfl ?_
    refine xw_nil ?_
    refine hK11 _ _ ?_
    refine xc_gen (fun g hg => ?_)
    have s0 := (hg 0).trans (en rfl (en rfl (en rfl s0)))
    have s1 := (hg 1).trans (en rfl (en rfl (en rfl s1)))
    have s2 := (hg 2).trans (en rfl (en rfl (en rfl s2)))
    have s5 := (hg 5).trans (en rfl (en rfl (en rfl s5)))
    have s6 := (hg 6).trans (en rfl (en rfl (en rfl s6)))
    have s7 := (hg 7).trans (en rfl (en rfl (en rfl s7)))
    have s15 := (hg 15).trans (en rfl (en rfl (en rfl s15)))
    have s35 := (hg 35).trans es
    clear hg
    refine xc_cond s35 (fun hc => ?_) (fun hc => ?_)
    ·
      refine xc_seq (fun K hK12 => ?_)
      refine xc_seq (fun K hK13 => ?_)
      have hd := of_decide_eq_true hc
      obtain ⟨j, a, y, b, rfl⟩ : ∃ j a y b, r = .node j a y b := by cases r with | nil => (simp only [Tr.ht] at hd; omega) | node j a y b => exact ⟨j, a, y, b, rfl⟩
      have hB2 : Bd (a.xs ++ y :: b.xs) := hb.right.tail
      refine xc_region ?_
      refine x_val (r_move s0) (nd_of rfl) rfl ?_
      refine x_val (r_fieldAddr (o' := 2) Try.underlying90 rfl Try.sizeOf3 rfl (en rfl s5) rfl) (nd_of rfl) rfl ?_
      refine x_val (r_load h 2 rfl Try.isAgg3 es (nd1 ‹_›)) (nd_of rfl) rfl ?_
      have h := h.f1
      have h := h.f1
      refine x_enter (r_call Try.call63 (.cons (en rfl (en rfl es)) (.cons es .nil))) (nd_of rfl) rfl (lean_t (l := a) (r := b) hch.has.2.2.2 hB2 h) ?_
      rintro _ w ⟨rfl, h⟩
      refine x_val (r_gtr es ec rfl) (nd_of rfl) rfl ?_
      refine xw_nil ?_
      refine hK13 _ _ ?_
      refine xc_gen (fun g hg => ?_)
      have s0 := (hg 0).trans (en rfl (en rfl (en rfl (en rfl (en rfl s0)))))
      have s1 := (hg 1).trans (en rfl (en rfl (en rfl (en rfl (en rfl s1)))))
      have s2 := (hg 2).trans (en rfl (en rfl (en rfl (en rfl (en rfl s2)))))
      have s5 := (hg 5).trans (en rfl (en rfl (en rfl (en rfl (en rfl s5)))))
      have s6 := (hg 6).trans (en rfl (en rfl (en rfl (en rfl (en rfl s6)))))
      have s7 := (hg 7).trans (en rfl (en rfl (en rfl (en rfl (en rfl s7)))))
      have s15 := (hg 15).trans (en rfl (en rfl (en rfl (en rfl (en rfl s15)))))
      have s35 := (hg 35).trans (en rfl (en rfl (en rfl (en rfl (en rfl s35)))))
      have s42 := (hg 42).trans es
      clear hg
      refine xc_cond s42 (fun hc => ?_) (fun hc => ?_)
      ·
        refine xc_seq (fun K hK14 => ?_)
        have hd2 := of_decide_eq_true hc
        obtain ⟨k, b1, z, b2, rfl⟩ : ∃ k b1 z b2, a = .node k b1 z b2 := by cases a with | nil => (simp only [Tr.ht] at hd2; omega) | node k b1 z b2 => exact ⟨k, b1, z, b2, rfl⟩
        have hNl : (Tr.node j (.node k b1 z b2) y b).idx.Nodup := (List.nodup_append.1 (List.nodup_cons.1 hN).2).2.1
        refine xc_region ?_
        refine x_val (r_move s0) (nd_of rfl) rfl ?_
        refine x_val (r_fieldAddr (o' := 2) Try.underlying90 rfl Try.sizeOf3 rfl (en rfl s5) rfl) (nd_of rfl) rfl ?_
        refine x_val (r_load h 2 rfl Try.isAgg3 es (nd1 ‹_›)) (nd_of rfl) rfl ?_
        have h := h.f1
        have h := h.f1
        refine x_enter (r_call Try.call64 (.cons (en rfl (en rfl es)) (.cons es (.cons ec .nil)))) (nd_of rfl) rfl (lift_l hch.has.2.2.2 hNl hB2 h) ?_
        rintro _ w ⟨rfl, pl1, hc1, h⟩
        obtain ⟨hi1, hr1, hn1, hch2⟩ := hch.right hN hc1
        have hb1 : Bd (l.xs ++ x :: (Tr.node k b1 z (.node j b2 y b)).xs) := by rw [hc1.xs]; exact hb
        refine x_val (r_fieldAddr (o' := 2) Try.underlying90 rfl Try.sizeOf3 rfl (en rfl (en rfl (en rfl (en rfl s5)))) rfl) (nd_of rfl) rfl ?_
        refine x_st (r_store h 2 rfl Try.sizeOf3 es (en rfl es) rfl (nd1 ‹_›)) rfl (h.u2 (ns1 ‹_›)) ?_
        intro w h
        refine xw_nil ?_
        refine hK14 _ _ ?_
        refine xc_gen (fun g hg => ?_)
        have s0 := (hg 0).trans (en rfl (en rfl (en rfl (en rfl (en rfl s0)))))
        have s1 := (hg 1).trans (en rfl (en rfl (en rfl (en rfl (en rfl s1)))))
        have s2 := (hg 2).trans (en rfl (en rfl (en rfl (en rfl (en rfl s2)))))
        have s5 := (hg 5).trans (en rfl (en rfl (en rfl (en rfl (en rfl s5)))))
        have s6 := (hg 6).trans (en rfl (en rfl (en rfl (en rfl (en rfl s6)))))
        have s7 := (hg 7).trans (en rfl (en rfl (en rfl (en rfl (en rfl s7)))))
        have s15 := (hg 15).trans (en rfl (en rfl (en rfl (en rfl (en rfl s15)))))
        have s35 := (hg 35).trans (en rfl (en rfl (en rfl (en rfl (en rfl s35)))))
        have s42 := (hg 42).trans (en rfl (en rfl (en rfl (en rfl (en rfl s42)))))
        clear hg
        refine xc_region ?_
        refine x_val (r_move s0) (nd_of rfl) rfl ?_
        refine x_val (r_move (en rfl s1)) (nd_of rfl) rfl ?_
        refine x_val (r_loadAgg h 2 rfl Try.isAgg90 Try.sizeOf90 (en rfl (en rfl s5)) (Ok.le (by first | assumption | exact Ok.node (by assumption) | exact xOk.cells (by assumption) | exact ChOk.ok (by assumption))) (ext_full (Ok.size (by first | assumption | exact Ok.node (by assumption) | exact xOk.cells (by assumption) | exact ChOk.ok (by assumption))))) (nd_of rfl) rfl ?_
        have h := h.f1
        have h := h.f1
        refine x_enter (r_call Try.call60 (.cons (en rfl (en rfl es)) (.cons (en rfl es) (.cons es .nil)))) (nd_of rfl) rfl (set_t (l := l) (r := .node k b1 z (.node j b2 y b)) (x := x) hi1 hr1 hc1.has hx hb1 h) ?_
        rintro _ w h
        refine xw_nil ?_
        refine hK12 _ _ ?_
        refine xc_gen (fun g hg => ?_)
        have s0 := (hg 0).trans (en rfl (en rfl (en rfl (en rfl s0))))
        have s1 := (hg 1).trans (en rfl (en rfl (en rfl (en rfl s1))))
        have s2 := (hg 2).trans (en rfl (en rfl (en rfl (en rfl s2))))
        have s5 := (hg 5).trans (en rfl (en rfl (en rfl (en rfl s5))))
        have s6 := (hg 6).trans (en rfl (en rfl (en rfl (en rfl s6))))
        have s7 := (hg 7).trans (en rfl (en rfl (en rfl (en rfl s7))))
        have s15 := (hg 15).trans (en rfl (en rfl (en rfl (en rfl s15))))
        have s35 := (hg 35).trans (en rfl (en rfl (en rfl (en rfl s35))))
        have s42 := (hg 42).trans (en rfl (en rfl (en rfl (en rfl s42))))
        clear hg
        refine xc_seq (fun K hK15 => ?_)
        refine xc_region ?_
        refine x_val (r_move s0) (nd_of rfl) rfl ?_
        refine x_val (r_move (en rfl s1)) (nd_of rfl) rfl ?_
        have h := h.f1
        have h := h.f1
        refine x_enter (r_call Try.call64 (.cons (en rfl es) (.cons es (.cons ec .nil)))) (nd_of rfl) rfl (lift_r hch2.has hn1 hb1 h) ?_
        rintro _ w ⟨rfl, pl2, hc2, h⟩
        refine x_val (r_assign es) (nd_of rfl) rfl ?_
        refine xw_nil ?_
        refine hK15 _ _ ?_
        refine xc_gen (fun g hg => ?_)
        have s0 := (hg 0).trans (en rfl (en rfl (en rfl (en rfl s0))))
        have s1 := (hg 1).trans (en rfl (en rfl (en rfl (en rfl s1))))
        have s2 := (hg 2).trans (en rfl (en rfl (en rfl (en rfl s2))))
        have s5 := (hg 5).trans (en rfl (en rfl (en rfl (en rfl s5))))
        have s6 := (hg 6).trans es
        have s7 := (hg 7).trans (en rfl (en rfl (en rfl (en rfl s7))))
        have s15 := (hg 15).trans (en rfl (en rfl (en rfl (en rfl s15))))
        have s35 := (hg 35).trans (en rfl (en rfl (en rfl (en rfl s35))))
        have s42 := (hg 42).trans (en rfl (en rfl (en rfl (en rfl s42))))
        clear hg
        refine xc_ret ?_
        refine bodyR_1 rfl s6 ?_
        exact ⟨_, pl2, rfl, hch2.next hc2, h.f2.drop⟩
      ·
        refine xc_skip ?_
        refine hK12 _ _ ?_
        refine xc_seq (fun K hK16 => ?_)
        refine xc_region ?_
        refine x_val (r_move s0) (nd_of rfl) rfl ?_
        refine x_val (r_move (en rfl s1)) (nd_of rfl) rfl ?_
        have h := h.f1
        have h := h.f1
        refine x_enter (r_call Try.call64 (.cons (en rfl es) (.cons es (.cons ec .nil)))) (nd_of rfl) rfl (lift_r hch.has hN hb h) ?_
        rintro _ w ⟨rfl, pl2, hc2, h⟩
        refine x_val (r_assign es) (nd_of rfl) rfl ?_
        refine xw_nil ?_
        refine hK16 _ _ ?_
        refine xc_gen (fun g hg => ?_)
        have s0 := (hg 0).trans (en rfl (en rfl (en rfl (en rfl s0))))
        have s1 := (hg 1).trans (en rfl (en rfl (en rfl (en rfl s1))))
        have s2 := (hg 2).trans (en rfl (en rfl (en rfl (en rfl s2))))
        have s5 := (hg 5).trans (en rfl (en rfl (en rfl (en rfl s5))))
        have s6 := (hg 6).trans es
        have s7 := (hg 7).trans (en rfl (en rfl (en rfl (en rfl s7))))
        have s15 := (hg 15).trans (en rfl (en rfl (en rfl (en rfl s15))))
        have s35 := (hg 35).trans (en rfl (en rfl (en rfl (en rfl s35))))
        have s42 := (hg 42).trans (en rfl (en rfl (en rfl (en rfl s42))))
        clear hg
        refine xc_ret ?_
        refine bodyR_1 rfl s6 ?_
        exact ⟨_, pl2, rfl, hch.next hc2, h.f2.drop⟩
    ·
      refine xc_skip ?_
      refine hK3 _ _ ?_
      refine xc_seq (fun K hK17 => ?_)
      refine xc_region ?_
      refine x_val (r_move s1) (nd_of rfl) rfl ?_
      refine x_val (r_assign es) (nd_of rfl) rfl ?_
      refine xw_nil ?_
      refine hK17 _ _ ?_
      refine xc_gen (fun g hg => ?_)
      have s0 := (hg 0).trans (en rfl (en rfl s0))
      have s1 := (hg 1).trans (en rfl (en rfl s1))
      have s2 := (hg 2).trans (en rfl (en rfl s2))
      have s5 := (hg 5).trans (en rfl (en rfl s5))
      have s6 := (hg 6).trans es
      have s7 := (hg 7).trans (en rfl (en rfl s7))
      have s15 := (hg 15).trans (en rfl (en rfl s15))
      have s35 := (hg 35).trans (en rfl (en rfl s35))
      clear hg
      refine xc_ret ?_
      refine bodyR_1 rfl s6 ?_
      exact ⟨_, _, rfl, hch, h.f2.drop⟩
end
end Go.Proofs.Ytonnijghdlakfaa
