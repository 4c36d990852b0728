/-
Trees joined: join, first, last, concat.
-/
import Derived.Test.YtonnijghdlakfaaT2
namespace Go.Proofs.Ytonnijghdlakfaa
open Go Go.RowKit
/-- a place whose node has a thing, whatever else stands there -/
def Slot (pl : Pl) (i : Nat) (x : X) : Prop := xOk x ∧ ∃ p q s t u : Int, pl[i]? = some (some (ndC (xC x) p q s t u))
theorem Slot.keep {pl pl' : Pl} {S : List Nat} {i : Nat} {x : X} (h : Slot pl i x) (hk : Keep pl pl' S) (hi : i ∉ S) : Slot pl' i x := by
  obtain ⟨hx, p, q, s, t, u, h1⟩ := h
  exact ⟨hx, p, q, s, t, u, hk i _ hi h1⟩
theorem Has.slot {pl : Pl} {i : Nat} {l r : Tr} {x : X} (h : Has pl (.node i l x r)) : Slot pl i x := ⟨h.2.1, _, _, _, _, _, h.1⟩
/-- what join is asked of -/
structure Jn (pl : Pl) (l : Tr) (i : Nat) (x : X) (r : Tr) : Prop where
  hl : Has pl l
  slot : Slot pl i x
  hr : Has pl r
  nd : (i :: (l.idx ++ r.idx)).Nodup
  bd : Bd (l.xs ++ x :: r.xs)
section
variable {E : Env} {R : List SProp} {w : World} {bt ba : Nat} {ro : Int} {pl pl1 pl2 : Pl} {fr : List Nat} {i j k : Nat} {c0 : Array Value} {l r a b c t t' : Tr} {x y : X}
theorem Jn.inR (h : Jn pl (.node k a y b) i x r) : Jn pl b i x r := by
  refine ⟨h.hl.2.2.2, h.slot, h.hr, ?_, ?_⟩
  · have h1 := h.nd
    have hs : (i :: (b.idx ++ r.idx)).Sublist (i :: ((Tr.node k a y b).idx ++ r.idx)) := ((((List.sublist_append_right a.idx b.idx).trans (List.sublist_cons_self k _)).append_right _).cons_cons _)
    exact h1.sublist hs
  · have h1 := h.bd
    simp only [Tr.xs, List.append_assoc, List.cons_append] at h1
    exact h1.right.tail
theorem Jn.outR (h : Jn pl (.node k a y b) i x r) (hc : Ch pl pl1 t' (b.xs ++ x :: r.xs) (i :: (b.idx ++ r.idx))) :
    pl1[k]? = some (some (cellOf a y b)) ∧ Has pl1 a ∧ (k :: (a.idx ++ t'.idx)).Nodup ∧ Bd (a.xs ++ y :: t'.xs) ∧
      (∀ {pl2 t''}, Ch pl1 pl2 t'' (a.xs ++ y :: t'.xs) (k :: (a.idx ++ t'.idx)) → Ch pl pl2 t'' ((Tr.node k a y b).xs ++ x :: r.xs) (i :: ((Tr.node k a y b).idx ++ r.idx))) := by
  have h1 := h.nd
  have hp : (k :: (a.idx ++ t'.idx)).Perm (i :: ((Tr.node k a y b).idx ++ r.idx)) := by
    refine ((hc.idx.append_left a.idx).cons k).trans (perm_of fun m => ?_)
    simp only [Tr.idx, List.count_append, List.count_cons]
    ac_rfl
  have hn1 := hp.nodup_iff.2 h1
  have hnk := List.nodup_cons.1 hn1
  have hna := List.nodup_append.1 hnk.2
  refine ⟨hc.keep k _ (fun hm => hnk.1 (by simp [hc.idx.mem_iff, hm])) h.hl.1, h.hl.2.2.1.keep hc.keep (fun m hm hh => hna.2.2 m hm m (hc.idx.mem_iff.2 hh) rfl), hn1, ?_, ?_⟩
  · rw [hc.xs]; have h2 := h.bd; simpa [Tr.xs] using h2
  · intro pl2 t'' h2
    refine ⟨h2.has, by rw [h2.xs, hc.xs]; simp [Tr.xs], h2.idx.trans hp, hc.keep.trans h2.keep (fun m hm => hp.subset (by simp [hc.idx.mem_iff, hm])) (fun m hm => hp.subset hm), h2.len.trans hc.len⟩
theorem Jn.inL (h : Jn pl l i x (.node k a y b)) : Jn pl l i x a := by
  refine ⟨h.hl, h.slot, h.hr.2.2.1, ?_, ?_⟩
  · have h1 := h.nd
    have hs : (i :: (l.idx ++ a.idx)).Sublist (i :: (l.idx ++ (Tr.node k a y b).idx)) := ((((List.sublist_append_left a.idx b.idx).trans (List.sublist_cons_self k _)).append_left _).cons_cons _)
    exact h1.sublist hs
  · have h1 := h.bd
    rw [show l.xs ++ x :: (Tr.node k a y b).xs = (l.xs ++ x :: a.xs) ++ y :: b.xs by simp [Tr.xs]] at h1
    exact h1.left
theorem Jn.outL (h : Jn pl l i x (.node k a y b)) (hc : Ch pl pl1 t' (l.xs ++ x :: a.xs) (i :: (l.idx ++ a.idx))) :
    pl1[k]? = some (some (cellOf a y b)) ∧ Has pl1 b ∧ (k :: (t'.idx ++ b.idx)).Nodup ∧ Bd (t'.xs ++ y :: b.xs) ∧
      (∀ {pl2 t''}, Ch pl1 pl2 t'' (t'.xs ++ y :: b.xs) (k :: (t'.idx ++ b.idx)) → Ch pl pl2 t'' (l.xs ++ x :: (Tr.node k a y b).xs) (i :: (l.idx ++ (Tr.node k a y b).idx))) := by
  have h1 := h.nd
  have hp : (k :: (t'.idx ++ b.idx)).Perm (i :: (l.idx ++ (Tr.node k a y b).idx)) := by
    refine ((hc.idx.append_right b.idx).cons k).trans (perm_of fun m => ?_)
    simp only [Tr.idx, List.count_append, List.count_cons]
    ac_rfl
  have hn1 := hp.nodup_iff.2 h1
  have hnk := List.nodup_cons.1 hn1
  have hna := List.nodup_append.1 hnk.2
  refine ⟨hc.keep k _ (fun hm => hnk.1 (by simp [hc.idx.mem_iff, hm])) h.hr.1, h.hr.2.2.2.keep hc.keep (fun m hm hh => hna.2.2 m (hc.idx.mem_iff.2 hh) m hm rfl), hn1, ?_, ?_⟩
  · rw [hc.xs]; have h2 := h.bd; simpa [Tr.xs] using h2
  · intro pl2 t'' h2
    refine ⟨h2.has, by rw [h2.xs, hc.xs]; simp [Tr.xs], h2.idx.trans hp, hc.keep.trans h2.keep (fun m hm => hp.subset (by simp [hc.idx.mem_iff, hm])) (fun m hm => hp.subset hm), h2.len.trans hc.len⟩
theorem join_rec : ∀ (m : Nat) {R : List SProp} {w : World} {pl : Pl} {i : Nat} {x : X} {l r : Tr}, l.n + r.n < m → Jn pl l i x r → SatL E w (TC bt ba ro :: Ar ba pl fr :: R) →
    Calls Try.prog 46 #[pT bt, .int .i64 l.root, .int .i64 (i : Int), .int .i64 r.root] w (Ret fun v w' => ∃ t' pl', v = .int .i64 t'.root ∧ Ch pl pl' t' (l.xs ++ x :: r.xs) (i :: (l.idx ++ r.idx)) ∧ SatL E w' (TC bt ba ro :: Ar ba pl' fr :: R)) := by
  intro m
  induction m with
  | zero => intro R w pl i x l r hm; omega
  | succ m ih =>
    intro R w pl i x l r hm hj h
    have h1 := l.ht_le
    have h2 := r.ht_le
    have hbd := hj.bd
    simp only [Bd, List.length_append, List.length_cons] at hbd
    have hox := hj.slot.1.cells
    refine calls_x Try.func46 rfl Try.ntmps46 rfl ?_
    refine xc_gen (fun g hg => ?_)
    have s0 := (hg 0).trans arg0
    have s1 := (hg 1).trans arg1
    have s2 := (hg 2).trans arg2
    have s3 := (hg 3).trans arg3
    clear hg
    refine xc_seq (fun K hK1 => ?_)
    refine xc_region ?_
    refine x_val (r_assign ec) (nd_of rfl) rfl ?_
    refine xw_nil ?_
    refine hK1 _ _ ?_
    refine xc_gen (fun g hg => ?_)
    have s0 := (hg 0).trans (en rfl s0)
    have s1 := (hg 1).trans (en rfl s1)
    have s2 := (hg 2).trans (en rfl s2)
    have s3 := (hg 3).trans (en rfl s3)
    have s8 := (hg 8).trans es
    clear hg
    refine xc_seq (fun K hK2 => ?_)
    refine xc_region ?_
    refine x_val (r_move s0) (nd_of rfl) rfl ?_
    refine x_val (r_move (en rfl s1)) (nd_of rfl) rfl ?_
    refine x_enter (r_call Try.call53 (.cons (en rfl es) (.cons es .nil))) (nd_of rfl) rfl (totals_t hj.hl h) ?_
    rintro _ w ⟨rfl, h⟩
    refine x_val (r_move es) (nd_of rfl) rfl ?_
    refine x_val (r_extract es gc0) (nd_of rfl) rfl ?_
    refine x_val (r_extract (en rfl es) gc1) (nd_of rfl) rfl ?_
    refine x_val (r_extract (en rfl (en rfl es)) gc2) (nd_of rfl) rfl ?_
    refine x_val (r_assign (en rfl (en rfl es))) (nd_of rfl) rfl ?_
    refine x_val (r_assign (en rfl (en rfl es))) (nd_of rfl) rfl ?_
    refine x_val (r_assign (en rfl (en rfl es))) (nd_of rfl) rfl ?_
    refine xw_nil ?_
    refine hK2 _ _ ?_
    refine xc_gen (fun g hg => ?_)
    have s0 := (hg 0).trans (en rfl (en rfl (en rfl (en rfl (en rfl (en rfl (en rfl (en rfl (en rfl (en rfl s0))))))))))
    have s1 := (hg 1).trans (en rfl (en rfl (en rfl (en rfl (en rfl (en rfl (en rfl (en rfl (en rfl (en rfl s1))))))))))
    have s2 := (hg 2).trans (en rfl (en rfl (en rfl (en rfl (en rfl (en rfl (en rfl (en rfl (en rfl (en rfl s2))))))))))
    have s3 := (hg 3).trans (en rfl (en rfl (en rfl (en rfl (en rfl (en rfl (en rfl (en rfl (en rfl (en rfl s3))))))))))
    have s8 := (hg 8).trans (en rfl (en rfl (en rfl (en rfl (en rfl (en rfl (en rfl (en rfl (en rfl (en rfl s8))))))))))
    have s9 := (hg 9).trans (en rfl (en rfl es))
    clear hg
    refine xc_seq (fun K hK3 => ?_)
    refine xc_region ?_
    refine x_val (r_move s0) (nd_of rfl) rfl ?_
    refine x_val (r_move (en rfl s3)) (nd_of rfl) rfl ?_
    refine x_enter (r_call Try.call53 (.cons (en rfl es) (.cons es .nil))) (nd_of rfl) rfl (totals_t hj.hr h) ?_
    rintro _ w ⟨rfl, h⟩
    refine x_val (r_move es) (nd_of rfl) rfl ?_
    refine x_val (r_extract es gc0) (nd_of rfl) rfl ?_
    refine x_val (r_extract (en rfl es) gc1) (nd_of rfl) rfl ?_
    refine x_val (r_extract (en rfl (en rfl es)) gc2) (nd_of rfl) rfl ?_
    refine x_val (r_assign (en rfl (en rfl es))) (nd_of rfl) rfl ?_
    refine x_val (r_assign (en rfl (en rfl es))) (nd_of rfl) rfl ?_
    refine x_val (r_assign (en rfl (en rfl es))) (nd_of rfl) rfl ?_
    refine xw_nil ?_
    refine hK3 _ _ ?_
    refine xc_gen (fun g hg => ?_)
    have s0 := (hg 0).trans (en rfl (en rfl (en rfl (en rfl (en rfl (en rfl (en rfl (en rfl (en rfl (en rfl s0))))))))))
    have s1 := (hg 1).trans (en rfl (en rfl (en rfl (en rfl (en rfl (en rfl (en rfl (en rfl (en rfl (en rfl s1))))))))))
    have s2 := (hg 2).trans (en rfl (en rfl (en rfl (en rfl (en rfl (en rfl (en rfl (en rfl (en rfl (en rfl s2))))))))))
    have s3 := (hg 3).trans (en rfl (en rfl (en rfl (en rfl (en rfl (en rfl (en rfl (en rfl (en rfl (en rfl s3))))))))))
    have s8 := (hg 8).trans (en rfl (en rfl (en rfl (en rfl (en rfl (en rfl (en rfl (en rfl (en rfl (en rfl s8))))))))))
    have s9 := (hg 9).trans (en rfl (en rfl (en rfl (en rfl (en rfl (en rfl (en rfl (en rfl (en rfl (en rfl s9))))))))))
    have s12 := (hg 12).trans (en rfl (en rfl es))
    clear hg
    refine xc_seq (fun K hK4 => ?_)
    refine xc_block ?_
    refine xc_seq (fun K hK5 => ?_)
    refine xc_region ?_
    refine x_val (r_move s9) (nd_of rfl) rfl ?_
    refine x_val (r_move (en rfl s12)) (nd_of rfl) rfl ?_
    refine x_val (r_add es ec rfl (by unfold I64; omega)) (nd_of rfl) rfl ?_
    refine x_val (r_gtr (en rfl (en rfl es)) es rfl) (nd_of rfl) rfl ?_
    refine x_val (r_assign es) (nd_of rfl) rfl ?_
    refine xw_nil ?_
    refine hK5 _ _ ?_
    refine xc_gen (fun g hg => ?_)
    have s0 := (hg 0).trans (en rfl (en rfl (en rfl (en rfl (en rfl s0)))))
    have s1 := (hg 1).trans (en rfl (en rfl (en rfl (en rfl (en rfl s1)))))
    have s2 := (hg 2).trans (en rfl (en rfl (en rfl (en rfl (en rfl s2)))))
    have s3 := (hg 3).trans (en rfl (en rfl (en rfl (en rfl (en rfl s3)))))
    have s8 := (hg 8).trans (en rfl (en rfl (en rfl (en rfl (en rfl s8)))))
    have s9 := (hg 9).trans (en rfl (en rfl (en rfl (en rfl (en rfl s9)))))
    have s12 := (hg 12).trans (en rfl (en rfl (en rfl (en rfl (en rfl s12)))))
    have s32 := (hg 32).trans es
    clear hg
    refine xc_cond s32 (fun hc => ?_) (fun hc => ?_)
    ·
      refine xc_seq (fun K hK6 => ?_)
      have hd := of_decide_eq_true hc
      obtain ⟨k, a, y, b, rfl⟩ : ∃ k a y b, l = .node k a y b := by cases l with | nil => (simp only [Tr.ht] at hd; omega) | node j a y b => exact ⟨j, a, y, b, rfl⟩
      have hoy := hj.hl.2.1.cells
      refine xc_region ?_
      refine x_val (r_move s0) (nd_of rfl) rfl ?_
      refine x_val (r_move (en rfl s1)) (nd_of rfl) rfl ?_
      refine x_enter (r_call Try.call54 (.cons (en rfl es) (.cons es .nil))) (nd_of rfl) rfl (at_t hj.hl.1 h) ?_
      rintro _ w ⟨rfl, h⟩
      refine x_declA h Try.zeroValue90 Try.sizeOf90 rfl (en rfl es) (by first | assumption | exact Ok.node (by assumption) | exact xOk.cells (by assumption) | exact ChOk.ok (by assumption)) rfl ?_
      intro b15 w h
      refine xw_nil ?_
      refine hK6 _ _ ?_
      refine xc_gen (fun g hg => ?_)
      have s0 := (hg 0).trans (en rfl (en rfl (en rfl (en rfl s0))))
      have s1 := (hg 1).trans (en rfl (en rfl (en rfl (en rfl s1))))
      have s2 := (hg 2).trans (en rfl (en rfl (en rfl (en rfl s2))))
      have s3 := (hg 3).trans (en rfl (en rfl (en rfl (en rfl s3))))
      have s8 := (hg 8).trans (en rfl (en rfl (en rfl (en rfl s8))))
      have s9 := (hg 9).trans (en rfl (en rfl (en rfl (en rfl s9))))
      have s12 := (hg 12).trans (en rfl (en rfl (en rfl (en rfl s12))))
      have s15 := (hg 15).trans es
      have s32 := (hg 32).trans (en rfl (en rfl (en rfl (en rfl s32))))
      clear hg
      refine xc_seq (fun K hK7 => ?_)
      refine xc_region ?_
      refine x_val (r_move s0) (nd_of rfl) rfl ?_
      refine x_val (r_fieldAddr (o' := 2) Try.underlying90 rfl Try.sizeOf3 rfl (en rfl s15) rfl) (nd_of rfl) rfl ?_
      refine x_val (r_load h 0 rfl Try.isAgg3 es (nd1 ‹_›)) (nd_of rfl) rfl ?_
      refine x_val (r_move (en rfl (en rfl (en rfl s2)))) (nd_of rfl) rfl ?_
      refine x_val (r_move (en rfl (en rfl (en rfl (en rfl s3))))) (nd_of rfl) rfl ?_
      have h := h.f2
      have h := h.f2
      refine x_enter (r_call Try.call46 (.cons (en rfl (en rfl (en rfl (en rfl es)))) (.cons (en rfl (en rfl es)) (.cons (en rfl es) (.cons es .nil))))) (nd_of rfl) rfl (ih (l := b) (r := r) (by simp only [Tr.n] at hm; omega) hj.inR h) ?_
      rintro _ w ⟨t1, pl1, rfl, hc1, h⟩
      obtain ⟨g1, g2, g3, g4, g5⟩ := hj.outR hc1
      refine x_val (r_fieldAddr (o' := 2) Try.underlying90 rfl Try.sizeOf3 rfl (en rfl (en rfl (en rfl (en rfl (en rfl (en rfl s15)))))) rfl) (nd_of rfl) rfl ?_
      refine x_st (r_store h 2 rfl Try.sizeOf3 es (en rfl es) rfl (nd1 ‹_›)) rfl (h.u2 (ns1 ‹_›)) ?_
      intro w h
      refine xw_nil ?_
      refine hK7 _ _ ?_
      refine xc_gen (fun g hg => ?_)
      have s0 := (hg 0).trans (en rfl (en rfl (en rfl (en rfl (en rfl (en rfl (en rfl s0)))))))
      have s1 := (hg 1).trans (en rfl (en rfl (en rfl (en rfl (en rfl (en rfl (en rfl s1)))))))
      have s2 := (hg 2).trans (en rfl (en rfl (en rfl (en rfl (en rfl (en rfl (en rfl s2)))))))
      have s3 := (hg 3).trans (en rfl (en rfl (en rfl (en rfl (en rfl (en rfl (en rfl s3)))))))
      have s8 := (hg 8).trans (en rfl (en rfl (en rfl (en rfl (en rfl (en rfl (en rfl s8)))))))
      have s9 := (hg 9).trans (en rfl (en rfl (en rfl (en rfl (en rfl (en rfl (en rfl s9)))))))
      have s12 := (hg 12).trans (en rfl (en rfl (en rfl (en rfl (en rfl (en rfl (en rfl s12)))))))
      have s15 := (hg 15).trans (en rfl (en rfl (en rfl (en rfl (en rfl (en rfl (en rfl s15)))))))
      have s32 := (hg 32).trans (en rfl (en rfl (en rfl (en rfl (en rfl (en rfl (en rfl s32)))))))
      clear hg
      refine xc_seq (fun K hK8 => ?_)
      refine xc_region ?_
      refine x_val (r_move s0) (nd_of rfl) rfl ?_
      refine x_val (r_move (en rfl s1)) (nd_of rfl) rfl ?_
      refine x_val (r_loadAgg h 2 rfl Try.isAgg90 Try.sizeOf90 (en rfl (en rfl s15)) (Ok.le (by first | assumption | exact Ok.node (by assumption) | exact xOk.cells (by assumption) | exact ChOk.ok (by assumption))) (ext_full (Ok.size (by first | assumption | exact Ok.node (by assumption) | exact xOk.cells (by assumption) | exact ChOk.ok (by assumption))))) (nd_of rfl) rfl ?_
      have h := h.f1
      have h := h.f1
      refine x_enter (r_call Try.call59 (.cons (en rfl (en rfl es)) (.cons (en rfl es) (.cons es .nil)))) (nd_of rfl) rfl (balance_t (l := a) (r := t1) (x := y) g1 g2 hc1.has hj.hl.2.1 g3 g4 h) ?_
      rintro _ w ⟨t2, pl2, rfl, hc2, h⟩
      refine x_val (r_assign es) (nd_of rfl) rfl ?_
      refine xw_nil ?_
      refine hK8 _ _ ?_
      refine xc_gen (fun g hg => ?_)
      have s0 := (hg 0).trans (en rfl (en rfl (en rfl (en rfl (en rfl s0)))))
      have s1 := (hg 1).trans (en rfl (en rfl (en rfl (en rfl (en rfl s1)))))
      have s2 := (hg 2).trans (en rfl (en rfl (en rfl (en rfl (en rfl s2)))))
      have s3 := (hg 3).trans (en rfl (en rfl (en rfl (en rfl (en rfl s3)))))
      have s8 := (hg 8).trans es
      have s9 := (hg 9).trans (en rfl (en rfl (en rfl (en rfl (en rfl s9)))))
      have s12 := (hg 12).trans (en rfl (en rfl (en rfl (en rfl (en rfl s12)))))
      have s15 := (hg 15).trans (en rfl (en rfl (en rfl (en rfl (en rfl s15)))))
      have s32 := (hg 32).trans (en rfl (en rfl (en rfl (en rfl (en rfl s32)))))
      clear hg
      refine xc_ret ?_
      refine bodyR_1 rfl s8 ?_
      exact ⟨t2, pl2, rfl, g5 hc2, h.f2.drop⟩
    ·
      refine xc_seq (fun K hK9 => ?_)
      refine xc_region ?_
      refine x_val (r_move s12) (nd_of rfl) rfl ?_
      refine x_val (r_move (en rfl s9)) (nd_of rfl) rfl ?_
      refine x_val (r_add es ec rfl (by unfold I64; omega)) (nd_of rfl) rfl ?_
      refine x_val (r_gtr (en rfl (en rfl es)) es rfl) (nd_of rfl) rfl ?_
      refine x_val (r_assign es) (nd_of rfl) rfl ?_
      refine xw_nil ?_
      refine hK9 _ _ ?_
      refine xc_gen (fun g hg => ?_)
      have s0 := (hg 0).trans (en rfl (en rfl (en rfl (en rfl (en rfl s0)))))
      have s1 := (hg 1).trans (en rfl (en rfl (en rfl (en rfl (en rfl s1)))))
      have s2 := (hg 2).trans (en rfl (en rfl (en rfl (en rfl (en rfl s2)))))
      have s3 := (hg 3).trans (en rfl (en rfl (en rfl (en rfl (en rfl s3)))))
      have s8 := (hg 8).trans (en rfl (en rfl (en rfl (en rfl (en rfl s8)))))
      have s9 := (hg 9).trans (en rfl (en rfl (en rfl (en rfl (en rfl s9)))))
      have s12 := (hg 12).trans (en rfl (en rfl (en rfl (en rfl (en rfl s12)))))
      have s32 := (hg 32).trans (en rfl (en rfl (en rfl (en rfl (en rfl s32)))))
      have s51 := (hg 51).trans es
      clear hg
      refine xc_cond s51 (fun hc => ?_) (fun hc => ?_)
      ·
        refine xc_seq (fun K hK10 => ?_)
        have hd := of_decide_eq_true hc
        obtain ⟨k, a, y, b, rfl⟩ : ∃ k a y b, r = .node k a y b := by cases r with | nil => (simp only [Tr.ht] at hd; omega) | node j a y b => exact ⟨j, a, y, b, rfl⟩
        have hoy := hj.hr.2.1.cells
        refine xc_region ?_
        refine x_val (r_move s0) (nd_of rfl) rfl ?_
        refine x_val (r_move (en rfl s3)) (nd_of rfl) rfl ?_
        refine x_enter (r_call Try.call54 (.cons (en rfl es) (.cons es .nil))) (nd_of rfl) rfl (at_t hj.hr.1 h) ?_
        rintro _ w ⟨rfl, h⟩
        refine x_declA h Try.zeroValue90 Try.sizeOf90 rfl (en rfl es) (by first | assumption | exact Ok.node (by assumption) | exact xOk.cells (by assumption) | exact ChOk.ok (by assumption)) rfl ?_
        intro b16 w h
        refine xw_nil ?_
        refine hK10 _ _ ?_
        refine xc_gen (fun g hg => ?_)
        have s0 := (hg 0).trans (en rfl (en rfl (en rfl (en rfl s0))))
        have s1 := (hg 1).trans (en rfl (en rfl (en rfl (en rfl s1))))
        have s2 := (hg 2).trans (en rfl (en rfl (en rfl (en rfl s2))))
        have s3 := (hg 3).trans (en rfl (en rfl (en rfl (en rfl s3))))
        have s8 := (hg 8).trans (en rfl (en rfl (en rfl (en rfl s8))))
        have s9 := (hg 9).trans (en rfl (en rfl (en rfl (en rfl s9))))
        have s12 := (hg 12).trans (en rfl (en rfl (en rfl (en rfl s12))))
        have s16 := (hg 16).trans es
        have s32 := (hg 32).trans (en rfl (en rfl (en rfl (en rfl s32))))
        have s51 := (hg 51).trans (en rfl (en rfl (en rfl (en rfl s51))))
        clear hg
        refine xc_seq (fun K hK11 => ?_)
        refine xc_region ?_
        refine x_val (r_move s0) (nd_of rfl) rfl ?_
        refine x_val (r_move (en rfl s1)) (nd_of rfl) rfl ?_
        refine x_val (r_move (en rfl (en rfl s2))) (nd_of rfl) rfl ?_
        refine x_val (r_fieldAddr (o' := 1) Try.underlying90 rfl Try.sizeOf3 rfl (en rfl (en rfl (en rfl s16))) rfl) (nd_of rfl) rfl ?_
        refine x_val (r_load h 0 rfl Try.isAgg3 es (nd0 ‹_›)) (nd_of rfl) rfl ?_
        have h := h.f2
        have h := h.f2
        refine x_enter (r_call Try.call46 (.cons (en rfl (en rfl (en rfl (en rfl es)))) (.cons (en rfl (en rfl (en rfl es))) (.cons (en rfl (en rfl es)) (.cons es .nil))))) (nd_of rfl) rfl (ih (l := l) (r := a) (by simp only [Tr.n] at hm; omega) hj.inL h) ?_
        rintro _ w ⟨t1, pl1, rfl, hc1, h⟩
        obtain ⟨g1, g2, g3, g4, g5⟩ := hj.outL hc1
        refine x_val (r_fieldAddr (o' := 1) Try.underlying90 rfl Try.sizeOf3 rfl (en rfl (en rfl (en rfl (en rfl (en rfl (en rfl s16)))))) rfl) (nd_of rfl) rfl ?_
        refine x_st (r_store h 2 rfl Try.sizeOf3 es (en rfl es) rfl (nd0 ‹_›)) rfl (h.u2 (ns0 ‹_›)) ?_
        intro w h
        refine xw_nil ?_
        refine hK11 _ _ ?_
        refine xc_gen (fun g hg => ?_)
        have s0 := (hg 0).trans (en rfl (en rfl (en rfl (en rfl (en rfl (en rfl (en rfl s0)))))))
        have s1 := (hg 1).trans (en rfl (en rfl (en rfl (en rfl (en rfl (en rfl (en rfl s1)))))))
        have s2 := (hg 2).trans (en rfl (en rfl (en rfl (en rfl (en rfl (en rfl (en rfl s2)))))))
        have s3 := (hg 3).trans (en rfl (en rfl (en rfl (en rfl (en rfl (en rfl (en rfl s3)))))))
        have s8 := (hg 8).trans (en rfl (en rfl (en rfl (en rfl (en rfl (en rfl (en rfl s8)))))))
        have s9 := (hg 9).trans (en rfl (en rfl (en rfl (en rfl (en rfl (en rfl (en rfl s9)))))))
        have s12 := (hg 12).trans (en rfl (en rfl (en rfl (en rfl (en rfl (en rfl (en rfl s12)))))))
        have s16 := (hg 16).trans (en rfl (en rfl (en rfl (en rfl (en rfl (en rfl (en rfl s16)))))))
        have s32 := (hg 32).trans (en rfl (en rfl (en rfl (en rfl (en rfl (en rfl (en rfl s32)))))))
        have s51 := (hg 51).trans (en rfl (en rfl (en rfl (en rfl (en rfl (en rfl (en rfl s51)))))))
        clear hg
        refine xc_seq (fun K hK12 => ?_)
        refine xc_region ?_
        refine x_val (r_move s0) (nd_of rfl) rfl ?_
        refine x_val (r_move (en rfl s3)) (nd_of rfl) rfl ?_
        refine x_val (r_loadAgg h 2 rfl Try.isAgg90 Try.sizeOf90 (en rfl (en rfl s16)) (Ok.le (by first | assumption | exact Ok.node (by assumption) | exact xOk.cells (by assumption) | exact ChOk.ok (by assumption))) (ext_full (Ok.size (by first | assumption | exact Ok.node (by assumption) | exact xOk.cells (by assumption) | exact ChOk.ok (by assumption))))) (nd_of rfl) rfl ?_
        have h := h.f1
        have h := h.f1
        refine x_enter (r_call Try.call59 (.cons (en rfl (en rfl es)) (.cons (en rfl es) (.cons es .nil)))) (nd_of rfl) rfl (balance_t (l := t1) (r := b) (x := y) g1 hc1.has g2 hj.hr.2.1 g3 g4 h) ?_
        rintro _ w ⟨t2, pl2, rfl, hc2, h⟩
        refine x_val (r_assign es) (nd_of rfl) rfl ?_
        refine xw_nil ?_
        refine hK12 _ _ ?_
        refine xc_gen (fun g hg => ?_)
        have s0 := (hg 0).trans (en rfl (en rfl (en rfl (en rfl (en rfl s0)))))
        have s1 := (hg 1).trans (en rfl (en rfl (en rfl (en rfl (en rfl s1)))))
        have s2 := (hg 2).trans (en rfl (en rfl (en rfl (en rfl (en rfl s2)))))
        have s3 := (hg 3).trans (en rfl (en rfl (en rfl (en rfl (en rfl s3)))))
        have s8 := (hg 8).trans es
        have s9 := (hg 9).trans (en rfl (en rfl (en rfl (en rfl (en rfl s9)))))
        have s12 := (hg 12).trans (en rfl (en rfl (en rfl (en rfl (en rfl s12)))))
        have s16 := (hg 16).trans (en rfl (en rfl (en rfl (en rfl (en rfl s16)))))
        have s32 := (hg 32).trans (en rfl (en rfl (en rfl (en rfl (en rfl s32)))))
        have s51 := (hg 51).trans (en rfl (en rfl (en rfl (en rfl (en rfl s51)))))
        clear hg
        refine xc_ret ?_
        refine bodyR_1 rfl s8 ?_
        exact ⟨t2, pl2, rfl, g5 hc2, h.f2.drop⟩
      ·
        refine xc_skip ?_
        refine hK4 _ _ ?_
        refine xc_seq (fun K hK13 => ?_)
        obtain ⟨hx, p, q, s, t, u, hi⟩ := hj.slot
        refine xc_region ?_
        refine x_val (r_move s0) (nd_of rfl) rfl ?_
        refine x_val (r_move (en rfl s2)) (nd_of rfl) rfl ?_
        refine x_enter (r_call Try.call54 (.cons (en rfl es) (.cons es .nil))) (nd_of rfl) rfl (at_t hi h) ?_
        rintro _ w ⟨rfl, h⟩
        refine x_declA h Try.zeroValue90 Try.sizeOf90 rfl (en rfl es) (by first | assumption | exact Ok.node (by assumption) | exact xOk.cells (by assumption) | exact ChOk.ok (by assumption)) rfl ?_
        intro b17 w h
        refine xw_nil ?_
        refine hK13 _ _ ?_
        refine xc_gen (fun g hg => ?_)
        have s0 := (hg 0).trans (en rfl (en rfl (en rfl (en rfl s0))))
        have s1 := (hg 1).trans (en rfl (en rfl (en rfl (en rfl s1))))
        have s2 := (hg 2).trans (en rfl (en rfl (en rfl (en rfl s2))))
        have s3 := (hg 3).trans (en rfl (en rfl (en rfl (en rfl s3))))
        have s8 := (hg 8).trans (en rfl (en rfl (en rfl (en rfl s8))))
        have s9 := (hg 9).trans (en rfl (en rfl (en rfl (en rfl s9))))
        have s12 := (hg 12).trans (en rfl (en rfl (en rfl (en rfl s12))))
        have s17 := (hg 17).trans es
        have s32 := (hg 32).trans (en rfl (en rfl (en rfl (en rfl s32))))
        have s51 := (hg 51).trans (en rfl (en rfl (en rfl (en rfl s51))))
        clear hg
        refine xc_seq (fun K hK14 => ?_)
        refine xc_region ?_
        refine x_val (r_move s1) (nd_of rfl) rfl ?_
        refine x_val (r_move (en rfl s3)) (nd_of rfl) rfl ?_
        refine x_val (r_fieldAddr (o' := 1) Try.underlying90 rfl Try.sizeOf3 rfl (en rfl (en rfl s17)) rfl) (nd_of rfl) rfl ?_
        refine x_st (r_store h 0 rfl Try.sizeOf3 es (en rfl (en rfl es)) rfl (nd0 ‹_›)) rfl (h.u0 (ns0 ‹_›)) ?_
        intro w h
        refine x_val (r_fieldAddr (o' := 2) Try.underlying90 rfl Try.sizeOf3 rfl (en rfl (en rfl (en rfl s17))) rfl) (nd_of rfl) rfl ?_
        refine x_st (r_store h 0 rfl Try.sizeOf3 es (en rfl (en rfl es)) rfl (nd1 ‹_›)) rfl (h.u0 (ns1 ‹_›)) ?_
        intro w h
        refine xw_nil ?_
        refine hK14 _ _ ?_
        refine xc_gen (fun g hg => ?_)
        have s0 := (hg 0).trans (en rfl (en rfl (en rfl (en rfl s0))))
        have s1 := (hg 1).trans (en rfl (en rfl (en rfl (en rfl s1))))
        have s2 := (hg 2).trans (en rfl (en rfl (en rfl (en rfl s2))))
        have s3 := (hg 3).trans (en rfl (en rfl (en rfl (en rfl s3))))
        have s8 := (hg 8).trans (en rfl (en rfl (en rfl (en rfl s8))))
        have s9 := (hg 9).trans (en rfl (en rfl (en rfl (en rfl s9))))
        have s12 := (hg 12).trans (en rfl (en rfl (en rfl (en rfl s12))))
        have s17 := (hg 17).trans (en rfl (en rfl (en rfl (en rfl s17))))
        have s32 := (hg 32).trans (en rfl (en rfl (en rfl (en rfl s32))))
        have s51 := (hg 51).trans (en rfl (en rfl (en rfl (en rfl s51))))
        clear hg
        refine xc_seq (fun K hK15 => ?_)
        refine xc_region ?_
        refine x_val (r_move s0) (nd_of rfl) rfl ?_
        refine x_val (r_move (en rfl s2)) (nd_of rfl) rfl ?_
        refine x_val (r_loadAgg h 0 rfl Try.isAgg90 Try.sizeOf90 (en rfl (en rfl s17)) (Ok.le (by first | assumption | exact Ok.node (by assumption) | exact xOk.cells (by assumption) | exact ChOk.ok (by assumption))) (ext_full (Ok.size (by first | assumption | exact Ok.node (by assumption) | exact xOk.cells (by assumption) | exact ChOk.ok (by assumption))))) (nd_of rfl) rfl ?_
        have h := h.f2
        have h := h.f2
        refine x_enter (r_call Try.call60 (.cons (en rfl (en rfl es)) (.cons (en rfl es) (.cons es .nil)))) (nd_of rfl) rfl (set_t (l := l) (r := r) (x := x) hi hj.hl hj.hr hx hj.bd h) ?_
        rintro _ w h
        refine xw_nil ?_
        refine hK15 _ _ ?_
        refine xc_gen (fun g hg => ?_)
        have s0 := (hg 0).trans (en rfl (en rfl (en rfl (en rfl s0))))
        have s1 := (hg 1).trans (en rfl (en rfl (en rfl (en rfl s1))))
        have s2 := (hg 2).trans (en rfl (en rfl (en rfl (en rfl s2))))
        have s3 := (hg 3).trans (en rfl (en rfl (en rfl (en rfl s3))))
        have s8 := (hg 8).trans (en rfl (en rfl (en rfl (en rfl s8))))
        have s9 := (hg 9).trans (en rfl (en rfl (en rfl (en rfl s9))))
        have s12 := (hg 12).trans (en rfl (en rfl (en rfl (en rfl s12))))
        have s17 := (hg 17).trans (en rfl (en rfl (en rfl (en rfl s17))))
        have s32 := (hg 32).trans (en rfl (en rfl (en rfl (en rfl s32))))
        have s51 := (hg 51).trans (en rfl (en rfl (en rfl (en rfl s51))))
        clear hg
        refine xc_seq (fun K hK16 => ?_)
        refine xc_region ?_
        refine x_val (r_move s2) (nd_of rfl) rfl ?_
        refine x_val (r_assign es) (nd_of rfl) rfl ?_
        refine xw_nil ?_
        refine hK16 _ _ ?_
        refine xc_gen (fun g hg => ?_)
        have s0 := (hg 0).trans (en rfl (en rfl s0))
        have s1 := (hg 1).trans (en rfl (en rfl s1))
        have s2 := (hg 2).trans (en rfl (en rfl s2))
        have s3 := (hg 3).trans (en rfl (en rfl s3))
        have s8 := (hg 8).trans es
        have s9 := (hg 9).trans (en rfl (en rfl s9))
        have s12 := (hg 12).trans (en rfl (en rfl s12))
        have s17 := (hg 17).trans (en rfl (en rfl s17))
        have s32 := (hg 32).trans (en rfl (en rfl s32))
        have s51 := (hg 51).trans (en rfl (en rfl s51))
        clear hg
        refine xc_ret ?_
        refine bodyR_1 rfl s8 ?_
        exact ⟨.node i l x r, _, rfl, Ch.set hj.hl hj.hr hx hj.nd (List.getElem?_eq_some_iff.1 hi).1, h.f2.drop⟩
theorem join_t (hj : Jn pl l i x r) (h : SatL E w (TC bt ba ro :: Ar ba pl fr :: R)) :
    Calls Try.prog 46 #[pT bt, .int .i64 l.root, .int .i64 (i : Int), .int .i64 r.root] w (Ret fun v w' => ∃ t' pl', v = .int .i64 t'.root ∧ Ch pl pl' t' (l.xs ++ x :: r.xs) (i :: (l.idx ++ r.idx)) ∧ SatL E w' (TC bt ba ro :: Ar ba pl' fr :: R)) :=
  join_rec (l.n + r.n + 1) (Nat.lt_succ_self _) hj h
/-- an end is taken off -/
structure En (pl pl' : Pl) (j : Nat) (y : X) (rest : Tr) (ix : List Nat) : Prop where
  has : Has pl' rest
  slot : Slot pl' j y
  idx : (j :: rest.idx).Perm ix
  keep : Keep pl pl' ix
  len : pl'.length = pl.length
theorem En.left (ht : Has pl (.node i l x r)) (hn : (Tr.node i l x r).idx.Nodup) (hb : Bd (Tr.node i l x r).xs) {rest : Tr} (he : En pl pl1 j y rest l.idx) (hx : l.xs = y :: rest.xs) :
    pl1[i]? = some (some (cellOf l x r)) ∧ Has pl1 r ∧ (i :: (rest.idx ++ r.idx)).Nodup ∧ Bd (rest.xs ++ x :: r.xs) ∧
      (∀ {pl2 t''}, Ch pl1 pl2 t'' (rest.xs ++ x :: r.xs) (i :: (rest.idx ++ r.idx)) → En pl pl2 j y t'' (Tr.node i l x r).idx ∧ (Tr.node i l x r).xs = y :: t''.xs) := by
  have hp : (j :: i :: (rest.idx ++ r.idx)).Perm (Tr.node i l x r).idx := by
    refine List.Perm.trans ?_ ((he.idx.append_right r.idx).cons i)
    refine perm_of fun m => ?_
    simp only [List.count_append, List.count_cons]
    ac_rfl
  have hn1 := hp.nodup_iff.2 hn
  have hnj := List.nodup_cons.1 hn1
  have hni := List.nodup_cons.1 hn
  have hna := List.nodup_append.1 hni.2
  refine ⟨he.keep i _ (fun hm => hni.1 (by simp [hm])) ht.1, ht.2.2.2.keep he.keep (fun m hm hh => hna.2.2 m hh m hm rfl), hnj.2, ?_, ?_⟩
  · have h2 := hb; simp only [Tr.xs, hx, List.cons_append] at h2; exact h2.tail
  · intro pl2 t'' h2
    refine ⟨⟨h2.has, he.slot.keep h2.keep hnj.1, (h2.idx.cons j).trans hp, he.keep.trans h2.keep (fun m hm => by simp [Tr.idx, hm]) (fun m hm => hp.subset (List.mem_cons_of_mem _ hm)), h2.len.trans he.len⟩, ?_⟩
    rw [h2.xs, Tr.xs, hx]; rfl
theorem En.right (ht : Has pl (.node i l x r)) (hn : (Tr.node i l x r).idx.Nodup) (hb : Bd (Tr.node i l x r).xs) {rest : Tr} (he : En pl pl1 j y rest r.idx) (hx : r.xs = rest.xs ++ [y]) :
    pl1[i]? = some (some (cellOf l x r)) ∧ Has pl1 l ∧ (i :: (l.idx ++ rest.idx)).Nodup ∧ Bd (l.xs ++ x :: rest.xs) ∧
      (∀ {pl2 t''}, Ch pl1 pl2 t'' (l.xs ++ x :: rest.xs) (i :: (l.idx ++ rest.idx)) → En pl pl2 j y t'' (Tr.node i l x r).idx ∧ (Tr.node i l x r).xs = t''.xs ++ [y]) := by
  have hp : (j :: i :: (l.idx ++ rest.idx)).Perm (Tr.node i l x r).idx := by
    refine List.Perm.trans ?_ ((he.idx.append_left l.idx).cons i)
    refine perm_of fun m => ?_
    simp only [List.count_append, List.count_cons]
    ac_rfl
  have hn1 := hp.nodup_iff.2 hn
  have hnj := List.nodup_cons.1 hn1
  have hni := List.nodup_cons.1 hn
  have hna := List.nodup_append.1 hni.2
  refine ⟨he.keep i _ (fun hm => hni.1 (by simp [hm])) ht.1, ht.2.2.1.keep he.keep (fun m hm hh => hna.2.2 m hm m hh rfl), hnj.2, ?_, ?_⟩
  · have h2 := hb
    rw [show (Tr.node i l x r).xs = (l.xs ++ x :: rest.xs) ++ [y] by simp [Tr.xs, hx]] at h2
    exact h2.left
  · intro pl2 t'' h2
    refine ⟨⟨h2.has, he.slot.keep h2.keep hnj.1, (h2.idx.cons j).trans hp, he.keep.trans h2.keep (fun m hm => by simp [Tr.idx, hm]) (fun m hm => hp.subset (List.mem_cons_of_mem _ hm)), h2.len.trans he.len⟩, ?_⟩
    rw [h2.xs, Tr.xs, hx]; simp
theorem first_t : ∀ (t : Tr) {R : List SProp} {w : World} {pl : Pl}, t ≠ .nil → Has pl t → t.idx.Nodup → Bd t.xs → SatL E w (TC bt ba ro :: Ar ba pl fr :: R) →
    Calls Try.prog 44 #[pT bt, .int .i64 t.root] w (Ret fun v w' => ∃ (j : Nat) (y : X) (rest : Tr) (pl' : Pl), v = .tuple #[.int .i64 rest.root, .int .i64 (j : Int)] ∧ En pl pl' j y rest t.idx ∧ t.xs = y :: rest.xs ∧ SatL E w' (TC bt ba ro :: Ar ba pl' fr :: R)) := by
  intro t
  induction t with
  | nil => intro R w pl hne; exact absurd rfl hne
  | node i l x r ihl _ =>
    intro R w pl _ ht hn hb h
    have hox := ht.2.1.cells
    change Calls _ _ #[pT bt, .int .i64 (i : Int)] w _
    cases l with
    | nil =>
      refine calls_x Try.func44 rfl Try.ntmps44 rfl ?_
      refine xc_gen (fun g hg => ?_)
      have s0 := (hg 0).trans arg0
      have s1 := (hg 1).trans arg1
      clear hg
      refine xc_seq (fun K hK1 => ?_)
      refine xc_region ?_
      refine x_val (r_assign ec) (nd_of rfl) rfl ?_
      refine x_val (r_assign ec) (nd_of rfl) rfl ?_
      refine xw_nil ?_
      refine hK1 _ _ ?_
      refine xc_gen (fun g hg => ?_)
      have s0 := (hg 0).trans (en rfl (en rfl s0))
      have s1 := (hg 1).trans (en rfl (en rfl s1))
      have s4 := (hg 4).trans (en rfl es)
      have s5 := (hg 5).trans es
      clear hg
      refine xc_seq (fun K hK2 => ?_)
      refine xc_region ?_
      refine x_val (r_move s0) (nd_of rfl) rfl ?_
      refine x_val (r_move (en rfl s1)) (nd_of rfl) rfl ?_
      refine x_enter (r_call Try.call54 (.cons (en rfl es) (.cons es .nil))) (nd_of rfl) rfl (at_t ht.1 h) ?_
      rintro _ w ⟨rfl, h⟩
      refine x_declA h Try.zeroValue90 Try.sizeOf90 rfl (en rfl es) (by first | assumption | exact Ok.node (by assumption) | exact xOk.cells (by assumption) | exact ChOk.ok (by assumption)) rfl ?_
      intro b6 w h
      refine xw_nil ?_
      refine hK2 _ _ ?_
      refine xc_gen (fun g hg => ?_)
      have s0 := (hg 0).trans (en rfl (en rfl (en rfl (en rfl s0))))
      have s1 := (hg 1).trans (en rfl (en rfl (en rfl (en rfl s1))))
      have s4 := (hg 4).trans (en rfl (en rfl (en rfl (en rfl s4))))
      have s5 := (hg 5).trans (en rfl (en rfl (en rfl (en rfl s5))))
      have s6 := (hg 6).trans es
      clear hg
      refine xc_seq (fun K hK3 => ?_)
      refine xc_seq (fun K hK4 => ?_)
      refine xc_region ?_
      refine x_val (r_fieldAddr (o' := 1) Try.underlying90 rfl Try.sizeOf3 rfl s6 rfl) (nd_of rfl) rfl ?_
      refine x_val (r_load h 0 rfl Try.isAgg3 es (nd0 ‹_›)) (nd_of rfl) rfl ?_
      refine x_val (r_eql es ec (decide_eq_true (by rfl))) (nd_of rfl) rfl ?_
      refine xw_nil ?_
      refine hK4 _ _ ?_
      refine xc_gen (fun g hg => ?_)
      have s0 := (hg 0).trans (en rfl (en rfl (en rfl s0)))
      have s1 := (hg 1).trans (en rfl (en rfl (en rfl s1)))
      have s4 := (hg 4).trans (en rfl (en rfl (en rfl s4)))
      have s5 := (hg 5).trans (en rfl (en rfl (en rfl s5)))
      have s6 := (hg 6).trans (en rfl (en rfl (en rfl s6)))
      have s12 := (hg 12).trans es
      clear hg
      refine xc_cond s12 (fun _ => ?_) (fun hc => by cases hc)
      refine xc_seq (fun K hK5 => ?_)
      refine xc_region ?_
      refine x_val (r_fieldAddr (o' := 2) Try.underlying90 rfl Try.sizeOf3 rfl s6 rfl) (nd_of rfl) rfl ?_
      refine x_val (r_load h 0 rfl Try.isAgg3 es (nd1 ‹_›)) (nd_of rfl) rfl ?_
      refine x_val (r_move (en rfl (en rfl s1))) (nd_of rfl) rfl ?_
      refine x_val (r_assign (en rfl es)) (nd_of rfl) rfl ?_
      refine x_val (r_assign (en rfl es)) (nd_of rfl) rfl ?_
      refine xw_nil ?_
      refine hK5 _ _ ?_
      refine xc_gen (fun g hg => ?_)
      have s0 := (hg 0).trans (en rfl (en rfl (en rfl (en rfl (en rfl s0)))))
      have s1 := (hg 1).trans (en rfl (en rfl (en rfl (en rfl (en rfl s1)))))
      have s4 := (hg 4).trans (en rfl es)
      have s5 := (hg 5).trans es
      have s6 := (hg 6).trans (en rfl (en rfl (en rfl (en rfl (en rfl s6)))))
      have s12 := (hg 12).trans (en rfl (en rfl (en rfl (en rfl (en rfl s12)))))
      clear hg
      refine xc_ret ?_
      refine bodyR_2 rfl s4 s5 ?_
      exact ⟨i, x, r, pl, rfl, ⟨ht.2.2.2, ht.slot, List.Perm.refl _, Keep.refl, rfl⟩, rfl, h.drop⟩
    | node k a z b =>
      refine calls_x Try.func44 rfl Try.ntmps44 rfl ?_
      refine xc_gen (fun g hg => ?_)
      have s0 := (hg 0).trans arg0
      have s1 := (hg 1).trans arg1
      clear hg
      refine xc_seq (fun K hK1 => ?_)
      refine xc_region ?_
      refine x_val (r_assign ec) (nd_of rfl) rfl ?_
      refine x_val (r_assign ec) (nd_of rfl) rfl ?_
      refine xw_nil ?_
      refine hK1 _ _ ?_
      refine xc_gen (fun g hg => ?_)
      have s0 := (hg 0).trans (en rfl (en rfl s0))
      have s1 := (hg 1).trans (en rfl (en rfl s1))
      have s4 := (hg 4).trans (en rfl es)
      have s5 := (hg 5).trans es
      clear hg
      refine xc_seq (fun K hK2 => ?_)
      refine xc_region ?_
      refine x_val (r_move s0) (nd_of rfl) rfl ?_
      refine x_val (r_move (en rfl s1)) (nd_of rfl) rfl ?_
      refine x_enter (r_call Try.call54 (.cons (en rfl es) (.cons es .nil))) (nd_of rfl) rfl (at_t ht.1 h) ?_
      rintro _ w ⟨rfl, h⟩
      refine x_declA h Try.zeroValue90 Try.sizeOf90 rfl (en rfl es) (by first | assumption | exact Ok.node (by assumption) | exact xOk.cells (by assumption) | exact ChOk.ok (by assumption)) rfl ?_
      intro b6 w h
      refine xw_nil ?_
      refine hK2 _ _ ?_
      refine xc_gen (fun g hg => ?_)
      have s0 := (hg 0).trans (en rfl (en rfl (en rfl (en rfl s0))))
      have s1 := (hg 1).trans (en rfl (en rfl (en rfl (en rfl s1))))
      have s4 := (hg 4).trans (en rfl (en rfl (en rfl (en rfl s4))))
      have s5 := (hg 5).trans (en rfl (en rfl (en rfl (en rfl s5))))
      have s6 := (hg 6).trans es
      clear hg
      refine xc_seq (fun K hK3 => ?_)
      refine xc_seq (fun K hK4 => ?_)
      refine xc_region ?_
      refine x_val (r_fieldAddr (o' := 1) Try.underlying90 rfl Try.sizeOf3 rfl s6 rfl) (nd_of rfl) rfl ?_
      refine x_val (r_load h 0 rfl Try.isAgg3 es (nd0 ‹_›)) (nd_of rfl) rfl ?_
      refine x_val (r_eql es ec (decide_eq_false (by (simp only [Tr.root]; omega)))) (nd_of rfl) rfl ?_
      refine xw_nil ?_
      refine hK4 _ _ ?_
      refine xc_gen (fun g hg => ?_)
      have s0 := (hg 0).trans (en rfl (en rfl (en rfl s0)))
      have s1 := (hg 1).trans (en rfl (en rfl (en rfl s1)))
      have s4 := (hg 4).trans (en rfl (en rfl (en rfl s4)))
      have s5 := (hg 5).trans (en rfl (en rfl (en rfl s5)))
      have s6 := (hg 6).trans (en rfl (en rfl (en rfl s6)))
      have s12 := (hg 12).trans es
      clear hg
      refine xc_cond s12 (fun hc => by cases hc) (fun _ => ?_)
      refine xc_skip ?_
      refine hK3 _ _ ?_
      refine xc_seq (fun K hK5 => ?_)
      refine xc_region ?_
      refine x_val (r_move s0) (nd_of rfl) rfl ?_
      refine x_val (r_fieldAddr (o' := 1) Try.underlying90 rfl Try.sizeOf3 rfl (en rfl s6) rfl) (nd_of rfl) rfl ?_
      refine x_val (r_load h 0 rfl Try.isAgg3 es (nd0 ‹_›)) (nd_of rfl) rfl ?_
      have h := h.f2
      have h := h.f2
      refine x_enter (r_call Try.call44 (.cons (en rfl (en rfl es)) (.cons es .nil))) (nd_of rfl) rfl (ihl (by simp) ht.2.2.1 (List.nodup_append.1 (List.nodup_cons.1 hn).2).1 hb.left h) ?_
      rintro _ w ⟨j, y, rest, pl1, rfl, he, hxs, h⟩
      obtain ⟨g1, g2, g3, g4, g5⟩ := En.left ht hn hb he hxs
      refine x_val (r_move es) (nd_of rfl) rfl ?_
      refine x_val (r_extract es gc0) (nd_of rfl) rfl ?_
      refine x_val (r_extract (en rfl es) gc1) (nd_of rfl) rfl ?_
      refine x_val (r_fieldAddr (o' := 1) Try.underlying90 rfl Try.sizeOf3 rfl (en rfl (en rfl (en rfl (en rfl (en rfl (en rfl (en rfl s6))))))) rfl) (nd_of rfl) rfl ?_
      refine x_st (r_store h 2 rfl Try.sizeOf3 es (en rfl (en rfl es)) rfl (nd0 ‹_›)) rfl (h.u2 (ns0 ‹_›)) ?_
      intro w h
      refine x_val (r_assign (en rfl es)) (nd_of rfl) rfl ?_
      refine xw_nil ?_
      refine hK5 _ _ ?_
      refine xc_gen (fun g hg => ?_)
      have s0 := (hg 0).trans (en rfl (en rfl (en rfl (en rfl (en rfl (en rfl (en rfl (en rfl (en rfl s0)))))))))
      have s1 := (hg 1).trans (en rfl (en rfl (en rfl (en rfl (en rfl (en rfl (en rfl (en rfl (en rfl s1)))))))))
      have s4 := (hg 4).trans (en rfl (en rfl (en rfl (en rfl (en rfl (en rfl (en rfl (en rfl (en rfl s4)))))))))
      have s5 := (hg 5).trans es
      have s6 := (hg 6).trans (en rfl (en rfl (en rfl (en rfl (en rfl (en rfl (en rfl (en rfl (en rfl s6)))))))))
      have s12 := (hg 12).trans (en rfl (en rfl (en rfl (en rfl (en rfl (en rfl (en rfl (en rfl (en rfl s12)))))))))
      clear hg
      refine xc_seq (fun K hK6 => ?_)
      refine xc_region ?_
      refine x_val (r_move s0) (nd_of rfl) rfl ?_
      refine x_val (r_move (en rfl s1)) (nd_of rfl) rfl ?_
      refine x_val (r_loadAgg h 2 rfl Try.isAgg90 Try.sizeOf90 (en rfl (en rfl s6)) (Ok.le (by first | assumption | exact Ok.node (by assumption) | exact xOk.cells (by assumption) | exact ChOk.ok (by assumption))) (ext_full (Ok.size (by first | assumption | exact Ok.node (by assumption) | exact xOk.cells (by assumption) | exact ChOk.ok (by assumption))))) (nd_of rfl) rfl ?_
      have h := h.f1
      have h := h.f1
      refine x_enter (r_call Try.call59 (.cons (en rfl (en rfl es)) (.cons (en rfl es) (.cons es .nil)))) (nd_of rfl) rfl (balance_t (l := rest) (r := r) (x := x) g1 he.has g2 ht.2.1 g3 g4 h) ?_
      rintro _ w ⟨t2, pl2, rfl, hc2, h⟩
      refine x_val (r_move (en rfl (en rfl (en rfl (en rfl s5))))) (nd_of rfl) rfl ?_
      refine x_val (r_assign (en rfl es)) (nd_of rfl) rfl ?_
      refine x_val (r_assign (en rfl es)) (nd_of rfl) rfl ?_
      refine xw_nil ?_
      refine hK6 _ _ ?_
      refine xc_gen (fun g hg => ?_)
      have s0 := (hg 0).trans (en rfl (en rfl (en rfl (en rfl (en rfl (en rfl (en rfl s0)))))))
      have s1 := (hg 1).trans (en rfl (en rfl (en rfl (en rfl (en rfl (en rfl (en rfl s1)))))))
      have s4 := (hg 4).trans (en rfl es)
      have s5 := (hg 5).trans es
      have s6 := (hg 6).trans (en rfl (en rfl (en rfl (en rfl (en rfl (en rfl (en rfl s6)))))))
      have s12 := (hg 12).trans (en rfl (en rfl (en rfl (en rfl (en rfl (en rfl (en rfl s12)))))))
      clear hg
      refine xc_ret ?_
      refine bodyR_2 rfl s4 s5 ?_
      exact ⟨j, y, t2, pl2, rfl, (g5 hc2).1, (g5 hc2).2, h.f2.drop⟩
theorem last_t : ∀ (t : Tr) {R : List SProp} {w : World} {pl : Pl}, t ≠ .nil → Has pl t → t.idx.Nodup → Bd t.xs → SatL E w (TC bt ba ro :: Ar ba pl fr :: R) →
    Calls Try.prog 42 #[pT bt, .int .i64 t.root] w (Ret fun v w' => ∃ (j : Nat) (y : X) (rest : Tr) (pl' : Pl), v = .tuple #[.int .i64 rest.root, .int .i64 (j : Int)] ∧ En pl pl' j y rest t.idx ∧ t.xs = rest.xs ++ [y] ∧ SatL E w' (TC bt ba ro :: Ar ba pl' fr :: R)) := by
  intro t
  induction t with
  | nil => intro R w pl hne; exact absurd rfl hne
  | node i l x r _ ihr =>
    intro R w pl _ ht hn hb h
    have hox := ht.2.1.cells
    change Calls _ _ #[pT bt, .int .i64 (i : Int)] w _
    cases r with
    | nil =>
      refine calls_x Try.func42 rfl Try.ntmps42 rfl ?_
      refine xc_gen (fun g hg => ?_)
      have s0 := (hg 0).trans arg0
      have s1 := (hg 1).trans arg1
      clear hg
      refine xc_seq (fun K hK1 => ?_)
      refine xc_region ?_
      refine x_val (r_assign ec) (nd_of rfl) rfl ?_
      refine x_val (r_assign ec) (nd_of rfl) rfl ?_
      refine xw_nil ?_
      refine hK1 _ _ ?_
      refine xc_gen (fun g hg => ?_)
      have s0 := (hg 0).trans (en rfl (en rfl s0))
      have s1 := (hg 1).trans (en rfl (en rfl s1))
      have s4 := (hg 4).trans (en rfl es)
      have s5 := (hg 5).trans es
      clear hg
      refine xc_seq (fun K hK2 => ?_)
      refine xc_region ?_
      refine x_val (r_move s0) (nd_of rfl) rfl ?_
      refine x_val (r_move (en rfl s1)) (nd_of rfl) rfl ?_
      refine x_enter (r_call Try.call54 (.cons (en rfl es) (.cons es .nil))) (nd_of rfl) rfl (at_t ht.1 h) ?_
      rintro _ w ⟨rfl, h⟩
      refine x_declA h Try.zeroValue90 Try.sizeOf90 rfl (en rfl es) (by first | assumption | exact Ok.node (by assumption) | exact xOk.cells (by assumption) | exact ChOk.ok (by assumption)) rfl ?_
      intro b6 w h
      refine xw_nil ?_
      refine hK2 _ _ ?_
      refine xc_gen (fun g hg => ?_)
      have s0 := (hg 0).trans (en rfl (en rfl (en rfl (en rfl s0))))
      have s1 := (hg 1).trans (en rfl (en rfl (en rfl (en rfl s1))))
      have s4 := (hg 4).trans (en rfl (en rfl (en rfl (en rfl s4))))
      have s5 := (hg 5).trans (en rfl (en rfl (en rfl (en rfl s5))))
      have s6 := (hg 6).trans es
      clear hg
      refine xc_seq (fun K hK3 => ?_)
      refine xc_seq (fun K hK4 => ?_)
      refine xc_region ?_
      refine x_val (r_fieldAddr (o' := 2) Try.underlying90 rfl Try.sizeOf3 rfl s6 rfl) (nd_of rfl) rfl ?_
      refine x_val (r_load h 0 rfl Try.isAgg3 es (nd1 ‹_›)) (nd_of rfl) rfl ?_
      refine x_val (r_eql es ec (decide_eq_true (by rfl))) (nd_of rfl) rfl ?_
      refine xw_nil ?_
      refine hK4 _ _ ?_
      refine xc_gen (fun g hg => ?_)
      have s0 := (hg 0).trans (en rfl (en rfl (en rfl s0)))
      have s1 := (hg 1).trans (en rfl (en rfl (en rfl s1)))
      have s4 := (hg 4).trans (en rfl (en rfl (en rfl s4)))
      have s5 := (hg 5).trans (en rfl (en rfl (en rfl s5)))
      have s6 := (hg 6).trans (en rfl (en rfl (en rfl s6)))
      have s12 := (hg 12).trans es
      clear hg
      refine xc_cond s12 (fun _ => ?_) (fun hc => by cases hc)
      refine xc_seq (fun K hK5 => ?_)
      refine xc_region ?_
      refine x_val (r_fieldAddr (o' := 1) Try.underlying90 rfl Try.sizeOf3 rfl s6 rfl) (nd_of rfl) rfl ?_
      refine x_val (r_load h 0 rfl Try.isAgg3 es (nd0 ‹_›)) (nd_of rfl) rfl ?_
      refine x_val (r_move (en rfl (en rfl s1))) (nd_of rfl) rfl ?_
      refine x_val (r_assign (en rfl es)) (nd_of rfl) rfl ?_
      refine x_val (r_assign (en rfl es)) (nd_of rfl) rfl ?_
      refine xw_nil ?_
      refine hK5 _ _ ?_
      refine xc_gen (fun g hg => ?_)
      have s0 := (hg 0).trans (en rfl (en rfl (en rfl (en rfl (en rfl s0)))))
      have s1 := (hg 1).trans (en rfl (en rfl (en rfl (en rfl (en rfl s1)))))
      have s4 := (hg 4).trans (en rfl es)
      have s5 := (hg 5).trans es
      have s6 := (hg 6).trans (en rfl (en rfl (en rfl (en rfl (en rfl s6)))))
      have s12 := (hg 12).trans (en rfl (en rfl (en rfl (en rfl (en rfl s12)))))
      clear hg
      refine xc_ret ?_
      refine bodyR_2 rfl s4 s5 ?_
      exact ⟨i, x, l, pl, rfl, ⟨ht.2.2.1, ht.slot, by simp [Tr.idx], Keep.refl, rfl⟩, rfl, h.drop⟩
    | node k a z b =>
      refine calls_x Try.func42 rfl Try.ntmps42 rfl ?_
      refine xc_gen (fun g hg => ?_)
      have s0 := (hg 0).trans arg0
      have s1 := (hg 1).trans arg1
      clear hg
      refine xc_seq (fun K hK1 => ?_)
      refine xc_region ?_
      refine x_val (r_assign ec) (nd_of rfl) rfl ?_
      refine x_val (r_assign ec) (nd_of rfl) rfl ?_
      refine xw_nil ?_
      refine hK1 _ _ ?_
      refine xc_gen (fun g hg => ?_)
      have s0 := (hg 0).trans (en rfl (en rfl s0))
      have s1 := (hg 1).trans (en rfl (en rfl s1))
      have s4 := (hg 4).trans (en rfl es)
      have s5 := (hg 5).trans es
      clear hg
      refine xc_seq (fun K hK2 => ?_)
      refine xc_region ?_
      refine x_val (r_move s0) (nd_of rfl) rfl ?_
      refine x_val (r_move (en rfl s1)) (nd_of rfl) rfl ?_
      refine x_enter (r_call Try.call54 (.cons (en rfl es) (.cons es .nil))) (nd_of rfl) rfl (at_t ht.1 h) ?_
      rintro _ w ⟨rfl, h⟩
      refine x_declA h Try.zeroValue90 Try.sizeOf90 rfl (en rfl es) (by first | assumption | exact Ok.node (by assumption) | exact xOk.cells (by assumption) | exact ChOk.ok (by assumption)) rfl ?_
      intro b6 w h
      refine xw_nil ?_
      refine hK2 _ _ ?_
      refine xc_gen (fun g hg => ?_)
      have s0 := (hg 0).trans (en rfl (en rfl (en rfl (en rfl s0))))
      have s1 := (hg 1).trans (en rfl (en rfl (en rfl (en rfl s1))))
      have s4 := (hg 4).trans (en rfl (en rfl (en rfl (en rfl s4))))
      have s5 := (hg 5).trans (en rfl (en rfl (en rfl (en rfl s5))))
      have s6 := (hg 6).trans es
      clear hg
      refine xc_seq (fun K hK3 => ?_)
      refine xc_seq (fun K hK4 => ?_)
      refine xc_region ?_
      refine x_val (r_fieldAddr (o' := 2) Try.underlying90 rfl Try.sizeOf3 rfl s6 rfl) (nd_of rfl) rfl ?_
      refine x_val (r_load h 0 rfl Try.isAgg3 es (nd1 ‹_›)) (nd_of rfl) rfl ?_
      refine x_val (r_eql es ec (decide_eq_false (by (simp only [Tr.root]; omega)))) (nd_of rfl) rfl ?_
      refine xw_nil ?_
      refine hK4 _ _ ?_
      refine xc_gen (fun g hg => ?_)
      have s0 := (hg 0).trans (en rfl (en rfl (en rfl s0)))
      have s1 := (hg 1).trans (en rfl (en rfl (en rfl s1)))
      have s4 := (hg 4).trans (en rfl (en rfl (en rfl s4)))
      have s5 := (hg 5).trans (en rfl (en rfl (en rfl s5)))
      have s6 := (hg 6).trans (en rfl (en rfl (en rfl s6)))
      have s12 := (hg 12).trans es
      clear hg
      refine xc_cond s12 (fun hc => by cases hc) (fun _ => ?_)
      refine xc_skip ?_
      refine hK3 _ _ ?_
      refine xc_seq (fun K hK5 => ?_)
      refine xc_region ?_
      refine x_val (r_move s0) (nd_of rfl) rfl ?_
      refine x_val (r_fieldAddr (o' := 2) Try.underlying90 rfl Try.sizeOf3 rfl (en rfl s6) rfl) (nd_of rfl) rfl ?_
      refine x_val (r_load h 0 rfl Try.isAgg3 es (nd1 ‹_›)) (nd_of rfl) rfl ?_
      have h := h.f2
      have h := h.f2
      refine x_enter (r_call Try.call42 (.cons (en rfl (en rfl es)) (.cons es .nil))) (nd_of rfl) rfl (ihr (by simp) ht.2.2.2 (List.nodup_append.1 (List.nodup_cons.1 hn).2).2.1 hb.right.tail h) ?_
      rintro _ w ⟨j, y, rest, pl1, rfl, he, hxs, h⟩
      obtain ⟨g1, g2, g3, g4, g5⟩ := En.right ht hn hb he hxs
      refine x_val (r_move es) (nd_of rfl) rfl ?_
      refine x_val (r_extract es gc0) (nd_of rfl) rfl ?_
      refine x_val (r_extract (en rfl es) gc1) (nd_of rfl) rfl ?_
      refine x_val (r_fieldAddr (o' := 2) Try.underlying90 rfl Try.sizeOf3 rfl (en rfl (en rfl (en rfl (en rfl (en rfl (en rfl (en rfl s6))))))) rfl) (nd_of rfl) rfl ?_
      refine x_st (r_store h 2 rfl Try.sizeOf3 es (en rfl (en rfl es)) rfl (nd1 ‹_›)) rfl (h.u2 (ns1 ‹_›)) ?_
      intro w h
      refine x_val (r_assign (en rfl es)) (nd_of rfl) rfl ?_
      refine xw_nil ?_
      refine hK5 _ _ ?_
      refine xc_gen (fun g hg => ?_)
      have s0 := (hg 0).trans (en rfl (en rfl (en rfl (en rfl (en rfl (en rfl (en rfl (en rfl (en rfl s0)))))))))
      have s1 := (hg 1).trans (en rfl (en rfl (en rfl (en rfl (en rfl (en rfl (en rfl (en rfl (en rfl s1)))))))))
      have s4 := (hg 4).trans (en rfl (en rfl (en rfl (en rfl (en rfl (en rfl (en rfl (en rfl (en rfl s4)))))))))
      have s5 := (hg 5).trans es
      have s6 := (hg 6).trans (en rfl (en rfl (en rfl (en rfl (en rfl (en rfl (en rfl (en rfl (en rfl s6)))))))))
      have s12 := (hg 12).trans (en rfl (en rfl (en rfl (en rfl (en rfl (en rfl (en rfl (en rfl (en rfl s12)))))))))
      clear hg
      refine xc_seq (fun K hK6 => ?_)
      refine xc_region ?_
      refine x_val (r_move s0) (nd_of rfl) rfl ?_
      refine x_val (r_move (en rfl s1)) (nd_of rfl) rfl ?_
      refine x_val (r_loadAgg h 2 rfl Try.isAgg90 Try.sizeOf90 (en rfl (en rfl s6)) (Ok.le (by first | assumption | exact Ok.node (by assumption) | exact xOk.cells (by assumption) | exact ChOk.ok (by assumption))) (ext_full (Ok.size (by first | assumption | exact Ok.node (by assumption) | exact xOk.cells (by assumption) | exact ChOk.ok (by assumption))))) (nd_of rfl) rfl ?_
      have h := h.f1
      have h := h.f1
      refine x_enter (r_call Try.call59 (.cons (en rfl (en rfl es)) (.cons (en rfl es) (.cons es .nil)))) (nd_of rfl) rfl (balance_t (l := l) (r := rest) (x := x) g1 g2 he.has ht.2.1 g3 g4 h) ?_
      rintro _ w ⟨t2, pl2, rfl, hc2, h⟩
      refine x_val (r_move (en rfl (en rfl (en rfl (en rfl s5))))) (nd_of rfl) rfl ?_
      refine x_val (r_assign (en rfl es)) (nd_of rfl) rfl ?_
      refine x_val (r_assign (en rfl es)) (nd_of rfl) rfl ?_
      refine xw_nil ?_
      refine hK6 _ _ ?_
      refine xc_gen (fun g hg => ?_)
      have s0 := (hg 0).trans (en rfl (en rfl (en rfl (en rfl (en rfl (en rfl (en rfl s0)))))))
      have s1 := (hg 1).trans (en rfl (en rfl (en rfl (en rfl (en rfl (en rfl (en rfl s1)))))))
      have s4 := (hg 4).trans (en rfl es)
      have s5 := (hg 5).trans es
      have s6 := (hg 6).trans (en rfl (en rfl (en rfl (en rfl (en rfl (en rfl (en rfl s6)))))))
      have s12 := (hg 12).trans (en rfl (en rfl (en rfl (en rfl (en rfl (en rfl (en rfl s12)))))))
      clear hg
      refine xc_ret ?_
      refine bodyR_2 rfl s4 s5 ?_
      exact ⟨j, y, t2, pl2, rfl, (g5 hc2).1, (g5 hc2).2, h.f2.drop⟩
theorem concat_t (hl : Has pl l) (hr : Has pl r) (hn : (l.idx ++ r.idx).Nodup) (hb : Bd (l.xs ++ r.xs)) (h : SatL E w (TC bt ba ro :: Ar ba pl fr :: R)) :
    Calls Try.prog 48 #[pT bt, .int .i64 l.root, .int .i64 r.root] w (Ret fun v w' => ∃ t' pl', v = .int .i64 t'.root ∧ Ch pl pl' t' (l.xs ++ r.xs) (l.idx ++ r.idx) ∧ SatL E w' (TC bt ba ro :: Ar ba pl' fr :: R)) := by
  cases l with
  | nil =>
    refine calls_x Try.func48 rfl Try.ntmps48 rfl ?_
    refine xc_gen (fun g hg => ?_)
    have s0 := (hg 0).trans arg0
    have s1 := (hg 1).trans arg1
    have s2 := (hg 2).trans arg2
    clear hg
    refine xc_seq (fun K hK1 => ?_)
    refine xc_region ?_
    refine x_val (r_assign ec) (nd_of rfl) rfl ?_
    refine xw_nil ?_
    refine hK1 _ _ ?_
    refine xc_gen (fun g hg => ?_)
    have s0 := (hg 0).trans (en rfl s0)
    have s1 := (hg 1).trans (en rfl s1)
    have s2 := (hg 2).trans (en rfl s2)
    have s6 := (hg 6).trans es
    clear hg
    refine xc_seq (fun K hK2 => ?_)
    refine xc_seq (fun K hK3 => ?_)
    refine xc_region ?_
    refine x_val (r_move s1) (nd_of rfl) rfl ?_
    refine x_val (r_eql es ec (decide_eq_true (by rfl))) (nd_of rfl) rfl ?_
    refine xw_nil ?_
    refine hK3 _ _ ?_
    refine xc_gen (fun g hg => ?_)
    have s0 := (hg 0).trans (en rfl (en rfl s0))
    have s1 := (hg 1).trans (en rfl (en rfl s1))
    have s2 := (hg 2).trans (en rfl (en rfl s2))
    have s6 := (hg 6).trans (en rfl (en rfl s6))
    have s10 := (hg 10).trans es
    clear hg
    refine xc_cond s10 (fun _ => ?_) (fun hc => by cases hc)
    refine xc_seq (fun K hK4 => ?_)
    refine xc_region ?_
    refine x_val (r_move s2) (nd_of rfl) rfl ?_
    refine x_val (r_assign es) (nd_of rfl) rfl ?_
    refine xw_nil ?_
    refine hK4 _ _ ?_
    refine xc_gen (fun g hg => ?_)
    have s0 := (hg 0).trans (en rfl (en rfl s0))
    have s1 := (hg 1).trans (en rfl (en rfl s1))
    have s2 := (hg 2).trans (en rfl (en rfl s2))
    have s6 := (hg 6).trans es
    have s10 := (hg 10).trans (en rfl (en rfl s10))
    clear hg
    refine xc_ret ?_
    refine bodyR_1 rfl s6 ?_
    exact ⟨r, pl, rfl, ⟨hr, rfl, List.Perm.refl _, Keep.refl, rfl⟩, h⟩
  | node k a z b =>
    have hna := List.nodup_append.1 hn
    refine calls_x Try.func48 rfl Try.ntmps48 rfl ?_
    refine xc_gen (fun g hg => ?_)
    have s0 := (hg 0).trans arg0
    have s1 := (hg 1).trans arg1
    have s2 := (hg 2).trans arg2
    clear hg
    refine xc_seq (fun K hK1 => ?_)
    refine xc_region ?_
    refine x_val (r_assign ec) (nd_of rfl) rfl ?_
    refine xw_nil ?_
    refine hK1 _ _ ?_
    refine xc_gen (fun g hg => ?_)
    have s0 := (hg 0).trans (en rfl s0)
    have s1 := (hg 1).trans (en rfl s1)
    have s2 := (hg 2).trans (en rfl s2)
    have s6 := (hg 6).trans es
    clear hg
    refine xc_seq (fun K hK2 => ?_)
    refine xc_seq (fun K hK3 => ?_)
    refine xc_region ?_
    refine x_val (r_move s1) (nd_of rfl) rfl ?_
    refine x_val (r_eql es ec (decide_eq_false (by (simp only [Tr.root]; omega)))) (nd_of rfl) rfl ?_
    refine xw_nil ?_
    refine hK3 _ _ ?_
    refine xc_gen (fun g hg => ?_)
    have s0 := (hg 0).trans (en rfl (en rfl s0))
    have s1 := (hg 1).trans (en rfl (en rfl s1))
    have s2 := (hg 2).trans (en rfl (en rfl s2))
    have s6 := (hg 6).trans (en rfl (en rfl s6))
    have s10 := (hg 10).trans es
    clear hg
    refine xc_cond s10 (fun hc => by cases hc) (fun _ => ?_)
    refine xc_skip ?_
    refine hK2 _ _ ?_
    refine xc_seq (fun K hK4 => ?_)
    refine xc_region ?_
    refine x_val (r_move s0) (nd_of rfl) rfl ?_
    refine x_val (r_move (en rfl s1)) (nd_of rfl) rfl ?_
    refine x_enter (r_call Try.call42 (.cons (en rfl es) (.cons es .nil))) (nd_of rfl) rfl (last_t (.node k a z b) (by simp) hl hna.1 hb.left h) ?_
    rintro _ w ⟨j, y, rest, pl1, rfl, he, hxs, h⟩
    have hp : (j :: (rest.idx ++ r.idx)).Perm ((Tr.node k a z b).idx ++ r.idx) := he.idx.append_right _
    have hjn : Jn pl1 rest j y r := ⟨he.has, he.slot, hr.keep he.keep (fun m hm hh => hna.2.2 m hh m hm rfl), hp.nodup_iff.2 hn, by rw [hxs] at hb; simpa using hb⟩
    refine x_val (r_move es) (nd_of rfl) rfl ?_
    refine x_val (r_extract es gc0) (nd_of rfl) rfl ?_
    refine x_val (r_extract (en rfl es) gc1) (nd_of rfl) rfl ?_
    refine x_val (r_assign (en rfl es)) (nd_of rfl) rfl ?_
    refine x_val (r_assign (en rfl es)) (nd_of rfl) rfl ?_
    refine xw_nil ?_
    refine hK4 _ _ ?_
    refine xc_gen (fun g hg => ?_)
    have s0 := (hg 0).trans (en rfl (en rfl (en rfl (en rfl (en rfl (en rfl (en rfl (en rfl s0))))))))
    have s1 := (hg 1).trans (en rfl (en rfl (en rfl (en rfl (en rfl (en rfl (en rfl (en rfl s1))))))))
    have s2 := (hg 2).trans (en rfl (en rfl (en rfl (en rfl (en rfl (en rfl (en rfl (en rfl s2))))))))
    have s6 := (hg 6).trans (en rfl (en rfl (en rfl (en rfl (en rfl (en rfl (en rfl (en rfl s6))))))))
    have s7 := (hg 7).trans (en rfl es)
    have s8 := (hg 8).trans es
    have s10 := (hg 10).trans (en rfl (en rfl (en rfl (en rfl (en rfl (en rfl (en rfl (en rfl s10))))))))
    clear hg
    refine xc_seq (fun K hK5 => ?_)
    refine xc_region ?_
    refine x_val (r_move s0) (nd_of rfl) rfl ?_
    refine x_val (r_move (en rfl s7)) (nd_of rfl) rfl ?_
    refine x_val (r_move (en rfl (en rfl s8))) (nd_of rfl) rfl ?_
    refine x_val (r_move (en rfl (en rfl (en rfl s2)))) (nd_of rfl) rfl ?_
    refine x_enter (r_call Try.call46 (.cons (en rfl (en rfl (en rfl es))) (.cons (en rfl (en rfl es)) (.cons (en rfl es) (.cons es .nil))))) (nd_of rfl) rfl (join_t hjn h) ?_
    rintro _ w ⟨t2, pl2, rfl, hc2, h⟩
    refine x_val (r_assign es) (nd_of rfl) rfl ?_
    refine xw_nil ?_
    refine hK5 _ _ ?_
    refine xc_gen (fun g hg => ?_)
    have s0 := (hg 0).trans (en rfl (en rfl (en rfl (en rfl (en rfl (en rfl s0))))))
    have s1 := (hg 1).trans (en rfl (en rfl (en rfl (en rfl (en rfl (en rfl s1))))))
    have s2 := (hg 2).trans (en rfl (en rfl (en rfl (en rfl (en rfl (en rfl s2))))))
    have s6 := (hg 6).trans es
    have s7 := (hg 7).trans (en rfl (en rfl (en rfl (en rfl (en rfl (en rfl s7))))))
    have s8 := (hg 8).trans (en rfl (en rfl (en rfl (en rfl (en rfl (en rfl s8))))))
    have s10 := (hg 10).trans (en rfl (en rfl (en rfl (en rfl (en rfl (en rfl s10))))))
    clear hg
    refine xc_ret ?_
    refine bodyR_1 rfl s6 ?_
    exact ⟨t2, pl2, rfl, ⟨hc2.has, by rw [hc2.xs, hxs]; simp, hc2.idx.trans hp, he.keep.trans hc2.keep (fun m hm => by simp [hm]) (fun m hm => hp.subset hm), hc2.len.trans he.len⟩, h⟩
end
end Go.Proofs.Ytonnijghdlakfaa
