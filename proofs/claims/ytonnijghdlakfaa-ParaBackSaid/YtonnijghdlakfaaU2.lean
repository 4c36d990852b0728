/-
Sets of sets: copied.
-/
import Derived.Test.YtonnijghdlakfaaU1
namespace Go.Proofs.Ytonnijghdlakfaa
open Go Go.RowKit
/-- a slice of sets that can be read wherever the list of assertions holds -/
def SReads (E : Env) (R : List SProp) (v : Value) (xs : List Value) (L : List (List Atr)) : Prop :=
  ∃ a cap, v = .slice a xs.length cap ∧ xs.length ≤ cap ∧ xs.length = L.length ∧ (∀ w, SatL E w R → ∀ (k : Nat) (x : Value), xs[k]? = some x → ∃ ad, a = some ad ∧ w.cell? (ad.add k) = some x) ∧
    ∀ (k : Nat) (x : Value) (l : List Atr), xs[k]? = some x → L[k]? = some l → AReads E R x l
theorem flat_vals : ∀ xs : List X, flat xs = xs
  | [] => rfl
  | x :: l => by
    have ih := flat_vals l
    unfold flat at *
    rw [List.flatMap_cons, ih]
    rfl
section
variable {E : Env} {R : List SProp} {w : World} {v : Value} {xs : List Value} {L : List (List Atr)}
theorem SReads.get (hv : SReads E R v xs L) {k : Nat} {x : Value} (hx : xs[k]? = some x) : ∃ l, L[k]? = some l ∧ AReads E R x l := by
  obtain ⟨a, cap, _, _, hl, _, h2⟩ := hv
  have hk := (List.getElem?_eq_some_iff.1 hx).1
  exact ⟨_, List.getElem?_eq_getElem (by omega), h2 k x _ hx (List.getElem?_eq_getElem (by omega))⟩
theorem SReads.one (hv : SReads E R v xs L) : ∀ x ∈ xs, xOk x := by
  intro x hx
  obtain ⟨k, hk, rfl⟩ := List.mem_iff_getElem.1 hx
  obtain ⟨l, _, a, cap, e, _⟩ := hv.get (List.getElem?_eq_getElem hk)
  exact ⟨_, _, _, e⟩
theorem clone_s (hv : SReads E R v xs L) (hb : xs.length ≤ 1000000) (h : SatL E w R) : Calls Try.prog 49 #[v] w (Ret fun u w' => SatL E w' (XRow u xs :: R)) := by
  have hone := hv.one
  obtain ⟨a, cap, rfl, hl1, _, hrd, _⟩ := hv
  cases a with
  | none =>
    have hn : xs = [] := by
      cases xs with
      | nil => rfl
      | cons x l =>
        obtain ⟨_, e, _⟩ := hrd w h 0 x rfl
        cases e
    subst hn
    refine calls_x Try.func49 rfl Try.ntmps49 rfl ?_
    refine xc_gen (fun g hg => ?_)
    have s0 := (hg 0).trans arg0
    clear hg
    refine xc_seq (fun K hK1 => ?_)
    refine xc_region ?_
    refine x_val (r_assign ec) (nd_of rfl) rfl ?_
    refine xw_nil ?_
    refine hK1 _ _ ?_
    refine xc_gen (fun g hg => ?_)
    have s0 := (hg 0).trans (en rfl s0)
    have s2 := (hg 2).trans es
    clear hg
    refine xc_seq (fun K hK2 => ?_)
    refine xc_seq (fun K hK3 => ?_)
    refine xc_region ?_
    refine x_val (r_move s0) (nd_of rfl) rfl ?_
    refine x_val (r_eqnilS Try.underlying23 es ec rfl) (nd_of rfl) rfl ?_
    refine xw_nil ?_
    refine hK3 _ _ ?_
    refine xc_gen (fun g hg => ?_)
    have s0 := (hg 0).trans (en rfl (en rfl s0))
    have s2 := (hg 2).trans (en rfl (en rfl s2))
    have s4 := (hg 4).trans es
    clear hg
    refine xc_cond s4 (fun _ => ?_) (fun hc => by cases hc)
    refine xc_seq (fun K hK4 => ?_)
    refine xc_region ?_
    refine x_val (r_assign ec) (nd_of rfl) rfl ?_
    refine xw_nil ?_
    refine hK4 _ _ ?_
    refine xc_gen (fun g hg => ?_)
    have s0 := (hg 0).trans (en rfl s0)
    have s2 := (hg 2).trans es
    have s4 := (hg 4).trans (en rfl s4)
    clear hg
    refine xc_ret ?_
    refine bodyR_1 rfl s2 ?_
    exact h.rowNil (e := 38) (sz := KX)
  | some a =>
    have hall : ∀ w, SatL E w R → ∀ (j : Nat) (u : Value), xs[j]? = some u → w.cell? (a.add j) = some u := by
      intro w h j u hj
      obtain ⟨ad, e, hc⟩ := hrd w h j u hj
      cases e
      exact hc
    refine calls_x Try.func49 rfl Try.ntmps49 rfl ?_
    refine xc_gen (fun g hg => ?_)
    have s0 := (hg 0).trans arg0
    clear hg
    refine xc_seq (fun K hK1 => ?_)
    refine xc_region ?_
    refine x_val (r_assign ec) (nd_of rfl) rfl ?_
    refine xw_nil ?_
    refine hK1 _ _ ?_
    refine xc_gen (fun g hg => ?_)
    have s0 := (hg 0).trans (en rfl s0)
    have s2 := (hg 2).trans es
    clear hg
    refine xc_seq (fun K hK2 => ?_)
    refine xc_seq (fun K hK3 => ?_)
    refine xc_region ?_
    refine x_val (r_move s0) (nd_of rfl) rfl ?_
    refine x_val (r_eqnilS Try.underlying23 es ec rfl) (nd_of rfl) rfl ?_
    refine xw_nil ?_
    refine hK3 _ _ ?_
    refine xc_gen (fun g hg => ?_)
    have s0 := (hg 0).trans (en rfl (en rfl s0))
    have s2 := (hg 2).trans (en rfl (en rfl s2))
    have s4 := (hg 4).trans es
    clear hg
    refine xc_cond s4 (fun hc => by cases hc) (fun _ => ?_)
    refine xc_skip ?_
    refine hK2 _ _ ?_
    refine xc_seq (fun K hK4 => ?_)
    refine xc_region ?_
    refine x_bslice0 h Try.underlying23 Try.sizeOf38 rfl ?_; intro bn w h
    refine x_val (r_move (en rfl s0)) (nd_of rfl) rfl ?_
    refine x_append_at (bytes := 24) (news := xs) h Try.underlying23 (by kernel_rfl) (en rfl es) es (by omega) (hall _ h.drop) (fun u hu => (hone u hu).one) (by omega) (by omega) rfl ?_; intro u2 w h
    have h : SatL E w (XRow u2 xs :: R) := by have h2 := h; rw [Nat.zero_add, List.nil_append] at h2; unfold XRow; rw [flat_vals]; exact h2
    refine x_val (r_assign es) (nd_of rfl) rfl ?_
    refine xw_nil ?_
    refine hK4 _ _ ?_
    refine xc_gen (fun g hg => ?_)
    have s0 := (hg 0).trans (en rfl (en rfl (en rfl (en rfl s0))))
    have s2 := (hg 2).trans es
    have s4 := (hg 4).trans (en rfl (en rfl (en rfl (en rfl s4))))
    clear hg
    refine xc_ret ?_
    refine bodyR_1 rfl s2 ?_
    exact h
theorem SatL.rowsSnoc {u : Value} {ys : List Value} {l : List Atr} {M : List (List Atr)} (h : SatL E w (ARow u l :: RowsL ys M :: R)) : SatL E w (RowsL (ys ++ [u]) (M ++ [l]) :: R) :=
  SatL.rowsApp (SatL.rowsCons (h.rowsNil.f1)).f1
theorem set_mid {ys xs : List Value} {k : Nat} {x u : Value} (hy : ys.length = k) (hx : xs[k]? = some x) : (ys ++ xs.drop k).set k u = (ys ++ [u]) ++ xs.drop (k + 1) := by
  have hk := (List.getElem?_eq_some_iff.1 hx).1
  rw [List.set_append_right _ _ (by omega), hy, Nat.sub_self, List.drop_eq_getElem_cons hk, List.set_cons_zero, List.append_assoc]
  rfl
theorem copied_ok (hv : SReads E R v xs L) (hb : xs.length ≤ 1000000) (hL : ∀ l ∈ L, l.length ≤ 1000000) (h : SatL E w R) : Calls Try.prog 27 #[v] w (Ret fun u w' => ∃ ys, SatL E w' (XRow u ys :: RowsL ys L :: R)) := by
  have hv2 := hv
  obtain ⟨av, capv, ev0, _, hlx, _, _⟩ := hv
  refine calls_x Try.func27 rfl Try.ntmps27 rfl ?_
  refine xc_gen (fun g hg => ?_)
  have s0 := (hg 0).trans arg0
  clear hg
  refine xc_seq (fun K hK1 => ?_)
  refine xc_region ?_
  refine x_val (r_assign ec) (nd_of rfl) rfl ?_
  refine xw_nil ?_
  refine hK1 _ _ ?_
  refine xc_gen (fun g hg => ?_)
  have s0 := (hg 0).trans (en rfl s0)
  have s2 := (hg 2).trans es
  clear hg
  refine xc_seq (fun K hK2 => ?_)
  refine xc_region ?_
  refine x_val (r_move s0) (nd_of rfl) rfl ?_
  refine x_enter (r_call Try.call49 (.cons es .nil)) (nd_of rfl) rfl (clone_s hv2 hb h) ?_
  rintro _ w h
  rw [XRow, flat_vals] at h
  obtain ⟨au, cu, rfl, _, _⟩ := h.rowVal
  refine x_val (r_assign es) (nd_of rfl) rfl ?_
  refine xw_nil ?_
  refine hK2 _ _ ?_
  refine xc_gen (fun g hg => ?_)
  have s0 := (hg 0).trans (en rfl (en rfl (en rfl s0)))
  have s2 := (hg 2).trans (en rfl (en rfl (en rfl s2)))
  have s3 := (hg 3).trans es
  clear hg
  refine xc_seq (fun K hK3 => ?_)
  refine xc_seq (fun K hK4 => ?_)
  refine xc_region ?_
  refine x_val (r_move s3) (nd_of rfl) rfl ?_
  refine x_val (r_len Try.underlying23 es) (nd_of rfl) rfl ?_
  refine x_val (r_move ec) (nd_of rfl) rfl ?_
  refine xw_nil ?_
  refine hK4 _ _ ?_
  refine xc_gen (fun g hg => ?_)
  have s0 := (hg 0).trans (en rfl (en rfl (en rfl s0)))
  have s2 := (hg 2).trans (en rfl (en rfl (en rfl s2)))
  have s3 := (hg 3).trans (en rfl (en rfl (en rfl s3)))
  have s8 := (hg 8).trans (en rfl es)
  have s9 := (hg 9).trans es
  clear hg
  refine xc_block ?_
  obtain ⟨G5, hG5⟩ : ∃ g0 : Nat → Value, g0 = g := ⟨_, rfl⟩
  have zG5_0 : G5 0 = _ := (congrFun hG5 0).trans s0
  have zG5_2 : G5 2 = _ := (congrFun hG5 2).trans s2
  have zG5_3 : G5 3 = _ := (congrFun hG5 3).trans s3
  have zG5_8 : G5 8 = _ := (congrFun hG5 8).trans s8
  refine xc_loop (fun m f w => (∃ (k : Nat) (ys : List Value), m = xs.length - k ∧ k ≤ xs.length ∧ ys.length = k ∧ f 9 = .int .i64 (k : Int) ∧ SatL E w (Row 38 1 (.slice au xs.length cu) xs.length (ys ++ xs.drop k) :: RowsL ys (L.take k) :: R)) ∧ (f 0 = G5 0 ∧ f 2 = G5 2 ∧ f 3 = G5 3 ∧ f 8 = G5 8)) (xs.length) ⟨⟨0, [], by omega, by omega, rfl, s9, (h.rowsNil).f1⟩, ⟨congrFun hG5.symm 0, congrFun hG5.symm 2, congrFun hG5.symm 3, congrFun hG5.symm 8⟩⟩ ?_
  rintro m g w ⟨⟨k, ys, hm, hk, hy, s9, h⟩, ⟨y0, y2, y3, y8⟩⟩
  have s0 := y0.trans zG5_0
  have s2 := y2.trans zG5_2
  have s3 := y3.trans zG5_3
  have s8 := y8.trans zG5_8
  refine xc_seq (fun K hK6 => ?_)
  refine xc_region ?_
  refine x_val (r_lss s9 s8 rfl) (nd_of rfl) rfl ?_
  refine xw_nil ?_
  refine hK6 _ _ ?_
  refine xc_gen (fun g hg => ?_)
  have s0 := (hg 0).trans (en rfl s0)
  have s2 := (hg 2).trans (en rfl s2)
  have s3 := (hg 3).trans (en rfl s3)
  have s8 := (hg 8).trans (en rfl s8)
  have s9 := (hg 9).trans (en rfl s9)
  have s10 := (hg 10).trans es
  clear hg
  refine xc_seq (fun K hK7 => ?_)
  refine xc_cond s10 (fun hc => ?_) (fun hc => ?_)
  ·
    refine xc_skip ?_
    refine hK7 _ _ ?_
    refine xc_seq (fun K hK8 => ?_)
    refine xc_block ?_
    refine xc_seq (fun K hK9 => ?_)
    have hi : k < xs.length := by have := of_decide_eq_true hc; omega
    obtain ⟨x, hx⟩ : ∃ x, xs[k]? = some x := ⟨_, List.getElem?_eq_getElem hi⟩
    obtain ⟨l, hl, har⟩ := hv2.get hx
    have hll := hL l (List.mem_of_getElem? hl)
    have hsm := fun u => set_mid (u := u) hy hx
    have hmk : (ys ++ xs.drop k)[k]? = some x := by rw [List.getElem?_append_right (by omega), hy, Nat.sub_self, List.getElem?_drop]; exact hx
    have htk : L.take (k + 1) = L.take k ++ [l] := by rw [List.take_add_one, hl]; rfl
    obtain ⟨gm, cm, curm, hrm, hh⟩ := h.openRow (by omega)
    have hvm := hrm.val
    simp only [Value.slice.injEq] at hvm
    obtain ⟨rfl, _, rfl⟩ := hvm
    have h := hh
    have hcell : curm[k * 1]? = some x := by rw [Nat.mul_one]; exact hrm.get hmk
    refine xc_region ?_
    refine x_val (r_move s9) (nd_of rfl) rfl ?_
    refine x_val (r_assign es) (nd_of rfl) rfl ?_
    refine xw_nil ?_
    refine hK9 _ _ ?_
    refine xc_gen (fun g hg => ?_)
    have s0 := (hg 0).trans (en rfl (en rfl s0))
    have s2 := (hg 2).trans (en rfl (en rfl s2))
    have s3 := (hg 3).trans (en rfl (en rfl s3))
    have s4 := (hg 4).trans es
    have s8 := (hg 8).trans (en rfl (en rfl s8))
    have s9 := (hg 9).trans (en rfl (en rfl s9))
    have s10 := (hg 10).trans (en rfl (en rfl s10))
    clear hg
    refine xc_region ?_
    refine x_val (r_move s3) (nd_of rfl) rfl ?_
    refine x_val (r_move (en rfl s4)) (nd_of rfl) rfl ?_
    refine x_val (r_move (en rfl (en rfl s3))) (nd_of rfl) rfl ?_
    refine x_val (r_move (en rfl (en rfl (en rfl s4)))) (nd_of rfl) rfl ?_
    refine x_val (r_indexAddrN Try.underlying23 Try.sizeOf38 (en rfl es) es (by omega)) (nd_of rfl) rfl ?_
    refine x_val (r_load h 0 rfl Try.isAgg38 es hcell) (nd_of rfl) rfl ?_
    refine x_enter (r_call Try.call33 (.cons es .nil)) (nd_of rfl) rfl (copy_a (har.weak (fun w h => h.drop.drop)) hll h) ?_
    rintro _ w h
    obtain ⟨au2, cu2, rfl, _, _⟩ := h.rowVal
    refine x_val (r_indexAddrN Try.underlying23 Try.sizeOf38 (en rfl (en rfl (en rfl (en rfl (en rfl (en rfl es)))))) (en rfl (en rfl (en rfl (en rfl (en rfl es))))) (by omega)) (nd_of rfl) rfl ?_
    refine x_st (r_store h 1 rfl Try.sizeOf38 es (en rfl es) rfl hcell) rfl (h.u1 rfl) ?_
    intro w h
    refine xw_nil ?_
    refine hK8 _ _ ?_
    refine xc_gen (fun g hg => ?_)
    have s0 := (hg 0).trans (en rfl (en rfl (en rfl (en rfl (en rfl (en rfl (en rfl (en rfl s0))))))))
    have s2 := (hg 2).trans (en rfl (en rfl (en rfl (en rfl (en rfl (en rfl (en rfl (en rfl s2))))))))
    have s3 := (hg 3).trans (en rfl (en rfl (en rfl (en rfl (en rfl (en rfl (en rfl (en rfl s3))))))))
    have s4 := (hg 4).trans (en rfl (en rfl (en rfl (en rfl (en rfl (en rfl (en rfl (en rfl s4))))))))
    have s8 := (hg 8).trans (en rfl (en rfl (en rfl (en rfl (en rfl (en rfl (en rfl (en rfl s8))))))))
    have s9 := (hg 9).trans (en rfl (en rfl (en rfl (en rfl (en rfl (en rfl (en rfl (en rfl s9))))))))
    have s10 := (hg 10).trans (en rfl (en rfl (en rfl (en rfl (en rfl (en rfl (en rfl (en rfl s10))))))))
    clear hg
    have hr2 := hrm.set (k * 1) (.slice au2 l.length cu2)
    rw [Nat.mul_one, hsm] at hr2
    refine xc_region ?_
    refine x_val (r_add s9 ec (show _ = (((k + 1 : Nat) : Int) : Int) from by omega) (by unfold I64; omega)) (nd_of rfl) rfl ?_
    refine x_val (r_move es) (nd_of rfl) rfl ?_
    refine xw_nil ?_
    exact ⟨xs.length - (k + 1), by omega, ⟨k + 1, ys ++ [.slice au2 l.length cu2], rfl, by omega, by simp [hy], es, by rw [htk]; rw [Nat.mul_one] at h; exact (SatL.rowsSnoc (((SatL.closeRow h.f1 hr2).f2).f2)).f1⟩, ⟨((en rfl (en rfl s0))).trans zG5_0.symm, ((en rfl (en rfl s2))).trans zG5_2.symm, ((en rfl (en rfl s3))).trans zG5_3.symm, ((en rfl (en rfl s8))).trans zG5_8.symm⟩⟩
  ·
    refine xc_exit ?_
    refine hK3 _ _ ?_
    refine xc_seq (fun K hK10 => ?_)
    obtain rfl : k = xs.length := by have := of_decide_eq_false hc; omega
    refine xc_region ?_
    refine x_val (r_move s3) (nd_of rfl) rfl ?_
    refine x_val (r_assign es) (nd_of rfl) rfl ?_
    refine xw_nil ?_
    refine hK10 _ _ ?_
    refine xc_gen (fun g hg => ?_)
    have s0 := (hg 0).trans (en rfl (en rfl s0))
    have s2 := (hg 2).trans es
    have s3 := (hg 3).trans (en rfl (en rfl s3))
    have s8 := (hg 8).trans (en rfl (en rfl s8))
    have s9 := (hg 9).trans (en rfl (en rfl s9))
    have s10 := (hg 10).trans (en rfl (en rfl s10))
    clear hg
    refine xc_ret ?_
    refine bodyR_1 rfl s2 ?_
    exact ⟨ys, by rw [XRow, flat_vals]; rw [List.drop_length, List.append_nil, hlx, List.take_length] at h; rw [hy]; exact hlx ▸ h⟩
end
end Go.Proofs.Ytonnijghdlakfaa
