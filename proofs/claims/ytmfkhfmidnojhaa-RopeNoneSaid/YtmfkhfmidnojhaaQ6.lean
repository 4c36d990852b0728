/-
RopeNone: the walk.
-/
import Derived.Test.YtmfkhfmidnojhaaP8
namespace Go.Proofs.Ytmfkhfmidnojhaa
open Go Go.RowKit
section
variable {E : Env} {R : List SProp} {w : World} {W : World} {v : Value} {zs : List Int} {b : Nat} {o : OpV}
theorem refIns_all {i : Int} (hv : Reads E R v .i32 zs) (hz : zs.length ≤ 1000000) (h : SatL E w R) : Calls Try.prog 22 #[.slice (some ⟨b, 0, none⟩) 0 0, .int .i64 i, v] w (Ret fun u w' => ∃ a c, u = .tuple #[.slice a (insT [] zs i).length c, .int .i64 (insE [] zs i)] ∧ SatL E w' R) := by
  by_cases ha : ∀ r ∈ zs, rune r
  · by_cases hi : i = 0
    · subst hi
      have e : insE [] zs 0 = 0 := insE_mk ha ⟨by omega, by omega, by simp⟩
      have e2 : insT [] zs 0 = zs := by unfold insT; rw [if_pos e]; simp
      rw [e, e2]
      exact refIns_yes hv ha hz h
    · have e : insE [] zs i = 5 := by
        unfold insE
        rw [if_pos ha, if_neg (fun hp => by obtain ⟨h1, _, h2⟩ := hp; simp at h2; omega)]
      have e2 : insT [] zs i = [] := by unfold insT; rw [if_neg (by rw [e]; decide)]
      rw [e, e2]
      exact Calls.ret_mono (refIns_no hv ha hi hz h) fun _ _ ⟨e, h⟩ => ⟨_, _, e, h⟩
  · have e : insE [] zs i = 3 := by unfold insE; rw [if_neg ha]
    have e2 : insT [] zs i = [] := by unfold insT; rw [if_neg (by rw [e]; decide)]
    rw [e, e2]
    exact Calls.ret_mono (refIns_bad hv (Classical.byContradiction fun hn => ha fun r hr => Classical.byContradiction fun h2 => hn ⟨r, hr, h2⟩) hz h) fun _ _ ⟨e, h⟩ => ⟨_, _, e, h⟩
theorem none_long (hw : OpWf W o) (hl : 100 < o.ls.length) (h : SatL E w (Old W :: R)) : Calls Try.prog 4 #[.agg (opC o).toArray] w (Ret fun u w' => u = .bool true ∧ SatL E w' (Old W :: R)) := by
  obtain ⟨al, cl, hlv, _⟩ := hw.sp
  unfold opC
  rw [hlv]
  refine calls_x Try.func4 rfl Try.ntmps4 rfl ?_
  refine xc_gen (fun g hg => ?_)
  have s0 := (hg 0).trans arg0
  clear hg
  refine xc_seq (fun K hK1 => ?_)
  refine xc_region ?_
  refine x_boxA h s0 rfl ?_
  intro b1 w h
  refine x_val (r_assign ec) (nd_of rfl) rfl ?_
  refine xw_nil ?_
  refine hK1 _ _ ?_
  refine xc_gen (fun g hg => ?_)
  have s0 := (hg 0).trans (en rfl (en rfl s0))
  have s1 := (hg 1).trans (en rfl es)
  have s2 := (hg 2).trans es
  clear hg
  refine xc_seq (fun K hK2 => ?_)
  refine xc_seq (fun K hK3 => ?_)
  refine xc_region ?_
  refine x_val (r_fieldAddr (o' := 4) Try.underlying28 rfl Try.sizeOf23 rfl s1 rfl) (nd_of rfl) rfl ?_
  refine x_val (r_load h 0 rfl Try.isAgg23 es gc4) (nd_of rfl) rfl ?_
  refine x_val (r_len Try.underlying23 es) (nd_of rfl) rfl ?_
  refine x_val (r_gtr es ec (decide_eq_true (by omega))) (nd_of rfl) rfl ?_
  refine xw_nil ?_
  refine hK3 _ _ ?_
  refine xc_gen (fun g hg => ?_)
  have s0 := (hg 0).trans (en rfl (en rfl (en rfl (en rfl s0))))
  have s1 := (hg 1).trans (en rfl (en rfl (en rfl (en rfl s1))))
  have s2 := (hg 2).trans (en rfl (en rfl (en rfl (en rfl s2))))
  have s20 := (hg 20).trans es
  clear hg
  refine xc_cond s20 (fun _ => ?_) (fun hc => by cases hc)
  refine xc_seq (fun K hK4 => ?_)
  refine xc_region ?_
  refine x_enter (r_call Try.call10 .nil) (nd_of rfl) rfl (known_ok h) ?_
  rintro _ w ⟨rfl, h⟩
  refine x_val (r_assign es) (nd_of rfl) rfl ?_
  refine xw_nil ?_
  refine hK4 _ _ ?_
  refine xc_gen (fun g hg => ?_)
  have s0 := (hg 0).trans (en rfl (en rfl s0))
  have s1 := (hg 1).trans (en rfl (en rfl s1))
  have s2 := (hg 2).trans es
  have s20 := (hg 20).trans (en rfl (en rfl s20))
  clear hg
  refine xc_ret ?_
  refine bodyR_1 rfl s2 ?_
  exact ⟨rfl, h.drop⟩
theorem none_ok (hw : OpWf W o) (hl : o.ls.length ≤ 100) (h : SatL E w (Old W :: R)) : Calls Try.prog 4 #[.agg (opC o).toArray] w (Ret fun u w' => u = .bool true ∧ SatL E w' (Old W :: R)) := by
  obtain ⟨al, cl, hlv, _⟩ := hw.sp
  have hsp := hw.sp
  rw [hlv] at hsp
  unfold opC
  rw [hlv]
  refine calls_x Try.func4 rfl Try.ntmps4 rfl ?_
  refine xc_gen (fun g hg => ?_)
  have s0 := (hg 0).trans arg0
  clear hg
  refine xc_seq (fun K hK1 => ?_)
  refine xc_region ?_
  refine x_boxA h s0 rfl ?_
  intro b1 w h
  refine x_val (r_assign ec) (nd_of rfl) rfl ?_
  refine xw_nil ?_
  refine hK1 _ _ ?_
  refine xc_gen (fun g hg => ?_)
  have s0 := (hg 0).trans (en rfl (en rfl s0))
  have s1 := (hg 1).trans (en rfl es)
  have s2 := (hg 2).trans es
  clear hg
  refine xc_seq (fun K hK2 => ?_)
  refine xc_seq (fun K hK3 => ?_)
  refine xc_region ?_
  refine x_val (r_fieldAddr (o' := 4) Try.underlying28 rfl Try.sizeOf23 rfl s1 rfl) (nd_of rfl) rfl ?_
  refine x_val (r_load h 0 rfl Try.isAgg23 es gc4) (nd_of rfl) rfl ?_
  refine x_val (r_len Try.underlying23 es) (nd_of rfl) rfl ?_
  refine x_val (r_gtr es ec (decide_eq_false (by omega))) (nd_of rfl) rfl ?_
  refine xw_nil ?_
  refine hK3 _ _ ?_
  refine xc_gen (fun g hg => ?_)
  have s0 := (hg 0).trans (en rfl (en rfl (en rfl (en rfl s0))))
  have s1 := (hg 1).trans (en rfl (en rfl (en rfl (en rfl s1))))
  have s2 := (hg 2).trans (en rfl (en rfl (en rfl (en rfl s2))))
  have s20 := (hg 20).trans es
  clear hg
  refine xc_cond s20 (fun hc => by cases hc) (fun _ => ?_)
  refine xc_skip ?_
  refine hK2 _ _ ?_
  refine xc_seq (fun K hK4 => ?_)
  refine xc_region ?_
  refine x_val (r_assign ec) (nd_of rfl) rfl ?_
  refine xw_nil ?_
  refine hK4 _ _ ?_
  refine xc_gen (fun g hg => ?_)
  have s0 := (hg 0).trans (en rfl s0)
  have s1 := (hg 1).trans (en rfl s1)
  have s2 := (hg 2).trans (en rfl s2)
  have s3 := (hg 3).trans es
  have s20 := (hg 20).trans (en rfl s20)
  clear hg
  refine xc_seq (fun K hK5 => ?_)
  refine xc_region ?_
  refine x_allocA h Try.zeroValue44 rfl ?_
  intro b4 w h
  refine xw_nil ?_
  refine hK5 _ _ ?_
  refine xc_gen (fun g hg => ?_)
  have s0 := (hg 0).trans (en rfl s0)
  have s1 := (hg 1).trans (en rfl s1)
  have s2 := (hg 2).trans (en rfl s2)
  have s3 := (hg 3).trans (en rfl s3)
  have s4 := (hg 4).trans es
  have s20 := (hg 20).trans (en rfl s20)
  clear hg
  refine xc_seq (fun K hK6 => ?_)
  have h := SatL.closeRp (t := []) rfl (SatL.closeObj0 (B := 0) h)
  refine xc_region ?_
  refine x_val (r_move s3) (nd_of rfl) rfl ?_
  refine x_val (r_fieldAddr (o' := 1) Try.underlying28 rfl Try.sizeOf3 rfl (en rfl s1) rfl) (nd_of rfl) rfl ?_
  refine x_val (r_load h 1 rfl Try.isAgg3 es gc1) (nd_of rfl) rfl ?_
  refine x_enter (r_call Try.call21 (.cons (en rfl (en rfl es)) (.cons es .nil))) (nd_of rfl) rfl (atN h) ?_
  rintro _ w ⟨rfl, h⟩
  refine x_val (r_move es) (nd_of rfl) rfl ?_
  refine x_val (r_extract es gc0) (nd_of rfl) rfl ?_
  refine x_val (r_extract (en rfl es) gc1) (nd_of rfl) rfl ?_
  refine x_val (r_assign (en rfl es)) (nd_of rfl) rfl ?_
  refine x_val (r_assign (en rfl es)) (nd_of rfl) rfl ?_
  refine xw_nil ?_
  refine hK6 _ _ ?_
  refine xc_gen (fun g hg => ?_)
  have s0 := (hg 0).trans (en rfl (en rfl (en rfl (en rfl (en rfl (en rfl (en rfl (en rfl (en rfl s0)))))))))
  have s1 := (hg 1).trans (en rfl (en rfl (en rfl (en rfl (en rfl (en rfl (en rfl (en rfl (en rfl s1)))))))))
  have s2 := (hg 2).trans (en rfl (en rfl (en rfl (en rfl (en rfl (en rfl (en rfl (en rfl (en rfl s2)))))))))
  have s3 := (hg 3).trans (en rfl (en rfl (en rfl (en rfl (en rfl (en rfl (en rfl (en rfl (en rfl s3)))))))))
  have s4 := (hg 4).trans (en rfl (en rfl (en rfl (en rfl (en rfl (en rfl (en rfl (en rfl (en rfl s4)))))))))
  have s6 := (hg 6).trans es
  have s20 := (hg 20).trans (en rfl (en rfl (en rfl (en rfl (en rfl (en rfl (en rfl (en rfl (en rfl s20)))))))))
  clear hg
  refine xc_seq (fun K hK7 => ?_)
  refine xc_region ?_
  refine x_val (r_move s3) (nd_of rfl) rfl ?_
  refine x_val (r_fieldAddr (o' := 1) Try.underlying28 rfl Try.sizeOf3 rfl (en rfl s1) rfl) (nd_of rfl) rfl ?_
  refine x_val (r_load h 1 rfl Try.isAgg3 es gc1) (nd_of rfl) rfl ?_
  refine x_val (r_fieldAddr (o' := 2) Try.underlying28 rfl Try.sizeOf3 rfl (en rfl (en rfl (en rfl s1))) rfl) (nd_of rfl) rfl ?_
  refine x_val (r_load h 1 rfl Try.isAgg3 es gc2) (nd_of rfl) rfl ?_
  refine x_enter (r_call Try.call14 (.cons (en rfl (en rfl (en rfl (en rfl es)))) (.cons (en rfl (en rfl es)) (.cons es .nil)))) (nd_of rfl) rfl (sliceN h) ?_
  rintro _ w ⟨rfl, h⟩
  refine x_val (r_move es) (nd_of rfl) rfl ?_
  refine x_val (r_extract es gc0) (nd_of rfl) rfl ?_
  refine x_val (r_extract (en rfl es) gc1) (nd_of rfl) rfl ?_
  refine x_val (r_assign (en rfl es)) (nd_of rfl) rfl ?_
  refine x_val (r_assign (en rfl es)) (nd_of rfl) rfl ?_
  refine xw_nil ?_
  refine hK7 _ _ ?_
  refine xc_gen (fun g hg => ?_)
  have s0 := (hg 0).trans (en rfl (en rfl (en rfl (en rfl (en rfl (en rfl (en rfl (en rfl (en rfl (en rfl (en rfl s0)))))))))))
  have s1 := (hg 1).trans (en rfl (en rfl (en rfl (en rfl (en rfl (en rfl (en rfl (en rfl (en rfl (en rfl (en rfl s1)))))))))))
  have s2 := (hg 2).trans (en rfl (en rfl (en rfl (en rfl (en rfl (en rfl (en rfl (en rfl (en rfl (en rfl (en rfl s2)))))))))))
  have s3 := (hg 3).trans (en rfl (en rfl (en rfl (en rfl (en rfl (en rfl (en rfl (en rfl (en rfl (en rfl (en rfl s3)))))))))))
  have s4 := (hg 4).trans (en rfl (en rfl (en rfl (en rfl (en rfl (en rfl (en rfl (en rfl (en rfl (en rfl (en rfl s4)))))))))))
  have s6 := (hg 6).trans (en rfl (en rfl (en rfl (en rfl (en rfl (en rfl (en rfl (en rfl (en rfl (en rfl (en rfl s6)))))))))))
  have s8 := (hg 8).trans es
  have s20 := (hg 20).trans (en rfl (en rfl (en rfl (en rfl (en rfl (en rfl (en rfl (en rfl (en rfl (en rfl (en rfl s20)))))))))))
  clear hg
  refine xc_seq (fun K hK8 => ?_)
  refine xc_region ?_
  refine x_val (r_move s3) (nd_of rfl) rfl ?_
  refine x_val (r_fieldAddr (o' := 1) Try.underlying28 rfl Try.sizeOf3 rfl (en rfl s1) rfl) (nd_of rfl) rfl ?_
  refine x_val (r_load h 1 rfl Try.isAgg3 es gc1) (nd_of rfl) rfl ?_
  refine x_enter (r_call Try.call19 (.cons (en rfl (en rfl es)) (.cons es .nil))) (nd_of rfl) rfl (lineOfN h) ?_
  rintro _ w ⟨rfl, h⟩
  refine x_val (r_move es) (nd_of rfl) rfl ?_
  refine x_val (r_extract es gc0) (nd_of rfl) rfl ?_
  refine x_val (r_extract (en rfl es) gc1) (nd_of rfl) rfl ?_
  refine x_val (r_assign (en rfl es)) (nd_of rfl) rfl ?_
  refine x_val (r_assign (en rfl es)) (nd_of rfl) rfl ?_
  refine xw_nil ?_
  refine hK8 _ _ ?_
  refine xc_gen (fun g hg => ?_)
  have s0 := (hg 0).trans (en rfl (en rfl (en rfl (en rfl (en rfl (en rfl (en rfl (en rfl (en rfl s0)))))))))
  have s1 := (hg 1).trans (en rfl (en rfl (en rfl (en rfl (en rfl (en rfl (en rfl (en rfl (en rfl s1)))))))))
  have s2 := (hg 2).trans (en rfl (en rfl (en rfl (en rfl (en rfl (en rfl (en rfl (en rfl (en rfl s2)))))))))
  have s3 := (hg 3).trans (en rfl (en rfl (en rfl (en rfl (en rfl (en rfl (en rfl (en rfl (en rfl s3)))))))))
  have s4 := (hg 4).trans (en rfl (en rfl (en rfl (en rfl (en rfl (en rfl (en rfl (en rfl (en rfl s4)))))))))
  have s6 := (hg 6).trans (en rfl (en rfl (en rfl (en rfl (en rfl (en rfl (en rfl (en rfl (en rfl s6)))))))))
  have s8 := (hg 8).trans (en rfl (en rfl (en rfl (en rfl (en rfl (en rfl (en rfl (en rfl (en rfl s8)))))))))
  have s10 := (hg 10).trans es
  have s20 := (hg 20).trans (en rfl (en rfl (en rfl (en rfl (en rfl (en rfl (en rfl (en rfl (en rfl s20)))))))))
  clear hg
  refine xc_seq (fun K hK9 => ?_)
  refine xc_region ?_
  refine x_val (r_move s3) (nd_of rfl) rfl ?_
  refine x_val (r_fieldAddr (o' := 1) Try.underlying28 rfl Try.sizeOf3 rfl (en rfl s1) rfl) (nd_of rfl) rfl ?_
  refine x_val (r_load h 1 rfl Try.isAgg3 es gc1) (nd_of rfl) rfl ?_
  refine x_enter (r_call Try.call20 (.cons (en rfl (en rfl es)) (.cons es .nil))) (nd_of rfl) rfl (offsetOfN h) ?_
  rintro _ w ⟨rfl, h⟩
  refine x_val (r_move es) (nd_of rfl) rfl ?_
  refine x_val (r_extract es gc0) (nd_of rfl) rfl ?_
  refine x_val (r_extract (en rfl es) gc1) (nd_of rfl) rfl ?_
  refine x_val (r_assign (en rfl es)) (nd_of rfl) rfl ?_
  refine x_val (r_assign (en rfl es)) (nd_of rfl) rfl ?_
  refine xw_nil ?_
  refine hK9 _ _ ?_
  refine xc_gen (fun g hg => ?_)
  have s0 := (hg 0).trans (en rfl (en rfl (en rfl (en rfl (en rfl (en rfl (en rfl (en rfl (en rfl s0)))))))))
  have s1 := (hg 1).trans (en rfl (en rfl (en rfl (en rfl (en rfl (en rfl (en rfl (en rfl (en rfl s1)))))))))
  have s2 := (hg 2).trans (en rfl (en rfl (en rfl (en rfl (en rfl (en rfl (en rfl (en rfl (en rfl s2)))))))))
  have s3 := (hg 3).trans (en rfl (en rfl (en rfl (en rfl (en rfl (en rfl (en rfl (en rfl (en rfl s3)))))))))
  have s4 := (hg 4).trans (en rfl (en rfl (en rfl (en rfl (en rfl (en rfl (en rfl (en rfl (en rfl s4)))))))))
  have s6 := (hg 6).trans (en rfl (en rfl (en rfl (en rfl (en rfl (en rfl (en rfl (en rfl (en rfl s6)))))))))
  have s8 := (hg 8).trans (en rfl (en rfl (en rfl (en rfl (en rfl (en rfl (en rfl (en rfl (en rfl s8)))))))))
  have s10 := (hg 10).trans (en rfl (en rfl (en rfl (en rfl (en rfl (en rfl (en rfl (en rfl (en rfl s10)))))))))
  have s12 := (hg 12).trans es
  have s20 := (hg 20).trans (en rfl (en rfl (en rfl (en rfl (en rfl (en rfl (en rfl (en rfl (en rfl s20)))))))))
  clear hg
  refine xc_seq (fun K hK10 => ?_)
  refine xc_region ?_
  refine x_val (r_move s3) (nd_of rfl) rfl ?_
  refine x_val (r_fieldAddr (o' := 1) Try.underlying28 rfl Try.sizeOf3 rfl (en rfl s1) rfl) (nd_of rfl) rfl ?_
  refine x_val (r_load h 1 rfl Try.isAgg3 es gc1) (nd_of rfl) rfl ?_
  refine x_enter (r_call Try.call16 (.cons (en rfl (en rfl es)) (.cons es .nil))) (nd_of rfl) rfl (splitN h) ?_
  rintro _ w ⟨rfl, h⟩
  refine x_val (r_move es) (nd_of rfl) rfl ?_
  refine x_val (r_extract es gc0) (nd_of rfl) rfl ?_
  refine x_val (r_extract (en rfl es) gc1) (nd_of rfl) rfl ?_
  refine x_val (r_assign (en rfl es)) (nd_of rfl) rfl ?_
  refine x_val (r_assign (en rfl es)) (nd_of rfl) rfl ?_
  refine xw_nil ?_
  refine hK10 _ _ ?_
  refine xc_gen (fun g hg => ?_)
  have s0 := (hg 0).trans (en rfl (en rfl (en rfl (en rfl (en rfl (en rfl (en rfl (en rfl (en rfl s0)))))))))
  have s1 := (hg 1).trans (en rfl (en rfl (en rfl (en rfl (en rfl (en rfl (en rfl (en rfl (en rfl s1)))))))))
  have s2 := (hg 2).trans (en rfl (en rfl (en rfl (en rfl (en rfl (en rfl (en rfl (en rfl (en rfl s2)))))))))
  have s3 := (hg 3).trans (en rfl (en rfl (en rfl (en rfl (en rfl (en rfl (en rfl (en rfl (en rfl s3)))))))))
  have s4 := (hg 4).trans (en rfl (en rfl (en rfl (en rfl (en rfl (en rfl (en rfl (en rfl (en rfl s4)))))))))
  have s6 := (hg 6).trans (en rfl (en rfl (en rfl (en rfl (en rfl (en rfl (en rfl (en rfl (en rfl s6)))))))))
  have s8 := (hg 8).trans (en rfl (en rfl (en rfl (en rfl (en rfl (en rfl (en rfl (en rfl (en rfl s8)))))))))
  have s10 := (hg 10).trans (en rfl (en rfl (en rfl (en rfl (en rfl (en rfl (en rfl (en rfl (en rfl s10)))))))))
  have s12 := (hg 12).trans (en rfl (en rfl (en rfl (en rfl (en rfl (en rfl (en rfl (en rfl (en rfl s12)))))))))
  have s14 := (hg 14).trans es
  have s20 := (hg 20).trans (en rfl (en rfl (en rfl (en rfl (en rfl (en rfl (en rfl (en rfl (en rfl s20)))))))))
  clear hg
  refine xc_seq (fun K hK11 => ?_)
  refine xc_region ?_
  refine x_bslice0 h Try.underlying47 Try.sizeOf21 rfl ?_; intro bn w h
  refine x_val (r_fieldAddr (o' := 1) Try.underlying28 rfl Try.sizeOf3 rfl (en rfl s1) rfl) (nd_of rfl) rfl ?_
  refine x_val (r_load h 2 rfl Try.isAgg3 es gc1) (nd_of rfl) rfl ?_
  refine x_val (r_fieldAddr (o' := 4) Try.underlying28 rfl Try.sizeOf23 rfl (en rfl (en rfl (en rfl s1))) rfl) (nd_of rfl) rfl ?_
  refine x_val (r_load h 2 rfl Try.isAgg23 es gc4) (nd_of rfl) rfl ?_
  refine x_enter (r_call Try.call22 (.cons (en rfl (en rfl (en rfl (en rfl es)))) (.cons (en rfl (en rfl es)) (.cons es .nil)))) (nd_of rfl) rfl (refIns_all (hsp.old 3 rfl) (by omega) h) ?_
  rintro _ w ⟨a2, c2, rfl, h⟩
  refine x_val (r_move es) (nd_of rfl) rfl ?_
  refine x_val (r_extract es gc0) (nd_of rfl) rfl ?_
  refine x_val (r_extract (en rfl es) gc1) (nd_of rfl) rfl ?_
  refine x_val (r_assign (en rfl es)) (nd_of rfl) rfl ?_
  refine x_val (r_assign (en rfl es)) (nd_of rfl) rfl ?_
  refine xw_nil ?_
  refine hK11 _ _ ?_
  refine xc_gen (fun g hg => ?_)
  have s0 := (hg 0).trans (en rfl (en rfl (en rfl (en rfl (en rfl (en rfl (en rfl (en rfl (en rfl (en rfl (en rfl s0)))))))))))
  have s1 := (hg 1).trans (en rfl (en rfl (en rfl (en rfl (en rfl (en rfl (en rfl (en rfl (en rfl (en rfl (en rfl s1)))))))))))
  have s2 := (hg 2).trans (en rfl (en rfl (en rfl (en rfl (en rfl (en rfl (en rfl (en rfl (en rfl (en rfl (en rfl s2)))))))))))
  have s3 := (hg 3).trans (en rfl (en rfl (en rfl (en rfl (en rfl (en rfl (en rfl (en rfl (en rfl (en rfl (en rfl s3)))))))))))
  have s4 := (hg 4).trans (en rfl (en rfl (en rfl (en rfl (en rfl (en rfl (en rfl (en rfl (en rfl (en rfl (en rfl s4)))))))))))
  have s6 := (hg 6).trans (en rfl (en rfl (en rfl (en rfl (en rfl (en rfl (en rfl (en rfl (en rfl (en rfl (en rfl s6)))))))))))
  have s8 := (hg 8).trans (en rfl (en rfl (en rfl (en rfl (en rfl (en rfl (en rfl (en rfl (en rfl (en rfl (en rfl s8)))))))))))
  have s10 := (hg 10).trans (en rfl (en rfl (en rfl (en rfl (en rfl (en rfl (en rfl (en rfl (en rfl (en rfl (en rfl s10)))))))))))
  have s12 := (hg 12).trans (en rfl (en rfl (en rfl (en rfl (en rfl (en rfl (en rfl (en rfl (en rfl (en rfl (en rfl s12)))))))))))
  have s14 := (hg 14).trans (en rfl (en rfl (en rfl (en rfl (en rfl (en rfl (en rfl (en rfl (en rfl (en rfl (en rfl s14)))))))))))
  have s15 := (hg 15).trans (en rfl es)
  have s16 := (hg 16).trans es
  have s20 := (hg 20).trans (en rfl (en rfl (en rfl (en rfl (en rfl (en rfl (en rfl (en rfl (en rfl (en rfl (en rfl s20)))))))))))
  clear hg
  refine xc_seq (fun K hK12 => ?_)
  refine xc_region ?_
  refine x_val (r_move s6) (nd_of rfl) rfl ?_
  refine x_val (r_eql es ec (r := true) rfl) (nd_of rfl) rfl ?_
  refine x_val (r_move es) (nd_of rfl) rfl ?_
  refine x_take (d := 70) rfl rfl es ?_
  refine x_val (r_move (en rfl (en rfl (en rfl s8)))) (nd_of rfl) rfl ?_
  refine x_take (d := 70) rfl rfl (en rfl es) ?_
  refine x_val (r_eql es ec (r := true) rfl) (nd_of rfl) rfl ?_
  refine x_val (r_pick_t (en rfl (en rfl es)) es) (nd_of rfl) rfl ?_
  refine x_val (r_move es) (nd_of rfl) rfl ?_
  refine x_take (d := 74) rfl rfl es ?_
  refine x_val (r_move (en rfl (en rfl (en rfl (en rfl (en rfl (en rfl (en rfl s10)))))))) (nd_of rfl) rfl ?_
  refine x_take (d := 74) rfl rfl (en rfl es) ?_
  refine x_val (r_eql es ec (r := true) rfl) (nd_of rfl) rfl ?_
  refine x_val (r_pick_t (en rfl (en rfl es)) es) (nd_of rfl) rfl ?_
  refine x_val (r_move es) (nd_of rfl) rfl ?_
  refine x_take (d := 78) rfl rfl es ?_
  refine x_val (r_move (en rfl (en rfl (en rfl (en rfl (en rfl (en rfl (en rfl (en rfl (en rfl (en rfl (en rfl s12)))))))))))) (nd_of rfl) rfl ?_
  refine x_take (d := 78) rfl rfl (en rfl es) ?_
  refine x_val (r_eql es ec (r := true) rfl) (nd_of rfl) rfl ?_
  refine x_val (r_pick_t (en rfl (en rfl es)) es) (nd_of rfl) rfl ?_
  refine x_val (r_move es) (nd_of rfl) rfl ?_
  refine x_take (d := 82) rfl rfl es ?_
  refine x_val (r_move (en rfl (en rfl (en rfl (en rfl (en rfl (en rfl (en rfl (en rfl (en rfl (en rfl (en rfl (en rfl (en rfl (en rfl (en rfl s14)))))))))))))))) (nd_of rfl) rfl ?_
  refine x_take (d := 82) rfl rfl (en rfl es) ?_
  refine x_val (r_eql es ec (r := true) rfl) (nd_of rfl) rfl ?_
  refine x_val (r_pick_t (en rfl (en rfl es)) es) (nd_of rfl) rfl ?_
  refine x_val (r_move es) (nd_of rfl) rfl ?_
  refine x_take (d := 86) rfl rfl es ?_
  refine x_val (r_move (en rfl (en rfl (en rfl (en rfl (en rfl (en rfl (en rfl (en rfl (en rfl (en rfl (en rfl (en rfl (en rfl (en rfl (en rfl (en rfl (en rfl (en rfl (en rfl s3)))))))))))))))))))) (nd_of rfl) rfl ?_
  refine x_take (d := 86) rfl rfl (en rfl es) ?_
  refine x_val (r_fieldAddr (o' := 1) Try.underlying28 rfl Try.sizeOf3 rfl (en rfl (en rfl (en rfl (en rfl (en rfl (en rfl (en rfl (en rfl (en rfl (en rfl (en rfl (en rfl (en rfl (en rfl (en rfl (en rfl (en rfl (en rfl (en rfl (en rfl s1)))))))))))))))))))) rfl) (nd_of rfl) rfl ?_
  refine x_take (d := 86) rfl rfl (en rfl (en rfl es)) ?_
  refine x_val (r_load h 2 rfl Try.isAgg3 es gc1) (nd_of rfl) rfl ?_
  refine x_take (d := 86) rfl rfl (en rfl (en rfl (en rfl es))) ?_
  refine x_val (r_fieldAddr (o' := 4) Try.underlying28 rfl Try.sizeOf23 rfl (en rfl (en rfl (en rfl (en rfl (en rfl (en rfl (en rfl (en rfl (en rfl (en rfl (en rfl (en rfl (en rfl (en rfl (en rfl (en rfl (en rfl (en rfl (en rfl (en rfl (en rfl (en rfl s1)))))))))))))))))))))) rfl) (nd_of rfl) rfl ?_
  refine x_take (d := 86) rfl rfl (en rfl (en rfl (en rfl (en rfl es)))) ?_
  refine x_val (r_load h 2 rfl Try.isAgg23 es gc4) (nd_of rfl) rfl ?_
  refine x_take (d := 86) rfl rfl (en rfl (en rfl (en rfl (en rfl (en rfl es))))) ?_
  refine x_enter (r_call Try.call13 (.cons (en rfl (en rfl (en rfl (en rfl es)))) (.cons (en rfl (en rfl es)) (.cons es .nil)))) (nd_of rfl) rfl (insert_nil h) ?_
  rintro _ w ⟨rfl, h⟩
  refine x_take (d := 86) rfl rfl (en rfl (en rfl (en rfl (en rfl (en rfl (en rfl es)))))) ?_
  refine x_val (r_eql es ec (r := true) rfl) (nd_of rfl) rfl ?_
  refine x_val (r_pick_t (en rfl (en rfl (en rfl (en rfl (en rfl (en rfl (en rfl es))))))) es) (nd_of rfl) rfl ?_
  refine x_val (r_move es) (nd_of rfl) rfl ?_
  refine x_take (d := 95) rfl rfl es ?_
  refine x_val (r_move (en rfl (en rfl (en rfl (en rfl (en rfl (en rfl (en rfl (en rfl (en rfl (en rfl (en rfl (en rfl (en rfl (en rfl (en rfl (en rfl (en rfl (en rfl (en rfl (en rfl (en rfl (en rfl (en rfl (en rfl (en rfl (en rfl (en rfl (en rfl s3))))))))))))))))))))))))))))) (nd_of rfl) rfl ?_
  refine x_take (d := 95) rfl rfl (en rfl es) ?_
  refine x_val (r_fieldAddr (o' := 1) Try.underlying28 rfl Try.sizeOf3 rfl (en rfl (en rfl (en rfl (en rfl (en rfl (en rfl (en rfl (en rfl (en rfl (en rfl (en rfl (en rfl (en rfl (en rfl (en rfl (en rfl (en rfl (en rfl (en rfl (en rfl (en rfl (en rfl (en rfl (en rfl (en rfl (en rfl (en rfl (en rfl (en rfl s1))))))))))))))))))))))))))))) rfl) (nd_of rfl) rfl ?_
  refine x_take (d := 95) rfl rfl (en rfl (en rfl es)) ?_
  refine x_val (r_load h 2 rfl Try.isAgg3 es gc1) (nd_of rfl) rfl ?_
  refine x_take (d := 95) rfl rfl (en rfl (en rfl (en rfl es))) ?_
  refine x_val (r_fieldAddr (o' := 2) Try.underlying28 rfl Try.sizeOf3 rfl (en rfl (en rfl (en rfl (en rfl (en rfl (en rfl (en rfl (en rfl (en rfl (en rfl (en rfl (en rfl (en rfl (en rfl (en rfl (en rfl (en rfl (en rfl (en rfl (en rfl (en rfl (en rfl (en rfl (en rfl (en rfl (en rfl (en rfl (en rfl (en rfl (en rfl (en rfl s1))))))))))))))))))))))))))))))) rfl) (nd_of rfl) rfl ?_
  refine x_take (d := 95) rfl rfl (en rfl (en rfl (en rfl (en rfl es)))) ?_
  refine x_val (r_load h 2 rfl Try.isAgg3 es gc2) (nd_of rfl) rfl ?_
  refine x_take (d := 95) rfl rfl (en rfl (en rfl (en rfl (en rfl (en rfl es))))) ?_
  refine x_enter (r_call Try.call12 (.cons (en rfl (en rfl (en rfl (en rfl es)))) (.cons (en rfl (en rfl es)) (.cons es .nil)))) (nd_of rfl) rfl (deleteN h) ?_
  rintro _ w ⟨rfl, h⟩
  refine x_take (d := 95) rfl rfl (en rfl (en rfl (en rfl (en rfl (en rfl (en rfl es)))))) ?_
  refine x_val (r_eql es ec (r := true) rfl) (nd_of rfl) rfl ?_
  refine x_val (r_pick_t (en rfl (en rfl (en rfl (en rfl (en rfl (en rfl (en rfl es))))))) es) (nd_of rfl) rfl ?_
  refine x_val (r_move es) (nd_of rfl) rfl ?_
  refine x_take (d := 104) rfl rfl es ?_
  refine x_val (r_move (en rfl (en rfl (en rfl (en rfl (en rfl (en rfl (en rfl (en rfl (en rfl (en rfl (en rfl (en rfl (en rfl (en rfl (en rfl (en rfl (en rfl (en rfl (en rfl (en rfl (en rfl (en rfl (en rfl (en rfl (en rfl (en rfl (en rfl (en rfl (en rfl (en rfl (en rfl (en rfl (en rfl (en rfl (en rfl (en rfl (en rfl s3)))))))))))))))))))))))))))))))))))))) (nd_of rfl) rfl ?_
  refine x_take (d := 104) rfl rfl (en rfl es) ?_
  refine x_enter (r_call Try.call17 (.cons es (.cons (en rfl (en rfl (en rfl (en rfl (en rfl (en rfl (en rfl (en rfl (en rfl (en rfl (en rfl (en rfl (en rfl (en rfl (en rfl (en rfl (en rfl (en rfl (en rfl (en rfl (en rfl (en rfl (en rfl (en rfl (en rfl (en rfl (en rfl (en rfl (en rfl (en rfl (en rfl (en rfl (en rfl (en rfl (en rfl (en rfl (en rfl (en rfl s4)))))))))))))))))))))))))))))))))))))) .nil))) (nd_of rfl) rfl (concat_nil h) ?_
  rintro _ w ⟨rfl, h⟩
  refine x_take (d := 104) rfl rfl (en rfl (en rfl es)) ?_
  refine x_val (r_eql es ec (r := true) rfl) (nd_of rfl) rfl ?_
  refine x_val (r_pick_t (en rfl (en rfl (en rfl es))) es) (nd_of rfl) rfl ?_
  refine x_val (r_move es) (nd_of rfl) rfl ?_
  refine x_take (d := 109) rfl rfl es ?_
  refine x_val (r_move (en rfl (en rfl (en rfl (en rfl (en rfl (en rfl (en rfl (en rfl (en rfl (en rfl (en rfl (en rfl (en rfl (en rfl (en rfl (en rfl (en rfl (en rfl (en rfl (en rfl (en rfl (en rfl (en rfl (en rfl (en rfl (en rfl (en rfl (en rfl (en rfl (en rfl (en rfl (en rfl (en rfl (en rfl (en rfl (en rfl (en rfl (en rfl (en rfl (en rfl (en rfl (en rfl s3))))))))))))))))))))))))))))))))))))))))))) (nd_of rfl) rfl ?_
  refine x_take (d := 109) rfl rfl (en rfl es) ?_
  refine x_enter (r_call Try.call11 (.cons es .nil)) (nd_of rfl) rfl (len_nil h) ?_
  rintro _ w ⟨rfl, h⟩
  refine x_take (d := 109) rfl rfl (en rfl (en rfl es)) ?_
  refine x_val (r_move (en rfl (en rfl (en rfl (en rfl (en rfl (en rfl (en rfl (en rfl (en rfl (en rfl (en rfl (en rfl (en rfl (en rfl (en rfl (en rfl (en rfl (en rfl (en rfl (en rfl (en rfl (en rfl (en rfl (en rfl (en rfl (en rfl (en rfl (en rfl (en rfl (en rfl (en rfl (en rfl (en rfl (en rfl (en rfl (en rfl (en rfl (en rfl (en rfl (en rfl (en rfl (en rfl (en rfl (en rfl s3))))))))))))))))))))))))))))))))))))))))))))) (nd_of rfl) rfl ?_
  refine x_take (d := 109) rfl rfl (en rfl (en rfl (en rfl es))) ?_
  refine x_enter (r_call Try.call18 (.cons es .nil)) (nd_of rfl) rfl (newlinesN h) ?_
  rintro _ w ⟨rfl, h⟩
  refine x_take (d := 109) rfl rfl (en rfl (en rfl (en rfl (en rfl es)))) ?_
  refine x_val (r_add (en rfl (en rfl es)) es rfl (by unfold I64; omega)) (nd_of rfl) rfl ?_
  refine x_take (d := 109) rfl rfl (en rfl (en rfl (en rfl (en rfl (en rfl es))))) ?_
  refine x_val (r_move (en rfl (en rfl (en rfl (en rfl (en rfl (en rfl (en rfl (en rfl (en rfl (en rfl (en rfl (en rfl (en rfl (en rfl (en rfl (en rfl (en rfl (en rfl (en rfl (en rfl (en rfl (en rfl (en rfl (en rfl (en rfl (en rfl (en rfl (en rfl (en rfl (en rfl (en rfl (en rfl (en rfl (en rfl (en rfl (en rfl (en rfl (en rfl (en rfl (en rfl (en rfl (en rfl (en rfl (en rfl (en rfl (en rfl (en rfl s3)))))))))))))))))))))))))))))))))))))))))))))))) (nd_of rfl) rfl ?_
  refine x_take (d := 109) rfl rfl (en rfl (en rfl (en rfl (en rfl (en rfl (en rfl es)))))) ?_
  refine x_enter (r_call Try.call23 (.cons es .nil)) (nd_of rfl) rfl (heightN h) ?_
  rintro _ w ⟨rfl, h⟩
  refine x_take (d := 109) rfl rfl (en rfl (en rfl (en rfl (en rfl (en rfl (en rfl (en rfl es))))))) ?_
  refine x_val (r_add (en rfl (en rfl es)) es rfl (by unfold I64; omega)) (nd_of rfl) rfl ?_
  refine x_take (d := 109) rfl rfl (en rfl (en rfl (en rfl (en rfl (en rfl (en rfl (en rfl (en rfl es)))))))) ?_
  refine x_val (r_eql es ec (decide_eq_true (by omega))) (nd_of rfl) rfl ?_
  refine x_val (r_pick_t (en rfl (en rfl (en rfl (en rfl (en rfl (en rfl (en rfl (en rfl (en rfl es))))))))) es) (nd_of rfl) rfl ?_
  refine x_val (r_move es) (nd_of rfl) rfl ?_
  refine x_take (d := 120) rfl rfl es ?_
  refine x_val (r_move (en rfl (en rfl (en rfl (en rfl (en rfl (en rfl (en rfl (en rfl (en rfl (en rfl (en rfl (en rfl (en rfl (en rfl (en rfl (en rfl (en rfl (en rfl (en rfl (en rfl (en rfl (en rfl (en rfl (en rfl (en rfl (en rfl (en rfl (en rfl (en rfl (en rfl (en rfl (en rfl (en rfl (en rfl (en rfl (en rfl (en rfl (en rfl (en rfl (en rfl (en rfl (en rfl (en rfl (en rfl (en rfl (en rfl (en rfl (en rfl (en rfl (en rfl (en rfl (en rfl (en rfl s3)))))))))))))))))))))))))))))))))))))))))))))))))))))) (nd_of rfl) rfl ?_
  refine x_take (d := 120) rfl rfl (en rfl es) ?_
  refine x_enter (r_call Try.call24 (.cons es .nil)) (nd_of rfl) rfl (copyN h) ?_
  rintro _ w ⟨rfl, h⟩
  refine x_take (d := 120) rfl rfl (en rfl (en rfl es)) ?_
  refine x_val (r_eqnil Try.underlying24 es ec (r := true) rfl) (nd_of rfl) rfl ?_
  refine x_val (r_pick_t (en rfl (en rfl (en rfl es))) es) (nd_of rfl) rfl ?_
  refine x_val (r_move es) (nd_of rfl) rfl ?_
  refine x_take (d := 125) rfl rfl es ?_
  have h := h.f1
  refine x_enter (r_call Try.call11 (.cons (en rfl (en rfl (en rfl (en rfl (en rfl (en rfl (en rfl (en rfl (en rfl (en rfl (en rfl (en rfl (en rfl (en rfl (en rfl (en rfl (en rfl (en rfl (en rfl (en rfl (en rfl (en rfl (en rfl (en rfl (en rfl (en rfl (en rfl (en rfl (en rfl (en rfl (en rfl (en rfl (en rfl (en rfl (en rfl (en rfl (en rfl (en rfl (en rfl (en rfl (en rfl (en rfl (en rfl (en rfl (en rfl (en rfl (en rfl (en rfl (en rfl (en rfl (en rfl (en rfl (en rfl (en rfl (en rfl (en rfl (en rfl (en rfl s4)))))))))))))))))))))))))))))))))))))))))))))))))))))))))) .nil)) (nd_of rfl) rfl (lenR h) ?_
  rintro _ w ⟨rfl, h⟩
  refine x_take (d := 125) rfl rfl (en rfl es) ?_
  refine x_val (r_eql es ec (decide_eq_true (by simp))) (nd_of rfl) rfl ?_
  refine x_val (r_pick_t (en rfl (en rfl es)) es) (nd_of rfl) rfl ?_
  refine x_val (r_move es) (nd_of rfl) rfl ?_
  refine x_take (d := 129) rfl rfl es ?_
  refine x_val (r_fieldAddr (o' := 1) Try.underlying28 rfl Try.sizeOf3 rfl (en rfl (en rfl (en rfl (en rfl (en rfl (en rfl (en rfl (en rfl (en rfl (en rfl (en rfl (en rfl (en rfl (en rfl (en rfl (en rfl (en rfl (en rfl (en rfl (en rfl (en rfl (en rfl (en rfl (en rfl (en rfl (en rfl (en rfl (en rfl (en rfl (en rfl (en rfl (en rfl (en rfl (en rfl (en rfl (en rfl (en rfl (en rfl (en rfl (en rfl (en rfl (en rfl (en rfl (en rfl (en rfl (en rfl (en rfl (en rfl (en rfl (en rfl (en rfl (en rfl (en rfl (en rfl (en rfl (en rfl (en rfl (en rfl (en rfl (en rfl (en rfl (en rfl s1)))))))))))))))))))))))))))))))))))))))))))))))))))))))))))))) rfl) (nd_of rfl) rfl ?_
  refine x_take (d := 129) rfl rfl (en rfl es) ?_
  refine x_val (r_load h 2 rfl Try.isAgg3 es gc1) (nd_of rfl) rfl ?_
  refine x_take (d := 129) rfl rfl (en rfl (en rfl es)) ?_
  refine x_val (r_fieldAddr (o' := 4) Try.underlying28 rfl Try.sizeOf23 rfl (en rfl (en rfl (en rfl (en rfl (en rfl (en rfl (en rfl (en rfl (en rfl (en rfl (en rfl (en rfl (en rfl (en rfl (en rfl (en rfl (en rfl (en rfl (en rfl (en rfl (en rfl (en rfl (en rfl (en rfl (en rfl (en rfl (en rfl (en rfl (en rfl (en rfl (en rfl (en rfl (en rfl (en rfl (en rfl (en rfl (en rfl (en rfl (en rfl (en rfl (en rfl (en rfl (en rfl (en rfl (en rfl (en rfl (en rfl (en rfl (en rfl (en rfl (en rfl (en rfl (en rfl (en rfl (en rfl (en rfl (en rfl (en rfl (en rfl (en rfl (en rfl (en rfl (en rfl (en rfl s1)))))))))))))))))))))))))))))))))))))))))))))))))))))))))))))))) rfl) (nd_of rfl) rfl ?_
  refine x_take (d := 129) rfl rfl (en rfl (en rfl (en rfl es))) ?_
  refine x_val (r_load h 2 rfl Try.isAgg23 es gc4) (nd_of rfl) rfl ?_
  refine x_take (d := 129) rfl rfl (en rfl (en rfl (en rfl (en rfl es)))) ?_
  refine x_enter (r_call Try.call13 (.cons (en rfl (en rfl (en rfl (en rfl (en rfl (en rfl (en rfl (en rfl (en rfl (en rfl (en rfl (en rfl (en rfl (en rfl (en rfl (en rfl (en rfl (en rfl (en rfl (en rfl (en rfl (en rfl (en rfl (en rfl (en rfl (en rfl (en rfl (en rfl (en rfl (en rfl (en rfl (en rfl (en rfl (en rfl (en rfl (en rfl (en rfl (en rfl (en rfl (en rfl (en rfl (en rfl (en rfl (en rfl (en rfl (en rfl (en rfl (en rfl (en rfl (en rfl (en rfl (en rfl (en rfl (en rfl (en rfl (en rfl (en rfl (en rfl (en rfl (en rfl (en rfl (en rfl (en rfl (en rfl (en rfl (en rfl s4)))))))))))))))))))))))))))))))))))))))))))))))))))))))))))))))))) (.cons (en rfl (en rfl es)) (.cons es .nil)))) (nd_of rfl) rfl (insertR (B' := 1000) (hsp.old 2 rfl) (by simp; omega) (by omega) (by omega) h) ?_
  rintro _ w ⟨rfl, h⟩
  refine x_take (d := 129) rfl rfl (en rfl (en rfl (en rfl (en rfl (en rfl es))))) ?_
  refine x_val (r_move (en rfl (en rfl (en rfl (en rfl (en rfl (en rfl (en rfl (en rfl (en rfl (en rfl (en rfl (en rfl (en rfl (en rfl (en rfl (en rfl (en rfl (en rfl (en rfl (en rfl (en rfl (en rfl (en rfl (en rfl (en rfl (en rfl (en rfl (en rfl (en rfl (en rfl (en rfl (en rfl (en rfl (en rfl (en rfl (en rfl (en rfl (en rfl (en rfl (en rfl (en rfl (en rfl (en rfl (en rfl (en rfl (en rfl (en rfl (en rfl (en rfl (en rfl (en rfl (en rfl (en rfl (en rfl (en rfl (en rfl (en rfl (en rfl (en rfl (en rfl (en rfl (en rfl (en rfl (en rfl (en rfl (en rfl (en rfl s16)))))))))))))))))))))))))))))))))))))))))))))))))))))))))))))))))))) (nd_of rfl) rfl ?_
  refine x_take (d := 129) rfl rfl (en rfl (en rfl (en rfl (en rfl (en rfl (en rfl es)))))) ?_
  refine x_val (r_eql (en rfl es) es (decide_eq_true (by rfl))) (nd_of rfl) rfl ?_
  refine x_val (r_pick_t (en rfl (en rfl (en rfl (en rfl (en rfl (en rfl (en rfl es))))))) es) (nd_of rfl) rfl ?_
  refine x_val (r_move es) (nd_of rfl) rfl ?_
  refine x_take (d := 138) rfl rfl es ?_
  refine x_enter (r_call Try.call11 (.cons (en rfl (en rfl (en rfl (en rfl (en rfl (en rfl (en rfl (en rfl (en rfl (en rfl (en rfl (en rfl (en rfl (en rfl (en rfl (en rfl (en rfl (en rfl (en rfl (en rfl (en rfl (en rfl (en rfl (en rfl (en rfl (en rfl (en rfl (en rfl (en rfl (en rfl (en rfl (en rfl (en rfl (en rfl (en rfl (en rfl (en rfl (en rfl (en rfl (en rfl (en rfl (en rfl (en rfl (en rfl (en rfl (en rfl (en rfl (en rfl (en rfl (en rfl (en rfl (en rfl (en rfl (en rfl (en rfl (en rfl (en rfl (en rfl (en rfl (en rfl (en rfl (en rfl (en rfl (en rfl (en rfl (en rfl (en rfl (en rfl (en rfl (en rfl (en rfl s4))))))))))))))))))))))))))))))))))))))))))))))))))))))))))))))))))))))) .nil)) (nd_of rfl) rfl (lenR h) ?_
  rintro _ w ⟨rfl, h⟩
  refine x_take (d := 138) rfl rfl (en rfl es) ?_
  refine x_val (r_move (en rfl (en rfl (en rfl (en rfl (en rfl (en rfl (en rfl (en rfl (en rfl (en rfl (en rfl (en rfl (en rfl (en rfl (en rfl (en rfl (en rfl (en rfl (en rfl (en rfl (en rfl (en rfl (en rfl (en rfl (en rfl (en rfl (en rfl (en rfl (en rfl (en rfl (en rfl (en rfl (en rfl (en rfl (en rfl (en rfl (en rfl (en rfl (en rfl (en rfl (en rfl (en rfl (en rfl (en rfl (en rfl (en rfl (en rfl (en rfl (en rfl (en rfl (en rfl (en rfl (en rfl (en rfl (en rfl (en rfl (en rfl (en rfl (en rfl (en rfl (en rfl (en rfl (en rfl (en rfl (en rfl (en rfl (en rfl (en rfl (en rfl (en rfl (en rfl (en rfl s15))))))))))))))))))))))))))))))))))))))))))))))))))))))))))))))))))))))))) (nd_of rfl) rfl ?_
  refine x_take (d := 138) rfl rfl (en rfl (en rfl es)) ?_
  refine x_val (r_len Try.underlying47 es) (nd_of rfl) rfl ?_
  refine x_take (d := 138) rfl rfl (en rfl (en rfl (en rfl es))) ?_
  refine x_val (r_eql (en rfl (en rfl es)) es (decide_eq_true (by rfl))) (nd_of rfl) rfl ?_
  refine x_val (r_pick_t (en rfl (en rfl (en rfl (en rfl es)))) es) (nd_of rfl) rfl ?_
  refine x_val (r_move es) (nd_of rfl) rfl ?_
  refine x_take (d := 144) rfl rfl es ?_
  refine x_enter (r_call Try.call10 .nil) (nd_of rfl) rfl (known_ok h) ?_
  rintro _ w ⟨rfl, h⟩
  refine x_val (r_pick_t (en rfl es) es) (nd_of rfl) rfl ?_
  refine x_val (r_assign es) (nd_of rfl) rfl ?_
  refine xw_nil ?_
  refine hK12 _ _ ?_
  refine xc_gen (fun g hg => ?_)
  have s0 := (hg 0).trans (en rfl (en rfl (en rfl (en rfl (en rfl (en rfl (en rfl (en rfl (en rfl (en rfl (en rfl (en rfl (en rfl (en rfl (en rfl (en rfl (en rfl (en rfl (en rfl (en rfl (en rfl (en rfl (en rfl (en rfl (en rfl (en rfl (en rfl (en rfl (en rfl (en rfl (en rfl (en rfl (en rfl (en rfl (en rfl (en rfl (en rfl (en rfl (en rfl (en rfl (en rfl (en rfl (en rfl (en rfl (en rfl (en rfl (en rfl (en rfl (en rfl (en rfl (en rfl (en rfl (en rfl (en rfl (en rfl (en rfl (en rfl (en rfl (en rfl (en rfl (en rfl (en rfl (en rfl (en rfl (en rfl (en rfl (en rfl (en rfl (en rfl (en rfl (en rfl (en rfl (en rfl (en rfl (en rfl (en rfl (en rfl (en rfl (en rfl (en rfl s0))))))))))))))))))))))))))))))))))))))))))))))))))))))))))))))))))))))))))))))))
  have s1 := (hg 1).trans (en rfl (en rfl (en rfl (en rfl (en rfl (en rfl (en rfl (en rfl (en rfl (en rfl (en rfl (en rfl (en rfl (en rfl (en rfl (en rfl (en rfl (en rfl (en rfl (en rfl (en rfl (en rfl (en rfl (en rfl (en rfl (en rfl (en rfl (en rfl (en rfl (en rfl (en rfl (en rfl (en rfl (en rfl (en rfl (en rfl (en rfl (en rfl (en rfl (en rfl (en rfl (en rfl (en rfl (en rfl (en rfl (en rfl (en rfl (en rfl (en rfl (en rfl (en rfl (en rfl (en rfl (en rfl (en rfl (en rfl (en rfl (en rfl (en rfl (en rfl (en rfl (en rfl (en rfl (en rfl (en rfl (en rfl (en rfl (en rfl (en rfl (en rfl (en rfl (en rfl (en rfl (en rfl (en rfl (en rfl (en rfl (en rfl (en rfl (en rfl s1))))))))))))))))))))))))))))))))))))))))))))))))))))))))))))))))))))))))))))))))
  have s2 := (hg 2).trans es
  have s3 := (hg 3).trans (en rfl (en rfl (en rfl (en rfl (en rfl (en rfl (en rfl (en rfl (en rfl (en rfl (en rfl (en rfl (en rfl (en rfl (en rfl (en rfl (en rfl (en rfl (en rfl (en rfl (en rfl (en rfl (en rfl (en rfl (en rfl (en rfl (en rfl (en rfl (en rfl (en rfl (en rfl (en rfl (en rfl (en rfl (en rfl (en rfl (en rfl (en rfl (en rfl (en rfl (en rfl (en rfl (en rfl (en rfl (en rfl (en rfl (en rfl (en rfl (en rfl (en rfl (en rfl (en rfl (en rfl (en rfl (en rfl (en rfl (en rfl (en rfl (en rfl (en rfl (en rfl (en rfl (en rfl (en rfl (en rfl (en rfl (en rfl (en rfl (en rfl (en rfl (en rfl (en rfl (en rfl (en rfl (en rfl (en rfl (en rfl (en rfl (en rfl (en rfl s3))))))))))))))))))))))))))))))))))))))))))))))))))))))))))))))))))))))))))))))))
  have s4 := (hg 4).trans (en rfl (en rfl (en rfl (en rfl (en rfl (en rfl (en rfl (en rfl (en rfl (en rfl (en rfl (en rfl (en rfl (en rfl (en rfl (en rfl (en rfl (en rfl (en rfl (en rfl (en rfl (en rfl (en rfl (en rfl (en rfl (en rfl (en rfl (en rfl (en rfl (en rfl (en rfl (en rfl (en rfl (en rfl (en rfl (en rfl (en rfl (en rfl (en rfl (en rfl (en rfl (en rfl (en rfl (en rfl (en rfl (en rfl (en rfl (en rfl (en rfl (en rfl (en rfl (en rfl (en rfl (en rfl (en rfl (en rfl (en rfl (en rfl (en rfl (en rfl (en rfl (en rfl (en rfl (en rfl (en rfl (en rfl (en rfl (en rfl (en rfl (en rfl (en rfl (en rfl (en rfl (en rfl (en rfl (en rfl (en rfl (en rfl (en rfl (en rfl s4))))))))))))))))))))))))))))))))))))))))))))))))))))))))))))))))))))))))))))))))
  have s6 := (hg 6).trans (en rfl (en rfl (en rfl (en rfl (en rfl (en rfl (en rfl (en rfl (en rfl (en rfl (en rfl (en rfl (en rfl (en rfl (en rfl (en rfl (en rfl (en rfl (en rfl (en rfl (en rfl (en rfl (en rfl (en rfl (en rfl (en rfl (en rfl (en rfl (en rfl (en rfl (en rfl (en rfl (en rfl (en rfl (en rfl (en rfl (en rfl (en rfl (en rfl (en rfl (en rfl (en rfl (en rfl (en rfl (en rfl (en rfl (en rfl (en rfl (en rfl (en rfl (en rfl (en rfl (en rfl (en rfl (en rfl (en rfl (en rfl (en rfl (en rfl (en rfl (en rfl (en rfl (en rfl (en rfl (en rfl (en rfl (en rfl (en rfl (en rfl (en rfl (en rfl (en rfl (en rfl (en rfl (en rfl (en rfl (en rfl (en rfl (en rfl (en rfl s6))))))))))))))))))))))))))))))))))))))))))))))))))))))))))))))))))))))))))))))))
  have s8 := (hg 8).trans (en rfl (en rfl (en rfl (en rfl (en rfl (en rfl (en rfl (en rfl (en rfl (en rfl (en rfl (en rfl (en rfl (en rfl (en rfl (en rfl (en rfl (en rfl (en rfl (en rfl (en rfl (en rfl (en rfl (en rfl (en rfl (en rfl (en rfl (en rfl (en rfl (en rfl (en rfl (en rfl (en rfl (en rfl (en rfl (en rfl (en rfl (en rfl (en rfl (en rfl (en rfl (en rfl (en rfl (en rfl (en rfl (en rfl (en rfl (en rfl (en rfl (en rfl (en rfl (en rfl (en rfl (en rfl (en rfl (en rfl (en rfl (en rfl (en rfl (en rfl (en rfl (en rfl (en rfl (en rfl (en rfl (en rfl (en rfl (en rfl (en rfl (en rfl (en rfl (en rfl (en rfl (en rfl (en rfl (en rfl (en rfl (en rfl (en rfl (en rfl s8))))))))))))))))))))))))))))))))))))))))))))))))))))))))))))))))))))))))))))))))
  have s10 := (hg 10).trans (en rfl (en rfl (en rfl (en rfl (en rfl (en rfl (en rfl (en rfl (en rfl (en rfl (en rfl (en rfl (en rfl (en rfl (en rfl (en rfl (en rfl (en rfl (en rfl (en rfl (en rfl (en rfl (en rfl (en rfl (en rfl (en rfl (en rfl (en rfl (en rfl (en rfl (en rfl (en rfl (en rfl (en rfl (en rfl (en rfl (en rfl (en rfl (en rfl (en rfl (en rfl (en rfl (en rfl (en rfl (en rfl (en rfl (en rfl (en rfl (en rfl (en rfl (en rfl (en rfl (en rfl (en rfl (en rfl (en rfl (en rfl (en rfl (en rfl (en rfl (en rfl (en rfl (en rfl (en rfl (en rfl (en rfl (en rfl (en rfl (en rfl (en rfl (en rfl (en rfl (en rfl (en rfl (en rfl (en rfl (en rfl (en rfl (en rfl (en rfl s10))))))))))))))))))))))))))))))))))))))))))))))))))))))))))))))))))))))))))))))))
  have s12 := (hg 12).trans (en rfl (en rfl (en rfl (en rfl (en rfl (en rfl (en rfl (en rfl (en rfl (en rfl (en rfl (en rfl (en rfl (en rfl (en rfl (en rfl (en rfl (en rfl (en rfl (en rfl (en rfl (en rfl (en rfl (en rfl (en rfl (en rfl (en rfl (en rfl (en rfl (en rfl (en rfl (en rfl (en rfl (en rfl (en rfl (en rfl (en rfl (en rfl (en rfl (en rfl (en rfl (en rfl (en rfl (en rfl (en rfl (en rfl (en rfl (en rfl (en rfl (en rfl (en rfl (en rfl (en rfl (en rfl (en rfl (en rfl (en rfl (en rfl (en rfl (en rfl (en rfl (en rfl (en rfl (en rfl (en rfl (en rfl (en rfl (en rfl (en rfl (en rfl (en rfl (en rfl (en rfl (en rfl (en rfl (en rfl (en rfl (en rfl (en rfl (en rfl s12))))))))))))))))))))))))))))))))))))))))))))))))))))))))))))))))))))))))))))))))
  have s14 := (hg 14).trans (en rfl (en rfl (en rfl (en rfl (en rfl (en rfl (en rfl (en rfl (en rfl (en rfl (en rfl (en rfl (en rfl (en rfl (en rfl (en rfl (en rfl (en rfl (en rfl (en rfl (en rfl (en rfl (en rfl (en rfl (en rfl (en rfl (en rfl (en rfl (en rfl (en rfl (en rfl (en rfl (en rfl (en rfl (en rfl (en rfl (en rfl (en rfl (en rfl (en rfl (en rfl (en rfl (en rfl (en rfl (en rfl (en rfl (en rfl (en rfl (en rfl (en rfl (en rfl (en rfl (en rfl (en rfl (en rfl (en rfl (en rfl (en rfl (en rfl (en rfl (en rfl (en rfl (en rfl (en rfl (en rfl (en rfl (en rfl (en rfl (en rfl (en rfl (en rfl (en rfl (en rfl (en rfl (en rfl (en rfl (en rfl (en rfl (en rfl (en rfl s14))))))))))))))))))))))))))))))))))))))))))))))))))))))))))))))))))))))))))))))))
  have s15 := (hg 15).trans (en rfl (en rfl (en rfl (en rfl (en rfl (en rfl (en rfl (en rfl (en rfl (en rfl (en rfl (en rfl (en rfl (en rfl (en rfl (en rfl (en rfl (en rfl (en rfl (en rfl (en rfl (en rfl (en rfl (en rfl (en rfl (en rfl (en rfl (en rfl (en rfl (en rfl (en rfl (en rfl (en rfl (en rfl (en rfl (en rfl (en rfl (en rfl (en rfl (en rfl (en rfl (en rfl (en rfl (en rfl (en rfl (en rfl (en rfl (en rfl (en rfl (en rfl (en rfl (en rfl (en rfl (en rfl (en rfl (en rfl (en rfl (en rfl (en rfl (en rfl (en rfl (en rfl (en rfl (en rfl (en rfl (en rfl (en rfl (en rfl (en rfl (en rfl (en rfl (en rfl (en rfl (en rfl (en rfl (en rfl (en rfl (en rfl (en rfl (en rfl s15))))))))))))))))))))))))))))))))))))))))))))))))))))))))))))))))))))))))))))))))
  have s16 := (hg 16).trans (en rfl (en rfl (en rfl (en rfl (en rfl (en rfl (en rfl (en rfl (en rfl (en rfl (en rfl (en rfl (en rfl (en rfl (en rfl (en rfl (en rfl (en rfl (en rfl (en rfl (en rfl (en rfl (en rfl (en rfl (en rfl (en rfl (en rfl (en rfl (en rfl (en rfl (en rfl (en rfl (en rfl (en rfl (en rfl (en rfl (en rfl (en rfl (en rfl (en rfl (en rfl (en rfl (en rfl (en rfl (en rfl (en rfl (en rfl (en rfl (en rfl (en rfl (en rfl (en rfl (en rfl (en rfl (en rfl (en rfl (en rfl (en rfl (en rfl (en rfl (en rfl (en rfl (en rfl (en rfl (en rfl (en rfl (en rfl (en rfl (en rfl (en rfl (en rfl (en rfl (en rfl (en rfl (en rfl (en rfl (en rfl (en rfl (en rfl (en rfl s16))))))))))))))))))))))))))))))))))))))))))))))))))))))))))))))))))))))))))))))))
  have s20 := (hg 20).trans (en rfl (en rfl (en rfl (en rfl (en rfl (en rfl (en rfl (en rfl (en rfl (en rfl (en rfl (en rfl (en rfl (en rfl (en rfl (en rfl (en rfl (en rfl (en rfl (en rfl (en rfl (en rfl (en rfl (en rfl (en rfl (en rfl (en rfl (en rfl (en rfl (en rfl (en rfl (en rfl (en rfl (en rfl (en rfl (en rfl (en rfl (en rfl (en rfl (en rfl (en rfl (en rfl (en rfl (en rfl (en rfl (en rfl (en rfl (en rfl (en rfl (en rfl (en rfl (en rfl (en rfl (en rfl (en rfl (en rfl (en rfl (en rfl (en rfl (en rfl (en rfl (en rfl (en rfl (en rfl (en rfl (en rfl (en rfl (en rfl (en rfl (en rfl (en rfl (en rfl (en rfl (en rfl (en rfl (en rfl (en rfl (en rfl (en rfl (en rfl s20))))))))))))))))))))))))))))))))))))))))))))))))))))))))))))))))))))))))))))))))
  clear hg
  refine xc_ret ?_
  refine bodyR_1 rfl s2 ?_
  exact ⟨rfl, h.drop.drop.drop⟩
theorem none_all (hw : OpWf W o) (h : SatL E w (Old W :: R)) : Calls Try.prog 4 #[.agg (opC o).toArray] w (Ret fun u w' => u = .bool true ∧ SatL E w' (Old W :: R)) := by
  rcases Nat.lt_or_ge 100 o.ls.length with h1 | h1
  · exact none_long hw h1 h
  · exact none_ok hw h1 h
end
end Go.Proofs.Ytmfkhfmidnojhaa
