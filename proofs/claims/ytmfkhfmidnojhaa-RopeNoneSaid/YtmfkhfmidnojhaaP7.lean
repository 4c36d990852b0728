/-
Ropes that are not there; the reference's Code and Insert.
-/
import Derived.Test.YtmfkhfmidnojhaaR10
namespace Go.Proofs.Ytmfkhfmidnojhaa
open Go Go.RowKit
section
variable {E : Env} {R : List SProp} {w : World} {i j r : Int} {v : Value} {zs : List Int}
theorem atN (h : SatL E w R) : Calls Try.prog 21 #[.pointer none, .int .i64 i] w (Ret fun u w' => u = .tuple #[.int .i32 0, .int .i64 1] ∧ SatL E w' R) := by
  refine calls_x Try.func21 rfl Try.ntmps21 rfl ?_
  refine xc_gen (fun g hg => ?_)
  have s0 := (hg 0).trans arg0
  have s1 := (hg 1).trans arg1
  clear hg
  refine xc_seq (fun K hK1 => ?_)
  refine xc_region ?_
  refine x_val (r_assign ec) (nd_of rfl) rfl ?_
  refine x_val (r_assign ec) (nd_of rfl) rfl ?_
  refine xw_nil ?_
  refine hK1 _ _ ?_
  refine xc_gen (fun g hg => ?_)
  have s0 := (hg 0).trans (en rfl (en rfl s0))
  have s1 := (hg 1).trans (en rfl (en rfl s1))
  have s4 := (hg 4).trans (en rfl es)
  have s5 := (hg 5).trans es
  clear hg
  refine xc_seq (fun K hK2 => ?_)
  refine xc_seq (fun K hK3 => ?_)
  refine xc_region ?_
  refine x_val (r_move s0) (nd_of rfl) rfl ?_
  refine x_val (r_eqnil Try.underlying24 es ec (r := true) rfl) (nd_of rfl) rfl ?_
  refine xw_nil ?_
  refine hK3 _ _ ?_
  refine xc_gen (fun g hg => ?_)
  have s0 := (hg 0).trans (en rfl (en rfl s0))
  have s1 := (hg 1).trans (en rfl (en rfl s1))
  have s4 := (hg 4).trans (en rfl (en rfl s4))
  have s5 := (hg 5).trans (en rfl (en rfl s5))
  have s10 := (hg 10).trans es
  clear hg
  refine xc_cond s10 (fun _ => ?_) (fun hc => by cases hc)
  refine xc_seq (fun K hK4 => ?_)
  refine xc_region ?_
  refine x_val (r_assign ec) (nd_of rfl) rfl ?_
  refine x_val (r_assign ec) (nd_of rfl) rfl ?_
  refine xw_nil ?_
  refine hK4 _ _ ?_
  refine xc_gen (fun g hg => ?_)
  have s0 := (hg 0).trans (en rfl (en rfl s0))
  have s1 := (hg 1).trans (en rfl (en rfl s1))
  have s4 := (hg 4).trans (en rfl es)
  have s5 := (hg 5).trans es
  have s10 := (hg 10).trans (en rfl (en rfl s10))
  clear hg
  refine xc_ret ?_
  refine bodyR_2 rfl s4 s5 ?_
  exact ⟨rfl, h⟩
theorem sliceN (h : SatL E w R) : Calls Try.prog 14 #[.pointer none, .int .i64 i, .int .i64 j] w (Ret fun u w' => u = .tuple #[.slice none 0 0, .int .i64 1] ∧ SatL E w' R) := by
  refine calls_x Try.func14 rfl Try.ntmps14 rfl ?_
  refine xc_gen (fun g hg => ?_)
  have s0 := (hg 0).trans arg0
  have s1 := (hg 1).trans arg1
  have s2 := (hg 2).trans arg2
  clear hg
  refine xc_seq (fun K hK1 => ?_)
  refine xc_region ?_
  refine x_alloc1 h Try.zeroValue23 rfl rfl ?_
  intro b6 w h
  refine x_val (r_assign ec) (nd_of rfl) rfl ?_
  refine xw_nil ?_
  refine hK1 _ _ ?_
  refine xc_gen (fun g hg => ?_)
  have s0 := (hg 0).trans (en rfl (en rfl s0))
  have s1 := (hg 1).trans (en rfl (en rfl s1))
  have s2 := (hg 2).trans (en rfl (en rfl s2))
  have s6 := (hg 6).trans (en rfl es)
  have s7 := (hg 7).trans es
  clear hg
  refine xc_seq (fun K hK2 => ?_)
  refine xc_seq (fun K hK3 => ?_)
  refine xc_region ?_
  refine x_val (r_move s0) (nd_of rfl) rfl ?_
  refine x_val (r_move (en rfl s1)) (nd_of rfl) rfl ?_
  refine x_val (r_move (en rfl (en rfl s2))) (nd_of rfl) rfl ?_
  refine x_enter (r_call Try.call27 (.cons (en rfl (en rfl es)) (.cons (en rfl es) (.cons es .nil)))) (nd_of rfl) rfl (between_nil h) ?_
  rintro _ w ⟨rfl, h⟩
  refine x_val (r_assign es) (nd_of rfl) rfl ?_
  refine xw_nil ?_
  refine hK3 _ _ ?_
  refine xc_gen (fun g hg => ?_)
  have s0 := (hg 0).trans (en rfl (en rfl (en rfl (en rfl (en rfl s0)))))
  have s1 := (hg 1).trans (en rfl (en rfl (en rfl (en rfl (en rfl s1)))))
  have s2 := (hg 2).trans (en rfl (en rfl (en rfl (en rfl (en rfl s2)))))
  have s6 := (hg 6).trans (en rfl (en rfl (en rfl (en rfl (en rfl s6)))))
  have s7 := (hg 7).trans (en rfl (en rfl (en rfl (en rfl (en rfl s7)))))
  have s8 := (hg 8).trans es
  clear hg
  refine xc_seq (fun K hK4 => ?_)
  refine xc_region ?_
  refine x_val (r_move s8) (nd_of rfl) rfl ?_
  refine x_val (r_neq es ec (r := true) rfl) (nd_of rfl) rfl ?_
  refine xw_nil ?_
  refine hK4 _ _ ?_
  refine xc_gen (fun g hg => ?_)
  have s0 := (hg 0).trans (en rfl (en rfl s0))
  have s1 := (hg 1).trans (en rfl (en rfl s1))
  have s2 := (hg 2).trans (en rfl (en rfl s2))
  have s6 := (hg 6).trans (en rfl (en rfl s6))
  have s7 := (hg 7).trans (en rfl (en rfl s7))
  have s8 := (hg 8).trans (en rfl (en rfl s8))
  have s15 := (hg 15).trans es
  clear hg
  refine xc_cond s15 (fun _ => ?_) (fun hc => by cases hc)
  refine xc_seq (fun K hK5 => ?_)
  refine xc_region ?_
  refine x_val (r_move s8) (nd_of rfl) rfl ?_
  refine x_st (r_store h 0 rfl Try.sizeOf23 (en rfl s6) ec rfl gc0) rfl (h.u0 sc0) ?_
  intro w h
  refine x_val (r_assign es) (nd_of rfl) rfl ?_
  refine xw_nil ?_
  refine hK5 _ _ ?_
  refine xc_gen (fun g hg => ?_)
  have s0 := (hg 0).trans (en rfl (en rfl s0))
  have s1 := (hg 1).trans (en rfl (en rfl s1))
  have s2 := (hg 2).trans (en rfl (en rfl s2))
  have s6 := (hg 6).trans (en rfl (en rfl s6))
  have s7 := (hg 7).trans es
  have s8 := (hg 8).trans (en rfl (en rfl s8))
  have s15 := (hg 15).trans (en rfl (en rfl s15))
  clear hg
  refine xc_ret ?_
  refine bodyR_ct rfl s6 (lv_one h 0 rfl Try.isAgg23 gc0) s7 ?_
  exact ⟨rfl, h.drop⟩
theorem lineOfN (h : SatL E w R) : Calls Try.prog 19 #[.pointer none, .int .i64 i] w (Ret fun u w' => u = .tuple #[.int .i64 0, .int .i64 1] ∧ SatL E w' R) := by
  refine calls_x Try.func19 rfl Try.ntmps19 rfl ?_
  refine xc_gen (fun g hg => ?_)
  have s0 := (hg 0).trans arg0
  have s1 := (hg 1).trans arg1
  clear hg
  refine xc_seq (fun K hK1 => ?_)
  refine xc_region ?_
  refine x_val (r_assign ec) (nd_of rfl) rfl ?_
  refine x_val (r_assign ec) (nd_of rfl) rfl ?_
  refine xw_nil ?_
  refine hK1 _ _ ?_
  refine xc_gen (fun g hg => ?_)
  have s0 := (hg 0).trans (en rfl (en rfl s0))
  have s1 := (hg 1).trans (en rfl (en rfl s1))
  have s4 := (hg 4).trans (en rfl es)
  have s5 := (hg 5).trans es
  clear hg
  refine xc_seq (fun K hK2 => ?_)
  refine xc_seq (fun K hK3 => ?_)
  refine xc_region ?_
  refine x_val (r_move s0) (nd_of rfl) rfl ?_
  refine x_val (r_move (en rfl s1)) (nd_of rfl) rfl ?_
  refine x_val (r_move (en rfl (en rfl s1))) (nd_of rfl) rfl ?_
  refine x_enter (r_call Try.call27 (.cons (en rfl (en rfl es)) (.cons (en rfl es) (.cons es .nil)))) (nd_of rfl) rfl (between_nil h) ?_
  rintro _ w ⟨rfl, h⟩
  refine x_val (r_assign es) (nd_of rfl) rfl ?_
  refine xw_nil ?_
  refine hK3 _ _ ?_
  refine xc_gen (fun g hg => ?_)
  have s0 := (hg 0).trans (en rfl (en rfl (en rfl (en rfl (en rfl s0)))))
  have s1 := (hg 1).trans (en rfl (en rfl (en rfl (en rfl (en rfl s1)))))
  have s4 := (hg 4).trans (en rfl (en rfl (en rfl (en rfl (en rfl s4)))))
  have s5 := (hg 5).trans (en rfl (en rfl (en rfl (en rfl (en rfl s5)))))
  have s6 := (hg 6).trans es
  clear hg
  refine xc_seq (fun K hK4 => ?_)
  refine xc_region ?_
  refine x_val (r_move s6) (nd_of rfl) rfl ?_
  refine x_val (r_neq es ec (r := true) rfl) (nd_of rfl) rfl ?_
  refine xw_nil ?_
  refine hK4 _ _ ?_
  refine xc_gen (fun g hg => ?_)
  have s0 := (hg 0).trans (en rfl (en rfl s0))
  have s1 := (hg 1).trans (en rfl (en rfl s1))
  have s4 := (hg 4).trans (en rfl (en rfl s4))
  have s5 := (hg 5).trans (en rfl (en rfl s5))
  have s6 := (hg 6).trans (en rfl (en rfl s6))
  have s12 := (hg 12).trans es
  clear hg
  refine xc_cond s12 (fun _ => ?_) (fun hc => by cases hc)
  refine xc_seq (fun K hK5 => ?_)
  refine xc_region ?_
  refine x_val (r_move s6) (nd_of rfl) rfl ?_
  refine x_val (r_assign ec) (nd_of rfl) rfl ?_
  refine x_val (r_assign (en rfl es)) (nd_of rfl) rfl ?_
  refine xw_nil ?_
  refine hK5 _ _ ?_
  refine xc_gen (fun g hg => ?_)
  have s0 := (hg 0).trans (en rfl (en rfl (en rfl s0)))
  have s1 := (hg 1).trans (en rfl (en rfl (en rfl s1)))
  have s4 := (hg 4).trans (en rfl es)
  have s5 := (hg 5).trans es
  have s6 := (hg 6).trans (en rfl (en rfl (en rfl s6)))
  have s12 := (hg 12).trans (en rfl (en rfl (en rfl s12)))
  clear hg
  refine xc_ret ?_
  refine bodyR_2 rfl s4 s5 ?_
  exact ⟨rfl, h⟩
theorem offsetOfN (h : SatL E w R) : Calls Try.prog 20 #[.pointer none, .int .i64 i] w (Ret fun u w' => u = .tuple #[.int .i64 0, .int .i64 1] ∧ SatL E w' R) := by
  refine calls_x Try.func20 rfl Try.ntmps20 rfl ?_
  refine xc_gen (fun g hg => ?_)
  have s0 := (hg 0).trans arg0
  have s1 := (hg 1).trans arg1
  clear hg
  refine xc_seq (fun K hK1 => ?_)
  refine xc_region ?_
  refine x_val (r_assign ec) (nd_of rfl) rfl ?_
  refine x_val (r_assign ec) (nd_of rfl) rfl ?_
  refine xw_nil ?_
  refine hK1 _ _ ?_
  refine xc_gen (fun g hg => ?_)
  have s0 := (hg 0).trans (en rfl (en rfl s0))
  have s1 := (hg 1).trans (en rfl (en rfl s1))
  have s4 := (hg 4).trans (en rfl es)
  have s5 := (hg 5).trans es
  clear hg
  refine xc_seq (fun K hK2 => ?_)
  refine xc_block ?_
  refine xc_seq (fun K hK3 => ?_)
  refine xc_region ?_
  refine x_val (r_move s0) (nd_of rfl) rfl ?_
  refine x_val (r_eqnil Try.underlying24 es ec (r := true) rfl) (nd_of rfl) rfl ?_
  refine x_val (r_assign es) (nd_of rfl) rfl ?_
  refine xw_nil ?_
  refine hK3 _ _ ?_
  refine xc_gen (fun g hg => ?_)
  have s0 := (hg 0).trans (en rfl (en rfl (en rfl s0)))
  have s1 := (hg 1).trans (en rfl (en rfl (en rfl s1)))
  have s4 := (hg 4).trans (en rfl (en rfl (en rfl s4)))
  have s5 := (hg 5).trans (en rfl (en rfl (en rfl s5)))
  have s8 := (hg 8).trans es
  clear hg
  refine xc_cond s8 (fun _ => ?_) (fun hc => by cases hc)
  refine xc_seq (fun K hK4 => ?_)
  refine xc_region ?_
  refine x_val (r_assign ec) (nd_of rfl) rfl ?_
  refine x_val (r_assign ec) (nd_of rfl) rfl ?_
  refine xw_nil ?_
  refine hK4 _ _ ?_
  refine xc_gen (fun g hg => ?_)
  have s0 := (hg 0).trans (en rfl (en rfl s0))
  have s1 := (hg 1).trans (en rfl (en rfl s1))
  have s4 := (hg 4).trans (en rfl es)
  have s5 := (hg 5).trans es
  have s8 := (hg 8).trans (en rfl (en rfl s8))
  clear hg
  refine xc_ret ?_
  refine bodyR_2 rfl s4 s5 ?_
  exact ⟨rfl, h⟩
theorem splitN (h : SatL E w R) : Calls Try.prog 16 #[.pointer none, .int .i64 i] w (Ret fun u w' => u = .tuple #[.pointer none, .int .i64 1] ∧ SatL E w' R) := by
  refine calls_x Try.func16 rfl Try.ntmps16 rfl ?_
  refine xc_gen (fun g hg => ?_)
  have s0 := (hg 0).trans arg0
  have s1 := (hg 1).trans arg1
  clear hg
  refine xc_seq (fun K hK1 => ?_)
  refine xc_region ?_
  refine x_val (r_assign ec) (nd_of rfl) rfl ?_
  refine x_val (r_assign ec) (nd_of rfl) rfl ?_
  refine xw_nil ?_
  refine hK1 _ _ ?_
  refine xc_gen (fun g hg => ?_)
  have s0 := (hg 0).trans (en rfl (en rfl s0))
  have s1 := (hg 1).trans (en rfl (en rfl s1))
  have s4 := (hg 4).trans (en rfl es)
  have s5 := (hg 5).trans es
  clear hg
  refine xc_seq (fun K hK2 => ?_)
  refine xc_seq (fun K hK3 => ?_)
  refine xc_region ?_
  refine x_val (r_move s0) (nd_of rfl) rfl ?_
  refine x_val (r_move (en rfl s1)) (nd_of rfl) rfl ?_
  refine x_val (r_move (en rfl (en rfl s1))) (nd_of rfl) rfl ?_
  refine x_enter (r_call Try.call27 (.cons (en rfl (en rfl es)) (.cons (en rfl es) (.cons es .nil)))) (nd_of rfl) rfl (between_nil h) ?_
  rintro _ w ⟨rfl, h⟩
  refine x_val (r_assign es) (nd_of rfl) rfl ?_
  refine xw_nil ?_
  refine hK3 _ _ ?_
  refine xc_gen (fun g hg => ?_)
  have s0 := (hg 0).trans (en rfl (en rfl (en rfl (en rfl (en rfl s0)))))
  have s1 := (hg 1).trans (en rfl (en rfl (en rfl (en rfl (en rfl s1)))))
  have s4 := (hg 4).trans (en rfl (en rfl (en rfl (en rfl (en rfl s4)))))
  have s5 := (hg 5).trans (en rfl (en rfl (en rfl (en rfl (en rfl s5)))))
  have s6 := (hg 6).trans es
  clear hg
  refine xc_seq (fun K hK4 => ?_)
  refine xc_region ?_
  refine x_val (r_move s6) (nd_of rfl) rfl ?_
  refine x_val (r_neq es ec (r := true) rfl) (nd_of rfl) rfl ?_
  refine xw_nil ?_
  refine hK4 _ _ ?_
  refine xc_gen (fun g hg => ?_)
  have s0 := (hg 0).trans (en rfl (en rfl s0))
  have s1 := (hg 1).trans (en rfl (en rfl s1))
  have s4 := (hg 4).trans (en rfl (en rfl s4))
  have s5 := (hg 5).trans (en rfl (en rfl s5))
  have s6 := (hg 6).trans (en rfl (en rfl s6))
  have s13 := (hg 13).trans es
  clear hg
  refine xc_cond s13 (fun _ => ?_) (fun hc => by cases hc)
  refine xc_seq (fun K hK5 => ?_)
  refine xc_region ?_
  refine x_val (r_move s6) (nd_of rfl) rfl ?_
  refine x_val (r_assign ec) (nd_of rfl) rfl ?_
  refine x_val (r_assign (en rfl es)) (nd_of rfl) rfl ?_
  refine xw_nil ?_
  refine hK5 _ _ ?_
  refine xc_gen (fun g hg => ?_)
  have s0 := (hg 0).trans (en rfl (en rfl (en rfl s0)))
  have s1 := (hg 1).trans (en rfl (en rfl (en rfl s1)))
  have s4 := (hg 4).trans (en rfl es)
  have s5 := (hg 5).trans es
  have s6 := (hg 6).trans (en rfl (en rfl (en rfl s6)))
  have s13 := (hg 13).trans (en rfl (en rfl (en rfl s13)))
  clear hg
  refine xc_ret ?_
  refine bodyR_2 rfl s4 s5 ?_
  exact ⟨rfl, h⟩
theorem deleteN (h : SatL E w R) : Calls Try.prog 12 #[.pointer none, .int .i64 i, .int .i64 j] w (Ret fun u w' => u = .int .i64 1 ∧ SatL E w' R) := by
  refine calls_x Try.func12 rfl Try.ntmps12 rfl ?_
  refine xc_gen (fun g hg => ?_)
  have s0 := (hg 0).trans arg0
  have s1 := (hg 1).trans arg1
  have s2 := (hg 2).trans arg2
  clear hg
  refine xc_seq (fun K hK1 => ?_)
  refine xc_region ?_
  refine x_val (r_assign ec) (nd_of rfl) rfl ?_
  refine xw_nil ?_
  refine hK1 _ _ ?_
  refine xc_gen (fun g hg => ?_)
  have s0 := (hg 0).trans (en rfl s0)
  have s1 := (hg 1).trans (en rfl s1)
  have s2 := (hg 2).trans (en rfl s2)
  have s6 := (hg 6).trans es
  clear hg
  refine xc_seq (fun K hK2 => ?_)
  refine xc_seq (fun K hK3 => ?_)
  refine xc_region ?_
  refine x_val (r_move s0) (nd_of rfl) rfl ?_
  refine x_val (r_move (en rfl s1)) (nd_of rfl) rfl ?_
  refine x_val (r_move (en rfl (en rfl s2))) (nd_of rfl) rfl ?_
  refine x_enter (r_call Try.call27 (.cons (en rfl (en rfl es)) (.cons (en rfl es) (.cons es .nil)))) (nd_of rfl) rfl (between_nil h) ?_
  rintro _ w ⟨rfl, h⟩
  refine x_val (r_assign es) (nd_of rfl) rfl ?_
  refine xw_nil ?_
  refine hK3 _ _ ?_
  refine xc_gen (fun g hg => ?_)
  have s0 := (hg 0).trans (en rfl (en rfl (en rfl (en rfl (en rfl s0)))))
  have s1 := (hg 1).trans (en rfl (en rfl (en rfl (en rfl (en rfl s1)))))
  have s2 := (hg 2).trans (en rfl (en rfl (en rfl (en rfl (en rfl s2)))))
  have s6 := (hg 6).trans (en rfl (en rfl (en rfl (en rfl (en rfl s6)))))
  have s7 := (hg 7).trans es
  clear hg
  refine xc_seq (fun K hK4 => ?_)
  refine xc_region ?_
  refine x_val (r_move s7) (nd_of rfl) rfl ?_
  refine x_val (r_neq es ec (r := true) rfl) (nd_of rfl) rfl ?_
  refine xw_nil ?_
  refine hK4 _ _ ?_
  refine xc_gen (fun g hg => ?_)
  have s0 := (hg 0).trans (en rfl (en rfl s0))
  have s1 := (hg 1).trans (en rfl (en rfl s1))
  have s2 := (hg 2).trans (en rfl (en rfl s2))
  have s6 := (hg 6).trans (en rfl (en rfl s6))
  have s7 := (hg 7).trans (en rfl (en rfl s7))
  have s13 := (hg 13).trans es
  clear hg
  refine xc_cond s13 (fun _ => ?_) (fun hc => by cases hc)
  refine xc_seq (fun K hK5 => ?_)
  refine xc_region ?_
  refine x_val (r_move s7) (nd_of rfl) rfl ?_
  refine x_val (r_assign es) (nd_of rfl) rfl ?_
  refine xw_nil ?_
  refine hK5 _ _ ?_
  refine xc_gen (fun g hg => ?_)
  have s0 := (hg 0).trans (en rfl (en rfl s0))
  have s1 := (hg 1).trans (en rfl (en rfl s1))
  have s2 := (hg 2).trans (en rfl (en rfl s2))
  have s6 := (hg 6).trans es
  have s7 := (hg 7).trans (en rfl (en rfl s7))
  have s13 := (hg 13).trans (en rfl (en rfl s13))
  clear hg
  refine xc_ret ?_
  refine bodyR_1 rfl s6 ?_
  exact ⟨rfl, h⟩
theorem newlinesN (h : SatL E w R) : Calls Try.prog 18 #[.pointer none] w (Ret fun u w' => u = .int .i64 0 ∧ SatL E w' R) := by
  refine calls_x Try.func18 rfl Try.ntmps18 rfl ?_
  refine xc_gen (fun g hg => ?_)
  have s0 := (hg 0).trans arg0
  clear hg
  refine xc_seq (fun K hK1 => ?_)
  refine xc_region ?_
  refine x_val (r_assign ec) (nd_of rfl) rfl ?_
  refine xw_nil ?_
  refine hK1 _ _ ?_
  refine xc_gen (fun g hg => ?_)
  have s0 := (hg 0).trans (en rfl s0)
  have s2 := (hg 2).trans es
  clear hg
  refine xc_seq (fun K hK2 => ?_)
  refine xc_seq (fun K hK3 => ?_)
  refine xc_region ?_
  refine x_val (r_move s0) (nd_of rfl) rfl ?_
  refine x_val (r_eqnil Try.underlying24 es ec (r := true) rfl) (nd_of rfl) rfl ?_
  refine xw_nil ?_
  refine hK3 _ _ ?_
  refine xc_gen (fun g hg => ?_)
  have s0 := (hg 0).trans (en rfl (en rfl s0))
  have s2 := (hg 2).trans (en rfl (en rfl s2))
  have s4 := (hg 4).trans es
  clear hg
  refine xc_cond s4 (fun _ => ?_) (fun hc => by cases hc)
  refine xc_seq (fun K hK4 => ?_)
  refine xc_region ?_
  refine x_val (r_assign ec) (nd_of rfl) rfl ?_
  refine xw_nil ?_
  refine hK4 _ _ ?_
  refine xc_gen (fun g hg => ?_)
  have s0 := (hg 0).trans (en rfl s0)
  have s2 := (hg 2).trans es
  have s4 := (hg 4).trans (en rfl s4)
  clear hg
  refine xc_ret ?_
  refine bodyR_1 rfl s2 ?_
  exact ⟨rfl, h⟩
theorem heightN (h : SatL E w R) : Calls Try.prog 23 #[.pointer none] w (Ret fun u w' => u = .int .i64 0 ∧ SatL E w' R) := by
  refine calls_x Try.func23 rfl Try.ntmps23 rfl ?_
  refine xc_gen (fun g hg => ?_)
  have s0 := (hg 0).trans arg0
  clear hg
  refine xc_seq (fun K hK1 => ?_)
  refine xc_region ?_
  refine x_val (r_assign ec) (nd_of rfl) rfl ?_
  refine xw_nil ?_
  refine hK1 _ _ ?_
  refine xc_gen (fun g hg => ?_)
  have s0 := (hg 0).trans (en rfl s0)
  have s2 := (hg 2).trans es
  clear hg
  refine xc_seq (fun K hK2 => ?_)
  refine xc_seq (fun K hK3 => ?_)
  refine xc_region ?_
  refine x_val (r_move s0) (nd_of rfl) rfl ?_
  refine x_val (r_eqnil Try.underlying24 es ec (r := true) rfl) (nd_of rfl) rfl ?_
  refine xw_nil ?_
  refine hK3 _ _ ?_
  refine xc_gen (fun g hg => ?_)
  have s0 := (hg 0).trans (en rfl (en rfl s0))
  have s2 := (hg 2).trans (en rfl (en rfl s2))
  have s4 := (hg 4).trans es
  clear hg
  refine xc_cond s4 (fun _ => ?_) (fun hc => by cases hc)
  refine xc_seq (fun K hK4 => ?_)
  refine xc_region ?_
  refine x_val (r_assign ec) (nd_of rfl) rfl ?_
  refine xw_nil ?_
  refine hK4 _ _ ?_
  refine xc_gen (fun g hg => ?_)
  have s0 := (hg 0).trans (en rfl s0)
  have s2 := (hg 2).trans es
  have s4 := (hg 4).trans (en rfl s4)
  clear hg
  refine xc_ret ?_
  refine bodyR_1 rfl s2 ?_
  exact ⟨rfl, h⟩
theorem copyN (h : SatL E w R) : Calls Try.prog 24 #[.pointer none] w (Ret fun u w' => u = .pointer none ∧ SatL E w' R) := by
  refine calls_x Try.func24 rfl Try.ntmps24 rfl ?_
  refine xc_gen (fun g hg => ?_)
  have s0 := (hg 0).trans arg0
  clear hg
  refine xc_seq (fun K hK1 => ?_)
  refine xc_region ?_
  refine x_val (r_assign ec) (nd_of rfl) rfl ?_
  refine xw_nil ?_
  refine hK1 _ _ ?_
  refine xc_gen (fun g hg => ?_)
  have s0 := (hg 0).trans (en rfl s0)
  have s2 := (hg 2).trans es
  clear hg
  refine xc_seq (fun K hK2 => ?_)
  refine xc_seq (fun K hK3 => ?_)
  refine xc_region ?_
  refine x_val (r_move s0) (nd_of rfl) rfl ?_
  refine x_val (r_eqnil Try.underlying24 es ec (r := true) rfl) (nd_of rfl) rfl ?_
  refine xw_nil ?_
  refine hK3 _ _ ?_
  refine xc_gen (fun g hg => ?_)
  have s0 := (hg 0).trans (en rfl (en rfl s0))
  have s2 := (hg 2).trans (en rfl (en rfl s2))
  have s4 := (hg 4).trans es
  clear hg
  refine xc_cond s4 (fun _ => ?_) (fun hc => by cases hc)
  refine xc_seq (fun K hK4 => ?_)
  refine xc_region ?_
  refine x_val (r_assign ec) (nd_of rfl) rfl ?_
  refine xw_nil ?_
  refine hK4 _ _ ?_
  refine xc_gen (fun g hg => ?_)
  have s0 := (hg 0).trans (en rfl s0)
  have s2 := (hg 2).trans es
  have s4 := (hg 4).trans (en rfl s4)
  clear hg
  refine xc_ret ?_
  refine bodyR_1 rfl s2 ?_
  exact ⟨rfl, h⟩
theorem refCode_ok (h : SatL E w R) : Calls Try.prog 42 #[.int .i32 r] w (Ret fun u w' => u = .bool (decide (rune r)) ∧ SatL E w' R) := by
  by_cases h1 : r < 0
  · skip
    refine calls_x Try.func42 rfl Try.ntmps42 rfl ?_
    refine xc_gen (fun g hg => ?_)
    have s0 := (hg 0).trans arg0
    clear hg
    refine xc_seq (fun K hK1 => ?_)
    refine xc_region ?_
    refine x_val (r_assign ec) (nd_of rfl) rfl ?_
    refine xw_nil ?_
    refine hK1 _ _ ?_
    refine xc_gen (fun g hg => ?_)
    have s0 := (hg 0).trans (en rfl s0)
    have s2 := (hg 2).trans es
    clear hg
    refine xc_seq (fun K hK2 => ?_)
    refine xc_seq (fun K hK3 => ?_)
    refine xc_region ?_
    refine x_val (r_move s0) (nd_of rfl) rfl ?_
    refine x_val (r_lss es ec (decide_eq_true (by omega))) (nd_of rfl) rfl ?_
    refine x_val (r_move es) (nd_of rfl) rfl ?_
    refine x_pass (d := 5) rfl rfl es rfl ?_
    refine x_pass (d := 5) rfl rfl (en rfl es) rfl ?_
    refine x_val (r_pick_t (en rfl (en rfl es)) ec) (nd_of rfl) rfl ?_
    refine xw_nil ?_
    refine hK3 _ _ ?_
    refine xc_gen (fun g hg => ?_)
    have s0 := (hg 0).trans (en rfl (en rfl (en rfl (en rfl (en rfl (en rfl s0))))))
    have s2 := (hg 2).trans (en rfl (en rfl (en rfl (en rfl (en rfl (en rfl s2))))))
    have s8 := (hg 8).trans es
    clear hg
    refine xc_cond s8 (fun _ => ?_) (fun hc => by cases hc)
    refine xc_seq (fun K hK4 => ?_)
    refine xc_region ?_
    refine x_val (r_assign ec) (nd_of rfl) rfl ?_
    refine xw_nil ?_
    refine hK4 _ _ ?_
    refine xc_gen (fun g hg => ?_)
    have s0 := (hg 0).trans (en rfl s0)
    have s2 := (hg 2).trans es
    have s8 := (hg 8).trans (en rfl s8)
    clear hg
    refine xc_ret ?_
    refine bodyR_1 rfl s2 ?_
    exact ⟨by rw [decide_eq_false (show ¬ rune r from fun h => by have := h.1; omega)], h⟩
  · by_cases h2 : 1114111 < r
    · skip
      refine calls_x Try.func42 rfl Try.ntmps42 rfl ?_
      refine xc_gen (fun g hg => ?_)
      have s0 := (hg 0).trans arg0
      clear hg
      refine xc_seq (fun K hK1 => ?_)
      refine xc_region ?_
      refine x_val (r_assign ec) (nd_of rfl) rfl ?_
      refine xw_nil ?_
      refine hK1 _ _ ?_
      refine xc_gen (fun g hg => ?_)
      have s0 := (hg 0).trans (en rfl s0)
      have s2 := (hg 2).trans es
      clear hg
      refine xc_seq (fun K hK2 => ?_)
      refine xc_seq (fun K hK3 => ?_)
      refine xc_region ?_
      refine x_val (r_move s0) (nd_of rfl) rfl ?_
      refine x_val (r_lss es ec (decide_eq_false (by omega))) (nd_of rfl) rfl ?_
      refine x_val (r_move es) (nd_of rfl) rfl ?_
      refine x_take (d := 5) rfl rfl es ?_
      refine x_val (r_move (en rfl (en rfl (en rfl s0)))) (nd_of rfl) rfl ?_
      refine x_take (d := 5) rfl rfl (en rfl es) ?_
      refine x_val (r_gtr es ec (decide_eq_true (by omega))) (nd_of rfl) rfl ?_
      refine x_val (r_pick_f (en rfl (en rfl es)) es) (nd_of rfl) rfl ?_
      refine xw_nil ?_
      refine hK3 _ _ ?_
      refine xc_gen (fun g hg => ?_)
      have s0 := (hg 0).trans (en rfl (en rfl (en rfl (en rfl (en rfl (en rfl s0))))))
      have s2 := (hg 2).trans (en rfl (en rfl (en rfl (en rfl (en rfl (en rfl s2))))))
      have s8 := (hg 8).trans es
      clear hg
      refine xc_cond s8 (fun _ => ?_) (fun hc => by cases hc)
      refine xc_seq (fun K hK4 => ?_)
      refine xc_region ?_
      refine x_val (r_assign ec) (nd_of rfl) rfl ?_
      refine xw_nil ?_
      refine hK4 _ _ ?_
      refine xc_gen (fun g hg => ?_)
      have s0 := (hg 0).trans (en rfl s0)
      have s2 := (hg 2).trans es
      have s8 := (hg 8).trans (en rfl s8)
      clear hg
      refine xc_ret ?_
      refine bodyR_1 rfl s2 ?_
      exact ⟨by rw [decide_eq_false (show ¬ rune r from fun h => by have := h.2.1; omega)], h⟩
    · by_cases h3 : r < 55296
      · skip
        refine calls_x Try.func42 rfl Try.ntmps42 rfl ?_
        refine xc_gen (fun g hg => ?_)
        have s0 := (hg 0).trans arg0
        clear hg
        refine xc_seq (fun K hK1 => ?_)
        refine xc_region ?_
        refine x_val (r_assign ec) (nd_of rfl) rfl ?_
        refine xw_nil ?_
        refine hK1 _ _ ?_
        refine xc_gen (fun g hg => ?_)
        have s0 := (hg 0).trans (en rfl s0)
        have s2 := (hg 2).trans es
        clear hg
        refine xc_seq (fun K hK2 => ?_)
        refine xc_seq (fun K hK3 => ?_)
        refine xc_region ?_
        refine x_val (r_move s0) (nd_of rfl) rfl ?_
        refine x_val (r_lss es ec (decide_eq_false (by omega))) (nd_of rfl) rfl ?_
        refine x_val (r_move es) (nd_of rfl) rfl ?_
        refine x_take (d := 5) rfl rfl es ?_
        refine x_val (r_move (en rfl (en rfl (en rfl s0)))) (nd_of rfl) rfl ?_
        refine x_take (d := 5) rfl rfl (en rfl es) ?_
        refine x_val (r_gtr es ec (decide_eq_false (by omega))) (nd_of rfl) rfl ?_
        refine x_val (r_pick_f (en rfl (en rfl es)) es) (nd_of rfl) rfl ?_
        refine xw_nil ?_
        refine hK3 _ _ ?_
        refine xc_gen (fun g hg => ?_)
        have s0 := (hg 0).trans (en rfl (en rfl (en rfl (en rfl (en rfl (en rfl s0))))))
        have s2 := (hg 2).trans (en rfl (en rfl (en rfl (en rfl (en rfl (en rfl s2))))))
        have s8 := (hg 8).trans es
        clear hg
        refine xc_cond s8 (fun hc => by cases hc) (fun _ => ?_)
        refine xc_skip ?_
        refine hK2 _ _ ?_
        refine xc_seq (fun K hK4 => ?_)
        refine xc_region ?_
        refine x_val (r_move s0) (nd_of rfl) rfl ?_
        refine x_val (r_lss es ec (decide_eq_true (by omega))) (nd_of rfl) rfl ?_
        refine x_val (r_move es) (nd_of rfl) rfl ?_
        refine x_pass (d := 11) rfl rfl es rfl ?_
        refine x_pass (d := 11) rfl rfl (en rfl es) rfl ?_
        refine x_val (r_pick_t (en rfl (en rfl es)) ec) (nd_of rfl) rfl ?_
        refine x_val (r_assign es) (nd_of rfl) rfl ?_
        refine xw_nil ?_
        refine hK4 _ _ ?_
        refine xc_gen (fun g hg => ?_)
        have s0 := (hg 0).trans (en rfl (en rfl (en rfl (en rfl (en rfl (en rfl (en rfl s0)))))))
        have s2 := (hg 2).trans es
        have s8 := (hg 8).trans (en rfl (en rfl (en rfl (en rfl (en rfl (en rfl (en rfl s8)))))))
        clear hg
        refine xc_ret ?_
        refine bodyR_1 rfl s2 ?_
        exact ⟨by rw [decide_eq_true (show rune r from ⟨by omega, by omega, .inl h3⟩)], h⟩
      · by_cases h4 : 57343 < r
        · skip
          refine calls_x Try.func42 rfl Try.ntmps42 rfl ?_
          refine xc_gen (fun g hg => ?_)
          have s0 := (hg 0).trans arg0
          clear hg
          refine xc_seq (fun K hK1 => ?_)
          refine xc_region ?_
          refine x_val (r_assign ec) (nd_of rfl) rfl ?_
          refine xw_nil ?_
          refine hK1 _ _ ?_
          refine xc_gen (fun g hg => ?_)
          have s0 := (hg 0).trans (en rfl s0)
          have s2 := (hg 2).trans es
          clear hg
          refine xc_seq (fun K hK2 => ?_)
          refine xc_seq (fun K hK3 => ?_)
          refine xc_region ?_
          refine x_val (r_move s0) (nd_of rfl) rfl ?_
          refine x_val (r_lss es ec (decide_eq_false (by omega))) (nd_of rfl) rfl ?_
          refine x_val (r_move es) (nd_of rfl) rfl ?_
          refine x_take (d := 5) rfl rfl es ?_
          refine x_val (r_move (en rfl (en rfl (en rfl s0)))) (nd_of rfl) rfl ?_
          refine x_take (d := 5) rfl rfl (en rfl es) ?_
          refine x_val (r_gtr es ec (decide_eq_false (by omega))) (nd_of rfl) rfl ?_
          refine x_val (r_pick_f (en rfl (en rfl es)) es) (nd_of rfl) rfl ?_
          refine xw_nil ?_
          refine hK3 _ _ ?_
          refine xc_gen (fun g hg => ?_)
          have s0 := (hg 0).trans (en rfl (en rfl (en rfl (en rfl (en rfl (en rfl s0))))))
          have s2 := (hg 2).trans (en rfl (en rfl (en rfl (en rfl (en rfl (en rfl s2))))))
          have s8 := (hg 8).trans es
          clear hg
          refine xc_cond s8 (fun hc => by cases hc) (fun _ => ?_)
          refine xc_skip ?_
          refine hK2 _ _ ?_
          refine xc_seq (fun K hK4 => ?_)
          refine xc_region ?_
          refine x_val (r_move s0) (nd_of rfl) rfl ?_
          refine x_val (r_lss es ec (decide_eq_false (by omega))) (nd_of rfl) rfl ?_
          refine x_val (r_move es) (nd_of rfl) rfl ?_
          refine x_take (d := 11) rfl rfl es ?_
          refine x_val (r_move (en rfl (en rfl (en rfl s0)))) (nd_of rfl) rfl ?_
          refine x_take (d := 11) rfl rfl (en rfl es) ?_
          refine x_val (r_gtr es ec (decide_eq_true (by omega))) (nd_of rfl) rfl ?_
          refine x_val (r_pick_f (en rfl (en rfl es)) es) (nd_of rfl) rfl ?_
          refine x_val (r_assign es) (nd_of rfl) rfl ?_
          refine xw_nil ?_
          refine hK4 _ _ ?_
          refine xc_gen (fun g hg => ?_)
          have s0 := (hg 0).trans (en rfl (en rfl (en rfl (en rfl (en rfl (en rfl (en rfl s0)))))))
          have s2 := (hg 2).trans es
          have s8 := (hg 8).trans (en rfl (en rfl (en rfl (en rfl (en rfl (en rfl (en rfl s8)))))))
          clear hg
          refine xc_ret ?_
          refine bodyR_1 rfl s2 ?_
          exact ⟨by rw [decide_eq_true (show rune r from ⟨by omega, by omega, .inr h4⟩)], h⟩
        · skip
          refine calls_x Try.func42 rfl Try.ntmps42 rfl ?_
          refine xc_gen (fun g hg => ?_)
          have s0 := (hg 0).trans arg0
          clear hg
          refine xc_seq (fun K hK1 => ?_)
          refine xc_region ?_
          refine x_val (r_assign ec) (nd_of rfl) rfl ?_
          refine xw_nil ?_
          refine hK1 _ _ ?_
          refine xc_gen (fun g hg => ?_)
          have s0 := (hg 0).trans (en rfl s0)
          have s2 := (hg 2).trans es
          clear hg
          refine xc_seq (fun K hK2 => ?_)
          refine xc_seq (fun K hK3 => ?_)
          refine xc_region ?_
          refine x_val (r_move s0) (nd_of rfl) rfl ?_
          refine x_val (r_lss es ec (decide_eq_false (by omega))) (nd_of rfl) rfl ?_
          refine x_val (r_move es) (nd_of rfl) rfl ?_
          refine x_take (d := 5) rfl rfl es ?_
          refine x_val (r_move (en rfl (en rfl (en rfl s0)))) (nd_of rfl) rfl ?_
          refine x_take (d := 5) rfl rfl (en rfl es) ?_
          refine x_val (r_gtr es ec (decide_eq_false (by omega))) (nd_of rfl) rfl ?_
          refine x_val (r_pick_f (en rfl (en rfl es)) es) (nd_of rfl) rfl ?_
          refine xw_nil ?_
          refine hK3 _ _ ?_
          refine xc_gen (fun g hg => ?_)
          have s0 := (hg 0).trans (en rfl (en rfl (en rfl (en rfl (en rfl (en rfl s0))))))
          have s2 := (hg 2).trans (en rfl (en rfl (en rfl (en rfl (en rfl (en rfl s2))))))
          have s8 := (hg 8).trans es
          clear hg
          refine xc_cond s8 (fun hc => by cases hc) (fun _ => ?_)
          refine xc_skip ?_
          refine hK2 _ _ ?_
          refine xc_seq (fun K hK4 => ?_)
          refine xc_region ?_
          refine x_val (r_move s0) (nd_of rfl) rfl ?_
          refine x_val (r_lss es ec (decide_eq_false (by omega))) (nd_of rfl) rfl ?_
          refine x_val (r_move es) (nd_of rfl) rfl ?_
          refine x_take (d := 11) rfl rfl es ?_
          refine x_val (r_move (en rfl (en rfl (en rfl s0)))) (nd_of rfl) rfl ?_
          refine x_take (d := 11) rfl rfl (en rfl es) ?_
          refine x_val (r_gtr es ec (decide_eq_false (by omega))) (nd_of rfl) rfl ?_
          refine x_val (r_pick_f (en rfl (en rfl es)) es) (nd_of rfl) rfl ?_
          refine x_val (r_assign es) (nd_of rfl) rfl ?_
          refine xw_nil ?_
          refine hK4 _ _ ?_
          refine xc_gen (fun g hg => ?_)
          have s0 := (hg 0).trans (en rfl (en rfl (en rfl (en rfl (en rfl (en rfl (en rfl s0)))))))
          have s2 := (hg 2).trans es
          have s8 := (hg 8).trans (en rfl (en rfl (en rfl (en rfl (en rfl (en rfl (en rfl s8)))))))
          clear hg
          refine xc_ret ?_
          refine bodyR_1 rfl s2 ?_
          exact ⟨by rw [decide_eq_false (show ¬ rune r from fun h => by have := h.2.2; omega)], h⟩

end
end Go.Proofs.Ytmfkhfmidnojhaa
