/-
ParaNone: the walk.
-/
import Derived.Test.YtonnijghdlakfaaV1
namespace Go.Proofs.Ytonnijghdlakfaa
open Go Go.RowKit
section
variable {E : Env} {R : List SProp} {w : World} {W : World} {v : Value} {i j : Int} {o : OpV}
theorem atN (h : SatL E w R) : Calls Try.prog 15 #[.pointer none, .int .i64 i] w (Ret fun u w' => u = .tuple #[.slice none 0 0, .int .i64 1] ∧ SatL E w' R) := by
  refine calls_x Try.func15 rfl Try.ntmps15 rfl ?_
  refine xc_gen (fun g hg => ?_)
  have s0 := (hg 0).trans arg0
  have s1 := (hg 1).trans arg1
  clear hg
  refine xc_seq (fun K hK1 => ?_)
  refine xc_region ?_
  refine x_val (r_assign ec) (nd_of rfl) rfl ?_
  refine x_val (r_assign ec) (nd_of rfl) rfl ?_
  refine xw_nil ?_
  refine hK1 _ _ ?_
  refine xc_gen (fun g hg => ?_)
  have s0 := (hg 0).trans (en rfl (en rfl s0))
  have s1 := (hg 1).trans (en rfl (en rfl s1))
  have s4 := (hg 4).trans (en rfl es)
  have s5 := (hg 5).trans es
  clear hg
  refine xc_seq (fun K hK2 => ?_)
  refine xc_seq (fun K hK3 => ?_)
  refine xc_region ?_
  refine x_val (r_move s0) (nd_of rfl) rfl ?_
  refine x_val (r_eqnil Try.underlying27 es ec (r := true) rfl) (nd_of rfl) rfl ?_
  refine xw_nil ?_
  refine hK3 _ _ ?_
  refine xc_gen (fun g hg => ?_)
  have s0 := (hg 0).trans (en rfl (en rfl s0))
  have s1 := (hg 1).trans (en rfl (en rfl s1))
  have s4 := (hg 4).trans (en rfl (en rfl s4))
  have s5 := (hg 5).trans (en rfl (en rfl s5))
  have s10 := (hg 10).trans es
  clear hg
  refine xc_cond s10 (fun _ => ?_) (fun hc => by cases hc)
  refine xc_seq (fun K hK4 => ?_)
  refine xc_region ?_
  refine x_val (r_assign ec) (nd_of rfl) rfl ?_
  refine x_val (r_assign ec) (nd_of rfl) rfl ?_
  refine xw_nil ?_
  refine hK4 _ _ ?_
  refine xc_gen (fun g hg => ?_)
  have s0 := (hg 0).trans (en rfl (en rfl s0))
  have s1 := (hg 1).trans (en rfl (en rfl s1))
  have s4 := (hg 4).trans (en rfl es)
  have s5 := (hg 5).trans es
  have s10 := (hg 10).trans (en rfl (en rfl s10))
  clear hg
  refine xc_ret ?_
  refine bodyR_2 rfl s4 s5 ?_
  exact ⟨rfl, h⟩
theorem overN (h : SatL E w R) : Calls Try.prog 13 #[.pointer none, .int .i64 i, .int .i64 j] w (Ret fun u w' => u = .tuple #[.slice none 0 0, .int .i64 1] ∧ SatL E w' R) := by
  refine calls_x Try.func13 rfl Try.ntmps13 rfl ?_
  refine xc_gen (fun g hg => ?_)
  have s0 := (hg 0).trans arg0
  have s1 := (hg 1).trans arg1
  have s2 := (hg 2).trans arg2
  clear hg
  refine xc_seq (fun K hK1 => ?_)
  refine xc_region ?_
  refine x_val (r_assign ec) (nd_of rfl) rfl ?_
  refine x_val (r_assign ec) (nd_of rfl) rfl ?_
  refine xw_nil ?_
  refine hK1 _ _ ?_
  refine xc_gen (fun g hg => ?_)
  have s0 := (hg 0).trans (en rfl (en rfl s0))
  have s1 := (hg 1).trans (en rfl (en rfl s1))
  have s2 := (hg 2).trans (en rfl (en rfl s2))
  have s6 := (hg 6).trans (en rfl es)
  have s7 := (hg 7).trans es
  clear hg
  refine xc_seq (fun K hK2 => ?_)
  refine xc_seq (fun K hK3 => ?_)
  refine xc_region ?_
  refine x_val (r_move s0) (nd_of rfl) rfl ?_
  refine x_val (r_move (en rfl s1)) (nd_of rfl) rfl ?_
  refine x_val (r_move (en rfl (en rfl s2))) (nd_of rfl) rfl ?_
  refine x_enter (r_call Try.call24 (.cons (en rfl (en rfl es)) (.cons (en rfl es) (.cons es .nil)))) (nd_of rfl) rfl (between_nil h) ?_
  rintro _ w ⟨rfl, h⟩
  refine x_val (r_assign es) (nd_of rfl) rfl ?_
  refine xw_nil ?_
  refine hK3 _ _ ?_
  refine xc_gen (fun g hg => ?_)
  have s0 := (hg 0).trans (en rfl (en rfl (en rfl (en rfl (en rfl s0)))))
  have s1 := (hg 1).trans (en rfl (en rfl (en rfl (en rfl (en rfl s1)))))
  have s2 := (hg 2).trans (en rfl (en rfl (en rfl (en rfl (en rfl s2)))))
  have s6 := (hg 6).trans (en rfl (en rfl (en rfl (en rfl (en rfl s6)))))
  have s7 := (hg 7).trans (en rfl (en rfl (en rfl (en rfl (en rfl s7)))))
  have s8 := (hg 8).trans es
  clear hg
  refine xc_seq (fun K hK4 => ?_)
  refine xc_region ?_
  refine x_val (r_move s8) (nd_of rfl) rfl ?_
  refine x_val (r_neq es ec (r := true) rfl) (nd_of rfl) rfl ?_
  refine xw_nil ?_
  refine hK4 _ _ ?_
  refine xc_gen (fun g hg => ?_)
  have s0 := (hg 0).trans (en rfl (en rfl s0))
  have s1 := (hg 1).trans (en rfl (en rfl s1))
  have s2 := (hg 2).trans (en rfl (en rfl s2))
  have s6 := (hg 6).trans (en rfl (en rfl s6))
  have s7 := (hg 7).trans (en rfl (en rfl s7))
  have s8 := (hg 8).trans (en rfl (en rfl s8))
  have s14 := (hg 14).trans es
  clear hg
  refine xc_cond s14 (fun _ => ?_) (fun hc => by cases hc)
  refine xc_seq (fun K hK5 => ?_)
  refine xc_region ?_
  refine x_val (r_move s8) (nd_of rfl) rfl ?_
  refine x_val (r_assign ec) (nd_of rfl) rfl ?_
  refine x_val (r_assign (en rfl es)) (nd_of rfl) rfl ?_
  refine xw_nil ?_
  refine hK5 _ _ ?_
  refine xc_gen (fun g hg => ?_)
  have s0 := (hg 0).trans (en rfl (en rfl (en rfl s0)))
  have s1 := (hg 1).trans (en rfl (en rfl (en rfl s1)))
  have s2 := (hg 2).trans (en rfl (en rfl (en rfl s2)))
  have s6 := (hg 6).trans (en rfl es)
  have s7 := (hg 7).trans es
  have s8 := (hg 8).trans (en rfl (en rfl (en rfl s8)))
  have s14 := (hg 14).trans (en rfl (en rfl (en rfl s14)))
  clear hg
  refine xc_ret ?_
  refine bodyR_2 rfl s6 s7 ?_
  exact ⟨rfl, h⟩
theorem insertN (h : SatL E w R) : Calls Try.prog 10 #[.pointer none, .int .i64 i, v] w (Ret fun u w' => u = .int .i64 1 ∧ SatL E w' R) := by
  refine calls_x Try.func10 rfl Try.ntmps10 rfl ?_
  refine xc_gen (fun g hg => ?_)
  have s0 := (hg 0).trans arg0
  have s1 := (hg 1).trans arg1
  have s2 := (hg 2).trans arg2
  clear hg
  refine xc_seq (fun K hK1 => ?_)
  refine xc_region ?_
  refine x_val (r_assign ec) (nd_of rfl) rfl ?_
  refine xw_nil ?_
  refine hK1 _ _ ?_
  refine xc_gen (fun g hg => ?_)
  have s0 := (hg 0).trans (en rfl s0)
  have s1 := (hg 1).trans (en rfl s1)
  have s2 := (hg 2).trans (en rfl s2)
  have s6 := (hg 6).trans es
  clear hg
  refine xc_seq (fun K hK2 => ?_)
  refine xc_seq (fun K hK3 => ?_)
  refine xc_region ?_
  refine x_val (r_move s0) (nd_of rfl) rfl ?_
  refine x_val (r_move (en rfl s1)) (nd_of rfl) rfl ?_
  refine x_val (r_move (en rfl (en rfl s1))) (nd_of rfl) rfl ?_
  refine x_enter (r_call Try.call24 (.cons (en rfl (en rfl es)) (.cons (en rfl es) (.cons es .nil)))) (nd_of rfl) rfl (between_nil h) ?_
  rintro _ w ⟨rfl, h⟩
  refine x_val (r_assign es) (nd_of rfl) rfl ?_
  refine xw_nil ?_
  refine hK3 _ _ ?_
  refine xc_gen (fun g hg => ?_)
  have s0 := (hg 0).trans (en rfl (en rfl (en rfl (en rfl (en rfl s0)))))
  have s1 := (hg 1).trans (en rfl (en rfl (en rfl (en rfl (en rfl s1)))))
  have s2 := (hg 2).trans (en rfl (en rfl (en rfl (en rfl (en rfl s2)))))
  have s6 := (hg 6).trans (en rfl (en rfl (en rfl (en rfl (en rfl s6)))))
  have s7 := (hg 7).trans es
  clear hg
  refine xc_seq (fun K hK4 => ?_)
  refine xc_region ?_
  refine x_val (r_move s7) (nd_of rfl) rfl ?_
  refine x_val (r_neq es ec (r := true) rfl) (nd_of rfl) rfl ?_
  refine xw_nil ?_
  refine hK4 _ _ ?_
  refine xc_gen (fun g hg => ?_)
  have s0 := (hg 0).trans (en rfl (en rfl s0))
  have s1 := (hg 1).trans (en rfl (en rfl s1))
  have s2 := (hg 2).trans (en rfl (en rfl s2))
  have s6 := (hg 6).trans (en rfl (en rfl s6))
  have s7 := (hg 7).trans (en rfl (en rfl s7))
  have s13 := (hg 13).trans es
  clear hg
  refine xc_cond s13 (fun _ => ?_) (fun hc => by cases hc)
  refine xc_seq (fun K hK5 => ?_)
  refine xc_region ?_
  refine x_val (r_move s7) (nd_of rfl) rfl ?_
  refine x_val (r_assign es) (nd_of rfl) rfl ?_
  refine xw_nil ?_
  refine hK5 _ _ ?_
  refine xc_gen (fun g hg => ?_)
  have s0 := (hg 0).trans (en rfl (en rfl s0))
  have s1 := (hg 1).trans (en rfl (en rfl s1))
  have s2 := (hg 2).trans (en rfl (en rfl s2))
  have s6 := (hg 6).trans es
  have s7 := (hg 7).trans (en rfl (en rfl s7))
  have s13 := (hg 13).trans (en rfl (en rfl s13))
  clear hg
  refine xc_ret ?_
  refine bodyR_1 rfl s6 ?_
  exact ⟨rfl, h⟩
theorem deleteN (h : SatL E w R) : Calls Try.prog 11 #[.pointer none, .int .i64 i, .int .i64 j] w (Ret fun u w' => u = .int .i64 1 ∧ SatL E w' R) := by
  refine calls_x Try.func11 rfl Try.ntmps11 rfl ?_
  refine xc_gen (fun g hg => ?_)
  have s0 := (hg 0).trans arg0
  have s1 := (hg 1).trans arg1
  have s2 := (hg 2).trans arg2
  clear hg
  refine xc_seq (fun K hK1 => ?_)
  refine xc_region ?_
  refine x_val (r_assign ec) (nd_of rfl) rfl ?_
  refine xw_nil ?_
  refine hK1 _ _ ?_
  refine xc_gen (fun g hg => ?_)
  have s0 := (hg 0).trans (en rfl s0)
  have s1 := (hg 1).trans (en rfl s1)
  have s2 := (hg 2).trans (en rfl s2)
  have s6 := (hg 6).trans es
  clear hg
  refine xc_seq (fun K hK2 => ?_)
  refine xc_seq (fun K hK3 => ?_)
  refine xc_region ?_
  refine x_val (r_move s0) (nd_of rfl) rfl ?_
  refine x_val (r_move (en rfl s1)) (nd_of rfl) rfl ?_
  refine x_val (r_move (en rfl (en rfl s2))) (nd_of rfl) rfl ?_
  refine x_enter (r_call Try.call24 (.cons (en rfl (en rfl es)) (.cons (en rfl es) (.cons es .nil)))) (nd_of rfl) rfl (between_nil h) ?_
  rintro _ w ⟨rfl, h⟩
  refine x_val (r_assign es) (nd_of rfl) rfl ?_
  refine xw_nil ?_
  refine hK3 _ _ ?_
  refine xc_gen (fun g hg => ?_)
  have s0 := (hg 0).trans (en rfl (en rfl (en rfl (en rfl (en rfl s0)))))
  have s1 := (hg 1).trans (en rfl (en rfl (en rfl (en rfl (en rfl s1)))))
  have s2 := (hg 2).trans (en rfl (en rfl (en rfl (en rfl (en rfl s2)))))
  have s6 := (hg 6).trans (en rfl (en rfl (en rfl (en rfl (en rfl s6)))))
  have s7 := (hg 7).trans es
  clear hg
  refine xc_seq (fun K hK4 => ?_)
  refine xc_region ?_
  refine x_val (r_move s7) (nd_of rfl) rfl ?_
  refine x_val (r_neq es ec (r := true) rfl) (nd_of rfl) rfl ?_
  refine xw_nil ?_
  refine hK4 _ _ ?_
  refine xc_gen (fun g hg => ?_)
  have s0 := (hg 0).trans (en rfl (en rfl s0))
  have s1 := (hg 1).trans (en rfl (en rfl s1))
  have s2 := (hg 2).trans (en rfl (en rfl s2))
  have s6 := (hg 6).trans (en rfl (en rfl s6))
  have s7 := (hg 7).trans (en rfl (en rfl s7))
  have s13 := (hg 13).trans es
  clear hg
  refine xc_cond s13 (fun _ => ?_) (fun hc => by cases hc)
  refine xc_seq (fun K hK5 => ?_)
  refine xc_region ?_
  refine x_val (r_move s7) (nd_of rfl) rfl ?_
  refine x_val (r_assign es) (nd_of rfl) rfl ?_
  refine xw_nil ?_
  refine hK5 _ _ ?_
  refine xc_gen (fun g hg => ?_)
  have s0 := (hg 0).trans (en rfl (en rfl s0))
  have s1 := (hg 1).trans (en rfl (en rfl s1))
  have s2 := (hg 2).trans (en rfl (en rfl s2))
  have s6 := (hg 6).trans es
  have s7 := (hg 7).trans (en rfl (en rfl s7))
  have s13 := (hg 13).trans (en rfl (en rfl s13))
  clear hg
  refine xc_ret ?_
  refine bodyR_1 rfl s6 ?_
  exact ⟨rfl, h⟩
theorem patchN (h : SatL E w R) : Calls Try.prog 12 #[.pointer none, .int .i64 i, .int .i64 j, v] w (Ret fun u w' => u = .int .i64 1 ∧ SatL E w' R) := by
  refine calls_x Try.func12 rfl Try.ntmps12 rfl ?_
  refine xc_gen (fun g hg => ?_)
  have s0 := (hg 0).trans arg0
  have s1 := (hg 1).trans arg1
  have s2 := (hg 2).trans arg2
  have s3 := (hg 3).trans arg3
  clear hg
  refine xc_seq (fun K hK1 => ?_)
  refine xc_region ?_
  refine x_val (r_assign ec) (nd_of rfl) rfl ?_
  refine xw_nil ?_
  refine hK1 _ _ ?_
  refine xc_gen (fun g hg => ?_)
  have s0 := (hg 0).trans (en rfl s0)
  have s1 := (hg 1).trans (en rfl s1)
  have s2 := (hg 2).trans (en rfl s2)
  have s3 := (hg 3).trans (en rfl s3)
  have s8 := (hg 8).trans es
  clear hg
  refine xc_seq (fun K hK2 => ?_)
  refine xc_region ?_
  refine x_val (r_move s0) (nd_of rfl) rfl ?_
  refine x_val (r_move (en rfl s1)) (nd_of rfl) rfl ?_
  refine x_val (r_move (en rfl (en rfl s2))) (nd_of rfl) rfl ?_
  refine x_enter (r_call Try.call13 (.cons (en rfl (en rfl es)) (.cons (en rfl es) (.cons es .nil)))) (nd_of rfl) rfl (overN h) ?_
  rintro _ w ⟨rfl, h⟩
  refine x_val (r_move es) (nd_of rfl) rfl ?_
  refine x_val (r_extract es gc0) (nd_of rfl) rfl ?_
  refine x_val (r_extract (en rfl es) gc1) (nd_of rfl) rfl ?_
  refine x_val (r_assign (en rfl es)) (nd_of rfl) rfl ?_
  refine x_val (r_assign (en rfl es)) (nd_of rfl) rfl ?_
  refine xw_nil ?_
  refine hK2 _ _ ?_
  refine xc_gen (fun g hg => ?_)
  have s0 := (hg 0).trans (en rfl (en rfl (en rfl (en rfl (en rfl (en rfl (en rfl (en rfl (en rfl s0)))))))))
  have s1 := (hg 1).trans (en rfl (en rfl (en rfl (en rfl (en rfl (en rfl (en rfl (en rfl (en rfl s1)))))))))
  have s2 := (hg 2).trans (en rfl (en rfl (en rfl (en rfl (en rfl (en rfl (en rfl (en rfl (en rfl s2)))))))))
  have s3 := (hg 3).trans (en rfl (en rfl (en rfl (en rfl (en rfl (en rfl (en rfl (en rfl (en rfl s3)))))))))
  have s8 := (hg 8).trans (en rfl (en rfl (en rfl (en rfl (en rfl (en rfl (en rfl (en rfl (en rfl s8)))))))))
  have s9 := (hg 9).trans (en rfl es)
  have s10 := (hg 10).trans es
  clear hg
  refine xc_seq (fun K hK3 => ?_)
  refine xc_seq (fun K hK4 => ?_)
  refine xc_region ?_
  refine x_val (r_move s10) (nd_of rfl) rfl ?_
  refine x_val (r_neq es ec (r := true) rfl) (nd_of rfl) rfl ?_
  refine xw_nil ?_
  refine hK4 _ _ ?_
  refine xc_gen (fun g hg => ?_)
  have s0 := (hg 0).trans (en rfl (en rfl s0))
  have s1 := (hg 1).trans (en rfl (en rfl s1))
  have s2 := (hg 2).trans (en rfl (en rfl s2))
  have s3 := (hg 3).trans (en rfl (en rfl s3))
  have s8 := (hg 8).trans (en rfl (en rfl s8))
  have s9 := (hg 9).trans (en rfl (en rfl s9))
  have s10 := (hg 10).trans (en rfl (en rfl s10))
  have s20 := (hg 20).trans es
  clear hg
  refine xc_cond s20 (fun _ => ?_) (fun hc => by cases hc)
  refine xc_seq (fun K hK5 => ?_)
  refine xc_region ?_
  refine x_val (r_move s10) (nd_of rfl) rfl ?_
  refine x_val (r_assign es) (nd_of rfl) rfl ?_
  refine xw_nil ?_
  refine hK5 _ _ ?_
  refine xc_gen (fun g hg => ?_)
  have s0 := (hg 0).trans (en rfl (en rfl s0))
  have s1 := (hg 1).trans (en rfl (en rfl s1))
  have s2 := (hg 2).trans (en rfl (en rfl s2))
  have s3 := (hg 3).trans (en rfl (en rfl s3))
  have s8 := (hg 8).trans es
  have s9 := (hg 9).trans (en rfl (en rfl s9))
  have s10 := (hg 10).trans (en rfl (en rfl s10))
  have s20 := (hg 20).trans (en rfl (en rfl s20))
  clear hg
  refine xc_ret ?_
  refine bodyR_1 rfl s8 ?_
  exact ⟨rfl, h⟩
theorem heightN (h : SatL E w R) : Calls Try.prog 18 #[.pointer none] w (Ret fun u w' => u = .int .i64 0 ∧ SatL E w' R) := by
  refine calls_x Try.func18 rfl Try.ntmps18 rfl ?_
  refine xc_gen (fun g hg => ?_)
  have s0 := (hg 0).trans arg0
  clear hg
  refine xc_seq (fun K hK1 => ?_)
  refine xc_region ?_
  refine x_val (r_assign ec) (nd_of rfl) rfl ?_
  refine xw_nil ?_
  refine hK1 _ _ ?_
  refine xc_gen (fun g hg => ?_)
  have s0 := (hg 0).trans (en rfl s0)
  have s2 := (hg 2).trans es
  clear hg
  refine xc_seq (fun K hK2 => ?_)
  refine xc_seq (fun K hK3 => ?_)
  refine xc_region ?_
  refine x_val (r_move s0) (nd_of rfl) rfl ?_
  refine x_val (r_eqnil Try.underlying27 es ec (r := true) rfl) (nd_of rfl) rfl ?_
  refine xw_nil ?_
  refine hK3 _ _ ?_
  refine xc_gen (fun g hg => ?_)
  have s0 := (hg 0).trans (en rfl (en rfl s0))
  have s2 := (hg 2).trans (en rfl (en rfl s2))
  have s4 := (hg 4).trans es
  clear hg
  refine xc_cond s4 (fun _ => ?_) (fun hc => by cases hc)
  refine xc_seq (fun K hK4 => ?_)
  refine xc_region ?_
  refine x_val (r_assign ec) (nd_of rfl) rfl ?_
  refine xw_nil ?_
  refine hK4 _ _ ?_
  refine xc_gen (fun g hg => ?_)
  have s0 := (hg 0).trans (en rfl s0)
  have s2 := (hg 2).trans es
  have s4 := (hg 4).trans (en rfl s4)
  clear hg
  refine xc_ret ?_
  refine bodyR_1 rfl s2 ?_
  exact ⟨rfl, h⟩
theorem copyN (h : SatL E w R) : Calls Try.prog 19 #[.pointer none] w (Ret fun u w' => u = .pointer none ∧ SatL E w' R) := by
  refine calls_x Try.func19 rfl Try.ntmps19 rfl ?_
  refine xc_gen (fun g hg => ?_)
  have s0 := (hg 0).trans arg0
  clear hg
  refine xc_seq (fun K hK1 => ?_)
  refine xc_region ?_
  refine x_val (r_assign ec) (nd_of rfl) rfl ?_
  refine xw_nil ?_
  refine hK1 _ _ ?_
  refine xc_gen (fun g hg => ?_)
  have s0 := (hg 0).trans (en rfl s0)
  have s2 := (hg 2).trans es
  clear hg
  refine xc_seq (fun K hK2 => ?_)
  refine xc_seq (fun K hK3 => ?_)
  refine xc_region ?_
  refine x_val (r_move s0) (nd_of rfl) rfl ?_
  refine x_val (r_eqnil Try.underlying27 es ec (r := true) rfl) (nd_of rfl) rfl ?_
  refine xw_nil ?_
  refine hK3 _ _ ?_
  refine xc_gen (fun g hg => ?_)
  have s0 := (hg 0).trans (en rfl (en rfl s0))
  have s2 := (hg 2).trans (en rfl (en rfl s2))
  have s4 := (hg 4).trans es
  clear hg
  refine xc_cond s4 (fun _ => ?_) (fun hc => by cases hc)
  refine xc_seq (fun K hK4 => ?_)
  refine xc_region ?_
  refine x_val (r_assign ec) (nd_of rfl) rfl ?_
  refine xw_nil ?_
  refine hK4 _ _ ?_
  refine xc_gen (fun g hg => ?_)
  have s0 := (hg 0).trans (en rfl s0)
  have s2 := (hg 2).trans es
  have s4 := (hg 4).trans (en rfl s4)
  clear hg
  refine xc_ret ?_
  refine bodyR_1 rfl s2 ?_
  exact ⟨rfl, h⟩
theorem zOp : ∀ w, (zeroValue 26).run Try.prog w = .ok (.agg #[.int .i64 0, .int .i64 0, .int .i64 0, .slice none 0 0, .slice none 0 0]) w := fun _ => by kernel_rfl
theorem OpWf.oreads (hw : OpWf W o) (k : Nat) (hk : R[k]? = some (Old W)) {c t : Nat} : OReads E (Cells c (opC o).toArray t :: R) (.slice (some ⟨c, 0, none⟩) 1 1) [o] := by
  refine ⟨_, _, rfl, fun w h i o' ho => ⟨_, rfl, fun j u hj => ?_⟩, fun o' ho => ?_⟩
  · match i with
    | 0 =>
      cases ho
      rw [add_pt, add_pt, Nat.zero_mul, Nat.zero_add]
      exact h.cell 0 rfl (by simpa using hj)
    | i + 1 => simp at ho
  · simp at ho
    subst ho
    exact ⟨hw.sp.sreads (k + 1) (by simpa using hk), hw.cp.creads (k + 1) (by simpa using hk)⟩
theorem ins_nil {M : List (List Atr)} : insL [] 0 M = M := by
  unfold insL
  rw [if_pos ⟨by decide, by decide, by decide⟩]
  simp
theorem none_all (hw : OpWf W o) (h : SatL E w (Old W :: R)) : Calls Try.prog 6 #[.agg (opC o).toArray] w (Ret fun u w' => u = .bool true ∧ SatL E w' (Old W :: R)) := by
  obtain ⟨al, cl, hlv⟩ : ∃ al cl, o.lv = .slice al o.ls.length cl := by obtain ⟨⟨a, c, e, _⟩, _⟩ := hw.sp; exact ⟨a, c, e⟩
  have hone : o.lv.oneCell' = true := by rw [hlv]; rfl
  have hone2 : o.xv.oneCell' = true := by obtain ⟨a, c, e, _⟩ := hw.cp; rw [e]; rfl
  have hoko : Ok 5 (opC o).toArray := ok_op hone hone2
  have hopc : opC o = [.int .i64 o.kind, .int .i64 o.k, .int .i64 o.m, .slice al o.ls.length cl, o.xv] := by rw [opC, hlv]
  rw [hopc] at hoko ⊢
  refine calls_x Try.func6 rfl Try.ntmps6 rfl ?_
  refine xc_gen (fun g hg => ?_)
  have s0 := (hg 0).trans arg0
  clear hg
  refine xc_seq (fun K hK1 => ?_)
  refine xc_region ?_
  refine x_boxA h s0 rfl ?_
  intro b1 w h
  refine x_val (r_assign ec) (nd_of rfl) rfl ?_
  refine xw_nil ?_
  refine hK1 _ _ ?_
  refine xc_gen (fun g hg => ?_)
  have s0 := (hg 0).trans (en rfl (en rfl s0))
  have s1 := (hg 1).trans (en rfl es)
  have s2 := (hg 2).trans es
  clear hg
  refine xc_seq (fun K hK2 => ?_)
  refine xc_seq (fun K hK3 => ?_)
  refine xc_region ?_
  refine x_val (r_loadAgg h 0 rfl Try.isAgg26 Try.sizeOf26 s1 (by exact Nat.le_refl _) (ext_full rfl)) (nd_of rfl) rfl ?_
  refine x_bslice h Try.underlying22 Try.sizeOf26 zOp rfl rfl es rfl hoko rfl ?_; intro bs w h
  refine x_enter (r_call Try.call8 (.cons es .nil)) (nd_of rfl) rfl (small_ok (os := [o]) (hopc ▸ hw.oreads 1 rfl) h) ?_
  rintro _ w ⟨r, rfl, hr, h⟩
  refine x_val (r_not es rfl) (nd_of rfl) rfl ?_
  refine xw_nil ?_
  refine hK3 _ _ ?_
  refine xc_gen (fun g hg => ?_)
  have s0 := (hg 0).trans (en rfl (en rfl (en rfl (en rfl s0))))
  have s1 := (hg 1).trans (en rfl (en rfl (en rfl (en rfl s1))))
  have s2 := (hg 2).trans (en rfl (en rfl (en rfl (en rfl s2))))
  have s12 := (hg 12).trans es
  clear hg
  refine xc_cond s12 (fun hc => ?_) (fun hc => ?_)
  ·
    refine xc_seq (fun K hK4 => ?_)
    refine xc_region ?_
    refine x_enter (r_call Try.call9 .nil) (nd_of rfl) rfl (known_ok h) ?_
    rintro _ w ⟨rfl, h⟩
    refine x_val (r_assign es) (nd_of rfl) rfl ?_
    refine xw_nil ?_
    refine hK4 _ _ ?_
    refine xc_gen (fun g hg => ?_)
    have s0 := (hg 0).trans (en rfl (en rfl s0))
    have s1 := (hg 1).trans (en rfl (en rfl s1))
    have s2 := (hg 2).trans es
    have s12 := (hg 12).trans (en rfl (en rfl s12))
    clear hg
    refine xc_ret ?_
    refine bodyR_1 rfl s2 ?_
    exact ⟨rfl, h.drop.drop⟩
  ·
    refine xc_skip ?_
    refine hK2 _ _ ?_
    refine xc_seq (fun K hK5 => ?_)
    have hso := (hr (by simpa using hc)).2 o (by simp)
    have hM := hso.sets hw
    refine xc_region ?_
    refine x_val (r_assign ec) (nd_of rfl) rfl ?_
    refine xw_nil ?_
    refine hK5 _ _ ?_
    refine xc_gen (fun g hg => ?_)
    have s0 := (hg 0).trans (en rfl s0)
    have s1 := (hg 1).trans (en rfl s1)
    have s2 := (hg 2).trans (en rfl s2)
    have s3 := (hg 3).trans es
    have s12 := (hg 12).trans (en rfl s12)
    clear hg
    refine xc_seq (fun K hK6 => ?_)
    refine xc_region ?_
    refine x_allocA h Try.zeroValue54 rfl ?_
    intro b4 w h
    refine xw_nil ?_
    refine hK6 _ _ ?_
    refine xc_gen (fun g hg => ?_)
    have s0 := (hg 0).trans (en rfl s0)
    have s1 := (hg 1).trans (en rfl s1)
    have s2 := (hg 2).trans (en rfl s2)
    have s3 := (hg 3).trans (en rfl s3)
    have s4 := (hg 4).trans es
    have s12 := (hg 12).trans (en rfl s12)
    clear hg
    refine xc_seq (fun K hK7 => ?_)
    have h := SatL.closePa (xs := []) ((SatL.closeObj0 (B := plc 0) h).rowsNil.f1)
    refine xc_region ?_
    refine x_val (r_move s3) (nd_of rfl) rfl ?_
    refine x_val (r_fieldAddr (o' := 1) Try.underlying26 rfl Try.sizeOf3 rfl (en rfl s1) rfl) (nd_of rfl) rfl ?_
    refine x_val (r_load h 2 rfl Try.isAgg3 es gc1) (nd_of rfl) rfl ?_
    refine x_enter (r_call Try.call15 (.cons (en rfl (en rfl es)) (.cons es .nil))) (nd_of rfl) rfl (atN h) ?_
    rintro _ w ⟨rfl, h⟩
    refine x_val (r_move es) (nd_of rfl) rfl ?_
    refine x_val (r_extract es gc0) (nd_of rfl) rfl ?_
    refine x_val (r_extract (en rfl es) gc1) (nd_of rfl) rfl ?_
    refine x_val (r_assign (en rfl es)) (nd_of rfl) rfl ?_
    refine x_val (r_assign (en rfl es)) (nd_of rfl) rfl ?_
    refine xw_nil ?_
    refine hK7 _ _ ?_
    refine xc_gen (fun g hg => ?_)
    have s0 := (hg 0).trans (en rfl (en rfl (en rfl (en rfl (en rfl (en rfl (en rfl (en rfl (en rfl s0)))))))))
    have s1 := (hg 1).trans (en rfl (en rfl (en rfl (en rfl (en rfl (en rfl (en rfl (en rfl (en rfl s1)))))))))
    have s2 := (hg 2).trans (en rfl (en rfl (en rfl (en rfl (en rfl (en rfl (en rfl (en rfl (en rfl s2)))))))))
    have s3 := (hg 3).trans (en rfl (en rfl (en rfl (en rfl (en rfl (en rfl (en rfl (en rfl (en rfl s3)))))))))
    have s4 := (hg 4).trans (en rfl (en rfl (en rfl (en rfl (en rfl (en rfl (en rfl (en rfl (en rfl s4)))))))))
    have s6 := (hg 6).trans es
    have s12 := (hg 12).trans (en rfl (en rfl (en rfl (en rfl (en rfl (en rfl (en rfl (en rfl (en rfl s12)))))))))
    clear hg
    refine xc_seq (fun K hK8 => ?_)
    refine xc_region ?_
    refine x_val (r_move s3) (nd_of rfl) rfl ?_
    refine x_val (r_fieldAddr (o' := 1) Try.underlying26 rfl Try.sizeOf3 rfl (en rfl s1) rfl) (nd_of rfl) rfl ?_
    refine x_val (r_load h 2 rfl Try.isAgg3 es gc1) (nd_of rfl) rfl ?_
    refine x_val (r_fieldAddr (o' := 2) Try.underlying26 rfl Try.sizeOf3 rfl (en rfl (en rfl (en rfl s1))) rfl) (nd_of rfl) rfl ?_
    refine x_val (r_load h 2 rfl Try.isAgg3 es gc2) (nd_of rfl) rfl ?_
    refine x_enter (r_call Try.call13 (.cons (en rfl (en rfl (en rfl (en rfl es)))) (.cons (en rfl (en rfl es)) (.cons es .nil)))) (nd_of rfl) rfl (overN h) ?_
    rintro _ w ⟨rfl, h⟩
    refine x_val (r_move es) (nd_of rfl) rfl ?_
    refine x_val (r_extract es gc0) (nd_of rfl) rfl ?_
    refine x_val (r_extract (en rfl es) gc1) (nd_of rfl) rfl ?_
    refine x_val (r_assign (en rfl es)) (nd_of rfl) rfl ?_
    refine x_val (r_assign (en rfl es)) (nd_of rfl) rfl ?_
    refine xw_nil ?_
    refine hK8 _ _ ?_
    refine xc_gen (fun g hg => ?_)
    have s0 := (hg 0).trans (en rfl (en rfl (en rfl (en rfl (en rfl (en rfl (en rfl (en rfl (en rfl (en rfl (en rfl s0)))))))))))
    have s1 := (hg 1).trans (en rfl (en rfl (en rfl (en rfl (en rfl (en rfl (en rfl (en rfl (en rfl (en rfl (en rfl s1)))))))))))
    have s2 := (hg 2).trans (en rfl (en rfl (en rfl (en rfl (en rfl (en rfl (en rfl (en rfl (en rfl (en rfl (en rfl s2)))))))))))
    have s3 := (hg 3).trans (en rfl (en rfl (en rfl (en rfl (en rfl (en rfl (en rfl (en rfl (en rfl (en rfl (en rfl s3)))))))))))
    have s4 := (hg 4).trans (en rfl (en rfl (en rfl (en rfl (en rfl (en rfl (en rfl (en rfl (en rfl (en rfl (en rfl s4)))))))))))
    have s6 := (hg 6).trans (en rfl (en rfl (en rfl (en rfl (en rfl (en rfl (en rfl (en rfl (en rfl (en rfl (en rfl s6)))))))))))
    have s8 := (hg 8).trans es
    have s12 := (hg 12).trans (en rfl (en rfl (en rfl (en rfl (en rfl (en rfl (en rfl (en rfl (en rfl (en rfl (en rfl s12)))))))))))
    clear hg
    refine xc_seq (fun K hK9 => ?_)
    have hS := h
    have hS := (hS.f0).drop
    have hS := (hS.f0).drop
    refine xc_plan 69 [(0, 2), (1, 2), (2, 2), (3, 2), (4, 2), (5, 2), (6, 2), (7, 2), (8, 2), (9, 1), (10, 2), (11, 1), (12, 0), (13, 2), (14, 2), (15, 2), (16, 2), (17, 2), (18, 1), (19, 2), (20, 1), (21, 0), (22, 2), (23, 2), (24, 2), (25, 2), (26, 2), (27, 1), (28, 2), (29, 1), (30, 2), (31, 1), (32, 0), (33, 2), (34, 2), (35, 2), (36, 2), (38, 2), (37, 0), (39, 0), (40, 2), (41, 2), (42, 2), (43, 2), (44, 2), (45, 0), (46, 2), (47, 2), (48, 2), (49, 0), (50, 2), (51, 2), (52, 2), (53, 2), (54, 1), (55, 0), (56, 2), (57, 2), (58, 2), (60, 2), (61, 1), (62, 2), (59, 0), (63, 2), (64, 2), (65, 2), (66, 0), (67, 2), (68, 2)] (by kernel_rfl) rfl (by kernel_rfl) hS ?_
    have h := h.drew
    refine xp_read (i := 0) rfl (fun W => r_move s6) rfl (fun _ _ _ hh => by first | exact bodyR_np hh | exact bodyY_np hh | exact hh) ?_
    refine xp_read (i := 1) rfl (fun W => r_eql es ec (r := true) rfl) rfl (fun _ _ _ hh => by first | exact bodyR_np hh | exact bodyY_np hh | exact hh) ?_
    refine xp_read (i := 2) rfl (fun W => r_move es) rfl (fun _ _ _ hh => by first | exact bodyR_np hh | exact bodyY_np hh | exact hh) ?_
    refine xp_readG (i := 3) (d := 32) rfl rfl rfl es (fun W => r_move (en rfl (en rfl (en rfl s8)))) rfl (fun _ _ _ hh => by first | exact bodyR_np hh | exact bodyY_np hh | exact hh) ?_
    refine xp_readG (i := 4) (d := 32) rfl rfl rfl (en rfl es) (fun W => r_eql es ec (r := true) rfl) rfl (fun _ _ _ hh => by first | exact bodyR_np hh | exact bodyY_np hh | exact hh) ?_
    refine xp_read (i := 5) rfl (fun W => r_pick_t (en rfl (en rfl es)) es) rfl (fun _ _ _ hh => by first | exact bodyR_np hh | exact bodyY_np hh | exact hh) ?_
    refine xp_read (i := 6) rfl (fun W => r_move es) rfl (fun _ _ _ hh => by first | exact bodyR_np hh | exact bodyY_np hh | exact hh) ?_
    refine xp_readG (i := 7) (d := 36) rfl rfl rfl es (fun W => r_move (en rfl (en rfl (en rfl (en rfl (en rfl (en rfl (en rfl s3)))))))) rfl (fun _ _ _ hh => by first | exact bodyR_np hh | exact bodyY_np hh | exact hh) ?_
    refine xp_readG (i := 8) (d := 36) rfl rfl rfl (en rfl es) (fun W => r_fieldAddr (o' := 1) Try.underlying26 rfl Try.sizeOf3 rfl (en rfl (en rfl (en rfl (en rfl (en rfl (en rfl (en rfl (en rfl s1)))))))) rfl) rfl (fun _ _ _ hh => by first | exact bodyR_np hh | exact bodyY_np hh | exact hh) ?_
    refine xp_loadG (i := 9) (d := 36) rfl rfl rfl (en rfl (en rfl es)) (fun W hW => r_load hW 0 rfl Try.isAgg3 es gc1) rfl (fun _ _ _ hh => by first | exact bodyR_np hh | exact bodyY_np hh | exact hh) ?_
    refine xp_readG (i := 10) (d := 36) rfl rfl rfl (en rfl (en rfl (en rfl es))) (fun W => r_fieldAddr (o' := 3) Try.underlying26 rfl Try.sizeOf23 rfl (en rfl (en rfl (en rfl (en rfl (en rfl (en rfl (en rfl (en rfl (en rfl (en rfl s1)))))))))) rfl) rfl (fun _ _ _ hh => by first | exact bodyR_np hh | exact bodyY_np hh | exact hh) ?_
    refine xp_loadG (i := 11) (d := 36) rfl rfl rfl (en rfl (en rfl (en rfl (en rfl es)))) (fun W hW => r_load hW 0 rfl Try.isAgg23 es gc3) rfl (fun _ _ _ hh => by first | exact bodyR_np hh | exact bodyY_np hh | exact hh) ?_
    refine xp_enterG (i := 12) (e := 36) rfl rfl rfl (en rfl (en rfl (en rfl (en rfl (en rfl es))))) (r_call Try.call10 (.cons (en rfl (en rfl (en rfl (en rfl es)))) (.cons (en rfl (en rfl es)) (.cons es .nil)))) rfl (insertN h) ?_
    rintro _ w ⟨rfl, h⟩
    refine ⟨(fun _ => ((h.f0).drop.f0).drop), ?_⟩
    refine xp_readG (i := 13) (d := 36) rfl rfl rfl (en rfl (en rfl (en rfl (en rfl (en rfl (en rfl es)))))) (fun W => r_eql es ec (r := true) rfl) rfl (fun _ _ _ hh => by first | exact bodyR_np hh | exact bodyY_np hh | exact hh) ?_
    refine xp_read (i := 14) rfl (fun W => r_pick_t (en rfl (en rfl (en rfl (en rfl (en rfl (en rfl (en rfl es))))))) es) rfl (fun _ _ _ hh => by first | exact bodyR_np hh | exact bodyY_np hh | exact hh) ?_
    refine xp_read (i := 15) rfl (fun W => r_move es) rfl (fun _ _ _ hh => by first | exact bodyR_np hh | exact bodyY_np hh | exact hh) ?_
    refine xp_readG (i := 16) (d := 45) rfl rfl rfl es (fun W => r_move (en rfl (en rfl (en rfl (en rfl (en rfl (en rfl (en rfl (en rfl (en rfl (en rfl (en rfl (en rfl (en rfl (en rfl (en rfl (en rfl s3))))))))))))))))) rfl (fun _ _ _ hh => by first | exact bodyR_np hh | exact bodyY_np hh | exact hh) ?_
    refine xp_readG (i := 17) (d := 45) rfl rfl rfl (en rfl es) (fun W => r_fieldAddr (o' := 1) Try.underlying26 rfl Try.sizeOf3 rfl (en rfl (en rfl (en rfl (en rfl (en rfl (en rfl (en rfl (en rfl (en rfl (en rfl (en rfl (en rfl (en rfl (en rfl (en rfl (en rfl (en rfl s1))))))))))))))))) rfl) rfl (fun _ _ _ hh => by first | exact bodyR_np hh | exact bodyY_np hh | exact hh) ?_
    refine xp_loadG (i := 18) (d := 45) rfl rfl rfl (en rfl (en rfl es)) (fun W hW => r_load hW 0 rfl Try.isAgg3 es gc1) rfl (fun _ _ _ hh => by first | exact bodyR_np hh | exact bodyY_np hh | exact hh) ?_
    refine xp_readG (i := 19) (d := 45) rfl rfl rfl (en rfl (en rfl (en rfl es))) (fun W => r_fieldAddr (o' := 2) Try.underlying26 rfl Try.sizeOf3 rfl (en rfl (en rfl (en rfl (en rfl (en rfl (en rfl (en rfl (en rfl (en rfl (en rfl (en rfl (en rfl (en rfl (en rfl (en rfl (en rfl (en rfl (en rfl (en rfl s1))))))))))))))))))) rfl) rfl (fun _ _ _ hh => by first | exact bodyR_np hh | exact bodyY_np hh | exact hh) ?_
    refine xp_loadG (i := 20) (d := 45) rfl rfl rfl (en rfl (en rfl (en rfl (en rfl es)))) (fun W hW => r_load hW 0 rfl Try.isAgg3 es gc2) rfl (fun _ _ _ hh => by first | exact bodyR_np hh | exact bodyY_np hh | exact hh) ?_
    refine xp_enterG (i := 21) (e := 45) rfl rfl rfl (en rfl (en rfl (en rfl (en rfl (en rfl es))))) (r_call Try.call11 (.cons (en rfl (en rfl (en rfl (en rfl es)))) (.cons (en rfl (en rfl es)) (.cons es .nil)))) rfl (deleteN h) ?_
    rintro _ w ⟨rfl, h⟩
    refine ⟨(fun _ => ((h.f0).drop.f0).drop), ?_⟩
    refine xp_readG (i := 22) (d := 45) rfl rfl rfl (en rfl (en rfl (en rfl (en rfl (en rfl (en rfl es)))))) (fun W => r_eql es ec (r := true) rfl) rfl (fun _ _ _ hh => by first | exact bodyR_np hh | exact bodyY_np hh | exact hh) ?_
    refine xp_read (i := 23) rfl (fun W => r_pick_t (en rfl (en rfl (en rfl (en rfl (en rfl (en rfl (en rfl es))))))) es) rfl (fun _ _ _ hh => by first | exact bodyR_np hh | exact bodyY_np hh | exact hh) ?_
    refine xp_read (i := 24) rfl (fun W => r_move es) rfl (fun _ _ _ hh => by first | exact bodyR_np hh | exact bodyY_np hh | exact hh) ?_
    refine xp_readG (i := 25) (d := 54) rfl rfl rfl es (fun W => r_move (en rfl (en rfl (en rfl (en rfl (en rfl (en rfl (en rfl (en rfl (en rfl (en rfl (en rfl (en rfl (en rfl (en rfl (en rfl (en rfl (en rfl (en rfl (en rfl (en rfl (en rfl (en rfl (en rfl (en rfl (en rfl s3)))))))))))))))))))))))))) rfl (fun _ _ _ hh => by first | exact bodyR_np hh | exact bodyY_np hh | exact hh) ?_
    refine xp_readG (i := 26) (d := 54) rfl rfl rfl (en rfl es) (fun W => r_fieldAddr (o' := 1) Try.underlying26 rfl Try.sizeOf3 rfl (en rfl (en rfl (en rfl (en rfl (en rfl (en rfl (en rfl (en rfl (en rfl (en rfl (en rfl (en rfl (en rfl (en rfl (en rfl (en rfl (en rfl (en rfl (en rfl (en rfl (en rfl (en rfl (en rfl (en rfl (en rfl (en rfl s1)))))))))))))))))))))))))) rfl) rfl (fun _ _ _ hh => by first | exact bodyR_np hh | exact bodyY_np hh | exact hh) ?_
    refine xp_loadG (i := 27) (d := 54) rfl rfl rfl (en rfl (en rfl es)) (fun W hW => r_load hW 0 rfl Try.isAgg3 es gc1) rfl (fun _ _ _ hh => by first | exact bodyR_np hh | exact bodyY_np hh | exact hh) ?_
    refine xp_readG (i := 28) (d := 54) rfl rfl rfl (en rfl (en rfl (en rfl es))) (fun W => r_fieldAddr (o' := 2) Try.underlying26 rfl Try.sizeOf3 rfl (en rfl (en rfl (en rfl (en rfl (en rfl (en rfl (en rfl (en rfl (en rfl (en rfl (en rfl (en rfl (en rfl (en rfl (en rfl (en rfl (en rfl (en rfl (en rfl (en rfl (en rfl (en rfl (en rfl (en rfl (en rfl (en rfl (en rfl (en rfl s1)))))))))))))))))))))))))))) rfl) rfl (fun _ _ _ hh => by first | exact bodyR_np hh | exact bodyY_np hh | exact hh) ?_
    refine xp_loadG (i := 29) (d := 54) rfl rfl rfl (en rfl (en rfl (en rfl (en rfl es)))) (fun W hW => r_load hW 0 rfl Try.isAgg3 es gc2) rfl (fun _ _ _ hh => by first | exact bodyR_np hh | exact bodyY_np hh | exact hh) ?_
    refine xp_readG (i := 30) (d := 54) rfl rfl rfl (en rfl (en rfl (en rfl (en rfl (en rfl es))))) (fun W => r_fieldAddr (o' := 4) Try.underlying26 rfl Try.sizeOf24 rfl (en rfl (en rfl (en rfl (en rfl (en rfl (en rfl (en rfl (en rfl (en rfl (en rfl (en rfl (en rfl (en rfl (en rfl (en rfl (en rfl (en rfl (en rfl (en rfl (en rfl (en rfl (en rfl (en rfl (en rfl (en rfl (en rfl (en rfl (en rfl (en rfl (en rfl s1)))))))))))))))))))))))))))))) rfl) rfl (fun _ _ _ hh => by first | exact bodyR_np hh | exact bodyY_np hh | exact hh) ?_
    refine xp_loadG (i := 31) (d := 54) rfl rfl rfl (en rfl (en rfl (en rfl (en rfl (en rfl (en rfl es)))))) (fun W hW => r_load hW 0 rfl Try.isAgg24 es gc4) rfl (fun _ _ _ hh => by first | exact bodyR_np hh | exact bodyY_np hh | exact hh) ?_
    refine xp_enterG (i := 32) (e := 54) rfl rfl rfl (en rfl (en rfl (en rfl (en rfl (en rfl (en rfl (en rfl es))))))) (r_call Try.call12 (.cons (en rfl (en rfl (en rfl (en rfl (en rfl (en rfl es)))))) (.cons (en rfl (en rfl (en rfl (en rfl es)))) (.cons (en rfl (en rfl es)) (.cons es .nil))))) rfl (patchN h) ?_
    rintro _ w ⟨rfl, h⟩
    refine ⟨(fun _ => ((h.f0).drop.f0).drop), ?_⟩
    refine xp_readG (i := 33) (d := 54) rfl rfl rfl (en rfl (en rfl (en rfl (en rfl (en rfl (en rfl (en rfl (en rfl es)))))))) (fun W => r_eql es ec (r := true) rfl) rfl (fun _ _ _ hh => by first | exact bodyR_np hh | exact bodyY_np hh | exact hh) ?_
    refine xp_read (i := 34) rfl (fun W => r_pick_t (en rfl (en rfl (en rfl (en rfl (en rfl (en rfl (en rfl (en rfl (en rfl es))))))))) es) rfl (fun _ _ _ hh => by first | exact bodyR_np hh | exact bodyY_np hh | exact hh) ?_
    refine xp_read (i := 35) rfl (fun W => r_move es) rfl (fun _ _ _ hh => by first | exact bodyR_np hh | exact bodyY_np hh | exact hh) ?_
    refine xp_readG (i := 36) (d := 65) rfl rfl rfl es (fun W => r_move (en rfl (en rfl (en rfl (en rfl (en rfl (en rfl (en rfl (en rfl (en rfl (en rfl (en rfl (en rfl (en rfl (en rfl (en rfl (en rfl (en rfl (en rfl (en rfl (en rfl (en rfl (en rfl (en rfl (en rfl (en rfl (en rfl (en rfl (en rfl (en rfl (en rfl (en rfl (en rfl (en rfl (en rfl (en rfl (en rfl s3))))))))))))))))))))))))))))))))))))) rfl (fun _ _ _ hh => by first | exact bodyR_np hh | exact bodyY_np hh | exact hh) ?_
    refine xp_readG (i := 38) (d := 65) rfl rfl rfl (en rfl es) (fun W => r_move (en rfl (en rfl (en rfl (en rfl (en rfl (en rfl (en rfl (en rfl (en rfl (en rfl (en rfl (en rfl (en rfl (en rfl (en rfl (en rfl (en rfl (en rfl (en rfl (en rfl (en rfl (en rfl (en rfl (en rfl (en rfl (en rfl (en rfl (en rfl (en rfl (en rfl (en rfl (en rfl (en rfl (en rfl (en rfl (en rfl (en rfl s3)))))))))))))))))))))))))))))))))))))) rfl (fun _ _ _ hh => by first | exact bodyR_np hh | exact bodyY_np hh | exact hh) ?_
    refine xp_enterG (i := 37) (e := 65) rfl rfl rfl (en rfl (en rfl es)) (r_call Try.call14 (.cons (en rfl es) .nil)) rfl (len_nil h) ?_
    rintro _ w ⟨rfl, h⟩
    refine ⟨(fun _ => ((h.f0).drop.f0).drop), ?_⟩
    refine xp_enterG (i := 39) (e := 65) rfl rfl rfl (en rfl (en rfl (en rfl es))) (r_call Try.call18 (.cons (en rfl es) .nil)) rfl (heightN h) ?_
    rintro _ w ⟨rfl, h⟩
    refine ⟨(fun _ => ((h.f0).drop.f0).drop), ?_⟩
    refine xp_readG (i := 40) (d := 65) rfl rfl rfl (en rfl (en rfl (en rfl (en rfl es)))) (fun W => r_add (en rfl es) es rfl (by unfold I64; omega)) rfl (fun _ _ _ hh => by first | exact bodyR_np hh | exact bodyY_np hh | exact hh) ?_
    refine xp_readG (i := 41) (d := 65) rfl rfl rfl (en rfl (en rfl (en rfl (en rfl (en rfl es))))) (fun W => r_eql es ec (decide_eq_true (by omega))) rfl (fun _ _ _ hh => by first | exact bodyR_np hh | exact bodyY_np hh | exact hh) ?_
    refine xp_read (i := 42) rfl (fun W => r_pick_t (en rfl (en rfl (en rfl (en rfl (en rfl (en rfl es)))))) es) rfl (fun _ _ _ hh => by first | exact bodyR_np hh | exact bodyY_np hh | exact hh) ?_
    refine xp_read (i := 43) rfl (fun W => r_move es) rfl (fun _ _ _ hh => by first | exact bodyR_np hh | exact bodyY_np hh | exact hh) ?_
    refine xp_readG (i := 44) (d := 73) rfl rfl rfl es (fun W => r_move (en rfl (en rfl (en rfl (en rfl (en rfl (en rfl (en rfl (en rfl (en rfl (en rfl (en rfl (en rfl (en rfl (en rfl (en rfl (en rfl (en rfl (en rfl (en rfl (en rfl (en rfl (en rfl (en rfl (en rfl (en rfl (en rfl (en rfl (en rfl (en rfl (en rfl (en rfl (en rfl (en rfl (en rfl (en rfl (en rfl (en rfl (en rfl (en rfl (en rfl (en rfl (en rfl (en rfl (en rfl s3))))))))))))))))))))))))))))))))))))))))))))) rfl (fun _ _ _ hh => by first | exact bodyR_np hh | exact bodyY_np hh | exact hh) ?_
    refine xp_enterG (i := 45) (e := 73) rfl rfl rfl (en rfl es) (r_call Try.call19 (.cons es .nil)) rfl (copyN h) ?_
    rintro _ w ⟨rfl, h⟩
    refine ⟨(fun _ => ((h.f0).drop.f0).drop), ?_⟩
    refine xp_readG (i := 46) (d := 73) rfl rfl rfl (en rfl (en rfl es)) (fun W => r_eqnil Try.underlying27 es ec (r := true) rfl) rfl (fun _ _ _ hh => by first | exact bodyR_np hh | exact bodyY_np hh | exact hh) ?_
    refine xp_read (i := 47) rfl (fun W => r_pick_t (en rfl (en rfl (en rfl es))) es) rfl (fun _ _ _ hh => by first | exact bodyR_np hh | exact bodyY_np hh | exact hh) ?_
    refine xp_read (i := 48) rfl (fun W => r_move es) rfl (fun _ _ _ hh => by first | exact bodyR_np hh | exact bodyY_np hh | exact hh) ?_
    refine xp_enterG (i := 49) (e := 78) rfl rfl rfl es (r_call Try.call14 (.cons (en rfl (en rfl (en rfl (en rfl (en rfl (en rfl (en rfl (en rfl (en rfl (en rfl (en rfl (en rfl (en rfl (en rfl (en rfl (en rfl (en rfl (en rfl (en rfl (en rfl (en rfl (en rfl (en rfl (en rfl (en rfl (en rfl (en rfl (en rfl (en rfl (en rfl (en rfl (en rfl (en rfl (en rfl (en rfl (en rfl (en rfl (en rfl (en rfl (en rfl (en rfl (en rfl (en rfl (en rfl (en rfl (en rfl (en rfl (en rfl (en rfl s4))))))))))))))))))))))))))))))))))))))))))))))))) .nil)) rfl (lenP h) ?_
    rintro _ w ⟨rfl, h⟩
    refine ⟨(fun _ => ((h.f0).drop.f0).drop), ?_⟩
    refine xp_readG (i := 50) (d := 78) rfl rfl rfl (en rfl es) (fun W => r_eql es ec (r := true) rfl) rfl (fun _ _ _ hh => by first | exact bodyR_np hh | exact bodyY_np hh | exact hh) ?_
    refine xp_read (i := 51) rfl (fun W => r_pick_t (en rfl (en rfl es)) es) rfl (fun _ _ _ hh => by first | exact bodyR_np hh | exact bodyY_np hh | exact hh) ?_
    refine xp_read (i := 52) rfl (fun W => r_move es) rfl (fun _ _ _ hh => by first | exact bodyR_np hh | exact bodyY_np hh | exact hh) ?_
    refine xp_readG (i := 53) (d := 82) rfl rfl rfl es (fun W => r_fieldAddr (o' := 3) Try.underlying26 rfl Try.sizeOf23 rfl (en rfl (en rfl (en rfl (en rfl (en rfl (en rfl (en rfl (en rfl (en rfl (en rfl (en rfl (en rfl (en rfl (en rfl (en rfl (en rfl (en rfl (en rfl (en rfl (en rfl (en rfl (en rfl (en rfl (en rfl (en rfl (en rfl (en rfl (en rfl (en rfl (en rfl (en rfl (en rfl (en rfl (en rfl (en rfl (en rfl (en rfl (en rfl (en rfl (en rfl (en rfl (en rfl (en rfl (en rfl (en rfl (en rfl (en rfl (en rfl (en rfl (en rfl (en rfl (en rfl (en rfl s1))))))))))))))))))))))))))))))))))))))))))))))))))))) rfl) rfl (fun _ _ _ hh => by first | exact bodyR_np hh | exact bodyY_np hh | exact hh) ?_
    refine xp_loadG (i := 54) (d := 82) rfl rfl rfl (en rfl es) (fun W hW => r_load hW 0 rfl Try.isAgg23 es gc3) rfl (fun _ _ _ hh => by first | exact bodyR_np hh | exact bodyY_np hh | exact hh) ?_
    refine xp_enterG (i := 55) (e := 82) rfl rfl rfl (en rfl (en rfl es)) (r_call Try.call10 (.cons (en rfl (en rfl (en rfl (en rfl (en rfl (en rfl (en rfl (en rfl (en rfl (en rfl (en rfl (en rfl (en rfl (en rfl (en rfl (en rfl (en rfl (en rfl (en rfl (en rfl (en rfl (en rfl (en rfl (en rfl (en rfl (en rfl (en rfl (en rfl (en rfl (en rfl (en rfl (en rfl (en rfl (en rfl (en rfl (en rfl (en rfl (en rfl (en rfl (en rfl (en rfl (en rfl (en rfl (en rfl (en rfl (en rfl (en rfl (en rfl (en rfl (en rfl (en rfl (en rfl (en rfl (en rfl (en rfl s4))))))))))))))))))))))))))))))))))))))))))))))))))))))) (.cons ec (.cons es .nil)))) rfl (insP InvP.nil hM (by omega) (hlv ▸ hw.sp.sreads 2 rfl) h) ?_
    rintro _ w ⟨rfl, h⟩
    refine ⟨(fun _ => ((h.f0).drop.f0).drop), ?_⟩
    refine xp_readG (i := 56) (d := 82) rfl rfl rfl (en rfl (en rfl (en rfl es))) (fun W => r_eql es ec (decide_eq_true (by exact if_pos ⟨by decide, by decide, by decide⟩))) rfl (fun _ _ _ hh => by first | exact bodyR_np hh | exact bodyY_np hh | exact hh) ?_
    refine xp_read (i := 57) rfl (fun W => r_pick_t (en rfl (en rfl (en rfl (en rfl es)))) es) rfl (fun _ _ _ hh => by first | exact bodyR_np hh | exact bodyY_np hh | exact hh) ?_
    refine xp_read (i := 58) rfl (fun W => r_move es) rfl (fun _ _ _ hh => by first | exact bodyR_np hh | exact bodyY_np hh | exact hh) ?_
    refine xp_readG (i := 60) (d := 88) rfl rfl rfl es (fun W => r_fieldAddr (o' := 3) Try.underlying26 rfl Try.sizeOf23 rfl (en rfl (en rfl (en rfl (en rfl (en rfl (en rfl (en rfl (en rfl (en rfl (en rfl (en rfl (en rfl (en rfl (en rfl (en rfl (en rfl (en rfl (en rfl (en rfl (en rfl (en rfl (en rfl (en rfl (en rfl (en rfl (en rfl (en rfl (en rfl (en rfl (en rfl (en rfl (en rfl (en rfl (en rfl (en rfl (en rfl (en rfl (en rfl (en rfl (en rfl (en rfl (en rfl (en rfl (en rfl (en rfl (en rfl (en rfl (en rfl (en rfl (en rfl (en rfl (en rfl (en rfl (en rfl (en rfl (en rfl (en rfl (en rfl (en rfl s1))))))))))))))))))))))))))))))))))))))))))))))))))))))))))) rfl) rfl (fun _ _ _ hh => by first | exact bodyR_np hh | exact bodyY_np hh | exact hh) ?_
    refine xp_loadG (i := 61) (d := 88) rfl rfl rfl (en rfl es) (fun W hW => r_load hW 0 rfl Try.isAgg23 es gc3) rfl (fun _ _ _ hh => by first | exact bodyR_np hh | exact bodyY_np hh | exact hh) ?_
    refine xp_readG (i := 62) (d := 88) rfl rfl rfl (en rfl (en rfl es)) (fun W => r_len Try.underlying23 es) rfl (fun _ _ _ hh => by first | exact bodyR_np hh | exact bodyY_np hh | exact hh) ?_
    refine xp_enterG (i := 59) (e := 88) rfl rfl rfl (en rfl (en rfl (en rfl es))) (r_call Try.call14 (.cons (en rfl (en rfl (en rfl (en rfl (en rfl (en rfl (en rfl (en rfl (en rfl (en rfl (en rfl (en rfl (en rfl (en rfl (en rfl (en rfl (en rfl (en rfl (en rfl (en rfl (en rfl (en rfl (en rfl (en rfl (en rfl (en rfl (en rfl (en rfl (en rfl (en rfl (en rfl (en rfl (en rfl (en rfl (en rfl (en rfl (en rfl (en rfl (en rfl (en rfl (en rfl (en rfl (en rfl (en rfl (en rfl (en rfl (en rfl (en rfl (en rfl (en rfl (en rfl (en rfl (en rfl (en rfl (en rfl (en rfl (en rfl (en rfl (en rfl (en rfl (en rfl (en rfl s4)))))))))))))))))))))))))))))))))))))))))))))))))))))))))))))) .nil)) rfl (lenP h) ?_
    rintro _ w ⟨rfl, h⟩
    refine ⟨(fun _ => ((h.f0).drop.f0).drop), ?_⟩
    refine xp_readG (i := 63) (d := 88) rfl rfl rfl (en rfl (en rfl (en rfl (en rfl es)))) (fun W => r_eql es (en rfl es) (decide_eq_true (by rw [ins_nil]; unfold OpV.sets; rw [List.length_map]))) rfl (fun _ _ _ hh => by first | exact bodyR_np hh | exact bodyY_np hh | exact hh) ?_
    refine xp_read (i := 64) rfl (fun W => r_pick_t (en rfl (en rfl (en rfl (en rfl (en rfl es))))) es) rfl (fun _ _ _ hh => by first | exact bodyR_np hh | exact bodyY_np hh | exact hh) ?_
    refine xp_read (i := 65) rfl (fun W => r_move es) rfl (fun _ _ _ hh => by first | exact bodyR_np hh | exact bodyY_np hh | exact hh) ?_
    refine xp_enterG (i := 66) (e := 95) rfl rfl rfl es (r_call Try.call9 .nil) rfl (known_ok h) ?_
    rintro _ w ⟨rfl, h⟩
    refine ⟨(fun _ => ((h.f0).drop.f0).drop), ?_⟩
    refine xp_read (i := 67) rfl (fun W => r_pick_t (en rfl es) es) rfl (fun _ _ _ hh => by first | exact bodyR_np hh | exact bodyY_np hh | exact hh) ?_
    refine xp_read (i := 68) rfl (fun W => r_assign es) rfl (fun _ _ _ hh => by first | exact bodyR_np hh | exact bodyY_np hh | exact hh) ?_
    refine xp_nil ?_
    refine hK9 _ _ ?_
    refine xc_gen (fun g hg => ?_)
    have s0 := (hg 0).trans (en rfl (en rfl (en rfl (en rfl (en rfl (en rfl (en rfl (en rfl (en rfl (en rfl (en rfl (en rfl (en rfl (en rfl (en rfl (en rfl (en rfl (en rfl (en rfl (en rfl (en rfl (en rfl (en rfl (en rfl (en rfl (en rfl (en rfl (en rfl (en rfl (en rfl (en rfl (en rfl (en rfl (en rfl (en rfl (en rfl (en rfl (en rfl (en rfl (en rfl (en rfl (en rfl (en rfl (en rfl (en rfl (en rfl (en rfl (en rfl (en rfl (en rfl (en rfl (en rfl (en rfl (en rfl (en rfl (en rfl (en rfl (en rfl (en rfl (en rfl (en rfl (en rfl (en rfl (en rfl (en rfl (en rfl (en rfl (en rfl (en rfl s0)))))))))))))))))))))))))))))))))))))))))))))))))))))))))))))))))))))
    have s1 := (hg 1).trans (en rfl (en rfl (en rfl (en rfl (en rfl (en rfl (en rfl (en rfl (en rfl (en rfl (en rfl (en rfl (en rfl (en rfl (en rfl (en rfl (en rfl (en rfl (en rfl (en rfl (en rfl (en rfl (en rfl (en rfl (en rfl (en rfl (en rfl (en rfl (en rfl (en rfl (en rfl (en rfl (en rfl (en rfl (en rfl (en rfl (en rfl (en rfl (en rfl (en rfl (en rfl (en rfl (en rfl (en rfl (en rfl (en rfl (en rfl (en rfl (en rfl (en rfl (en rfl (en rfl (en rfl (en rfl (en rfl (en rfl (en rfl (en rfl (en rfl (en rfl (en rfl (en rfl (en rfl (en rfl (en rfl (en rfl (en rfl (en rfl (en rfl s1)))))))))))))))))))))))))))))))))))))))))))))))))))))))))))))))))))))
    have s2 := (hg 2).trans es
    have s3 := (hg 3).trans (en rfl (en rfl (en rfl (en rfl (en rfl (en rfl (en rfl (en rfl (en rfl (en rfl (en rfl (en rfl (en rfl (en rfl (en rfl (en rfl (en rfl (en rfl (en rfl (en rfl (en rfl (en rfl (en rfl (en rfl (en rfl (en rfl (en rfl (en rfl (en rfl (en rfl (en rfl (en rfl (en rfl (en rfl (en rfl (en rfl (en rfl (en rfl (en rfl (en rfl (en rfl (en rfl (en rfl (en rfl (en rfl (en rfl (en rfl (en rfl (en rfl (en rfl (en rfl (en rfl (en rfl (en rfl (en rfl (en rfl (en rfl (en rfl (en rfl (en rfl (en rfl (en rfl (en rfl (en rfl (en rfl (en rfl (en rfl (en rfl (en rfl s3)))))))))))))))))))))))))))))))))))))))))))))))))))))))))))))))))))))
    have s4 := (hg 4).trans (en rfl (en rfl (en rfl (en rfl (en rfl (en rfl (en rfl (en rfl (en rfl (en rfl (en rfl (en rfl (en rfl (en rfl (en rfl (en rfl (en rfl (en rfl (en rfl (en rfl (en rfl (en rfl (en rfl (en rfl (en rfl (en rfl (en rfl (en rfl (en rfl (en rfl (en rfl (en rfl (en rfl (en rfl (en rfl (en rfl (en rfl (en rfl (en rfl (en rfl (en rfl (en rfl (en rfl (en rfl (en rfl (en rfl (en rfl (en rfl (en rfl (en rfl (en rfl (en rfl (en rfl (en rfl (en rfl (en rfl (en rfl (en rfl (en rfl (en rfl (en rfl (en rfl (en rfl (en rfl (en rfl (en rfl (en rfl (en rfl (en rfl s4)))))))))))))))))))))))))))))))))))))))))))))))))))))))))))))))))))))
    have s6 := (hg 6).trans (en rfl (en rfl (en rfl (en rfl (en rfl (en rfl (en rfl (en rfl (en rfl (en rfl (en rfl (en rfl (en rfl (en rfl (en rfl (en rfl (en rfl (en rfl (en rfl (en rfl (en rfl (en rfl (en rfl (en rfl (en rfl (en rfl (en rfl (en rfl (en rfl (en rfl (en rfl (en rfl (en rfl (en rfl (en rfl (en rfl (en rfl (en rfl (en rfl (en rfl (en rfl (en rfl (en rfl (en rfl (en rfl (en rfl (en rfl (en rfl (en rfl (en rfl (en rfl (en rfl (en rfl (en rfl (en rfl (en rfl (en rfl (en rfl (en rfl (en rfl (en rfl (en rfl (en rfl (en rfl (en rfl (en rfl (en rfl (en rfl (en rfl s6)))))))))))))))))))))))))))))))))))))))))))))))))))))))))))))))))))))
    have s8 := (hg 8).trans (en rfl (en rfl (en rfl (en rfl (en rfl (en rfl (en rfl (en rfl (en rfl (en rfl (en rfl (en rfl (en rfl (en rfl (en rfl (en rfl (en rfl (en rfl (en rfl (en rfl (en rfl (en rfl (en rfl (en rfl (en rfl (en rfl (en rfl (en rfl (en rfl (en rfl (en rfl (en rfl (en rfl (en rfl (en rfl (en rfl (en rfl (en rfl (en rfl (en rfl (en rfl (en rfl (en rfl (en rfl (en rfl (en rfl (en rfl (en rfl (en rfl (en rfl (en rfl (en rfl (en rfl (en rfl (en rfl (en rfl (en rfl (en rfl (en rfl (en rfl (en rfl (en rfl (en rfl (en rfl (en rfl (en rfl (en rfl (en rfl (en rfl s8)))))))))))))))))))))))))))))))))))))))))))))))))))))))))))))))))))))
    have s12 := (hg 12).trans (en rfl (en rfl (en rfl (en rfl (en rfl (en rfl (en rfl (en rfl (en rfl (en rfl (en rfl (en rfl (en rfl (en rfl (en rfl (en rfl (en rfl (en rfl (en rfl (en rfl (en rfl (en rfl (en rfl (en rfl (en rfl (en rfl (en rfl (en rfl (en rfl (en rfl (en rfl (en rfl (en rfl (en rfl (en rfl (en rfl (en rfl (en rfl (en rfl (en rfl (en rfl (en rfl (en rfl (en rfl (en rfl (en rfl (en rfl (en rfl (en rfl (en rfl (en rfl (en rfl (en rfl (en rfl (en rfl (en rfl (en rfl (en rfl (en rfl (en rfl (en rfl (en rfl (en rfl (en rfl (en rfl (en rfl (en rfl (en rfl (en rfl s12)))))))))))))))))))))))))))))))))))))))))))))))))))))))))))))))))))))
    clear hg
    refine xc_ret ?_
    refine bodyR_1 rfl s2 ?_
    exact ⟨rfl, h.drop.drop.drop⟩
end
end Go.Proofs.Ytonnijghdlakfaa
