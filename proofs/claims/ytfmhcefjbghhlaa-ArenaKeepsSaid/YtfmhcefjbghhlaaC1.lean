/-
The known case of the arenas.
-/
import Derived.Test.YtfmhcefjbghhlaaX7
import Derived.Test.YtfmhcefjbghhlaaB1i
import Derived.Test.YtfmhcefjbghhlaaB1s
namespace Go.Proofs.Ytfmhcefjbghhlaa
open Go Go.RowKit
section
variable {E : Env} {R : List SProp} {w : World}
theorem known_ok (h : SatL E w R) : Calls Try.prog 7 #[] w (Ret fun v w' => v = .bool true ∧ SatL E w' R) := by
  refine calls_x Try.func7 rfl Try.ntmps7 rfl ?_
  refine xc_gen (fun g hg => ?_)
  clear hg
  refine xc_seq (fun K hK1 => ?_)
  refine xc_region ?_
  refine x_val (r_assign ec) (nd_of rfl) rfl ?_
  refine xw_nil ?_
  refine hK1 _ _ ?_
  refine xc_gen (fun g hg => ?_)
  have s0 := (hg 0).trans es
  clear hg
  refine xc_seq (fun K hK2 => ?_)
  refine xc_region ?_
  refine x_enter (r_call Try.call13 .nil) (nd_of rfl) rfl (S.new_ok h) ?_
  rintro _ w ⟨ba, rfl, h⟩
  refine x_val (r_assign es) (nd_of rfl) rfl ?_
  refine xw_nil ?_
  refine hK2 _ _ ?_
  refine xc_gen (fun g hg => ?_)
  have s0 := (hg 0).trans (en rfl (en rfl s0))
  have s1 := (hg 1).trans es
  clear hg
  refine xc_seq (fun K hK3 => ?_)
  refine xc_seq (fun K hK4 => ?_)
  refine xc_region ?_
  refine x_val (r_move s1) (nd_of rfl) rfl ?_
  refine x_val (r_eqnil Try.underlying33 es ec (r := false) rfl) (nd_of rfl) rfl ?_
  refine xw_nil ?_
  refine hK4 _ _ ?_
  refine xc_gen (fun g hg => ?_)
  have s0 := (hg 0).trans (en rfl (en rfl s0))
  have s1 := (hg 1).trans (en rfl (en rfl s1))
  have s14 := (hg 14).trans es
  clear hg
  refine xc_cond s14 (fun hc => by cases hc) (fun _ => ?_)
  refine xc_skip ?_
  refine hK3 _ _ ?_
  refine xc_seq (fun K hK5 => ?_)
  refine xc_region ?_
  refine x_val (r_move s1) (nd_of rfl) rfl ?_
  refine x_enter (r_call Try.call15 (.cons es (.cons ec .nil))) (nd_of rfl) rfl (S.take_new (by decide) h) ?_
  rintro _ w ⟨rfl, h⟩
  refine x_val (r_move (en rfl (en rfl s1))) (nd_of rfl) rfl ?_
  refine x_enter (r_call Try.call15 (.cons es (.cons ec .nil))) (nd_of rfl) rfl (S.take_new (by decide) h) ?_
  rintro _ w ⟨rfl, h⟩
  refine x_val (r_move (en rfl (en rfl (en rfl (en rfl s1))))) (nd_of rfl) rfl ?_
  refine x_enter (r_call Try.call15 (.cons es (.cons ec .nil))) (nd_of rfl) rfl (S.take_new (by decide) h) ?_
  rintro _ w ⟨rfl, h⟩
  refine x_val (r_assign (en rfl (en rfl (en rfl (en rfl es))))) (nd_of rfl) rfl ?_
  refine x_val (r_assign (en rfl (en rfl (en rfl es)))) (nd_of rfl) rfl ?_
  refine x_val (r_assign (en rfl (en rfl es))) (nd_of rfl) rfl ?_
  refine xw_nil ?_
  refine hK5 _ _ ?_
  refine xc_gen (fun g hg => ?_)
  have s0 := (hg 0).trans (en rfl (en rfl (en rfl (en rfl (en rfl (en rfl (en rfl (en rfl (en rfl s0)))))))))
  have s1 := (hg 1).trans (en rfl (en rfl (en rfl (en rfl (en rfl (en rfl (en rfl (en rfl (en rfl s1)))))))))
  have s2 := (hg 2).trans (en rfl (en rfl es))
  have s3 := (hg 3).trans (en rfl es)
  have s4 := (hg 4).trans es
  have s14 := (hg 14).trans (en rfl (en rfl (en rfl (en rfl (en rfl (en rfl (en rfl (en rfl (en rfl s14)))))))))
  clear hg
  refine xc_seq (fun K hK6 => ?_)
  refine xc_seq (fun K hK7 => ?_)
  refine xc_region ?_
  refine x_val (r_move s2) (nd_of rfl) rfl ?_
  refine x_val (r_neq es ec (r := false) rfl) (nd_of rfl) rfl ?_
  refine x_val (r_move es) (nd_of rfl) rfl ?_
  refine x_take (d := 23) rfl rfl es ?_
  refine x_val (r_move (en rfl (en rfl (en rfl s3)))) (nd_of rfl) rfl ?_
  refine x_take (d := 23) rfl rfl (en rfl es) ?_
  refine x_val (r_neq es ec (r := false) rfl) (nd_of rfl) rfl ?_
  refine x_val (r_pick_f (en rfl (en rfl es)) es) (nd_of rfl) rfl ?_
  refine x_val (r_move es) (nd_of rfl) rfl ?_
  refine x_take (d := 27) rfl rfl es ?_
  refine x_val (r_move (en rfl (en rfl (en rfl (en rfl (en rfl (en rfl (en rfl s4)))))))) (nd_of rfl) rfl ?_
  refine x_take (d := 27) rfl rfl (en rfl es) ?_
  refine x_val (r_neq es ec (r := false) rfl) (nd_of rfl) rfl ?_
  refine x_val (r_pick_f (en rfl (en rfl es)) es) (nd_of rfl) rfl ?_
  refine x_val (r_move es) (nd_of rfl) rfl ?_
  refine x_take (d := 31) rfl rfl es ?_
  refine x_val (r_move (en rfl (en rfl (en rfl (en rfl (en rfl (en rfl (en rfl (en rfl (en rfl (en rfl (en rfl s1)))))))))))) (nd_of rfl) rfl ?_
  refine x_take (d := 31) rfl rfl (en rfl es) ?_
  refine x_enter (r_call Try.call16 (.cons es (.cons ec .nil))) (nd_of rfl) rfl (S.free_ok (i := 0) rfl (by decide) h) ?_
  rintro _ w ⟨rfl, h⟩
  refine x_take (d := 31) rfl rfl (en rfl (en rfl es)) ?_
  refine x_val (r_neq es ec (r := false) rfl) (nd_of rfl) rfl ?_
  refine x_val (r_pick_f (en rfl (en rfl (en rfl es))) es) (nd_of rfl) rfl ?_
  refine x_val (r_move es) (nd_of rfl) rfl ?_
  refine x_take (d := 36) rfl rfl es ?_
  refine x_val (r_move (en rfl (en rfl (en rfl (en rfl (en rfl (en rfl (en rfl (en rfl (en rfl (en rfl (en rfl (en rfl (en rfl (en rfl (en rfl (en rfl s1))))))))))))))))) (nd_of rfl) rfl ?_
  refine x_take (d := 36) rfl rfl (en rfl es) ?_
  refine x_enter (r_call Try.call16 (.cons es (.cons ec .nil))) (nd_of rfl) rfl (S.free_ok (i := 2) rfl (by decide) h) ?_
  rintro _ w ⟨rfl, h⟩
  refine x_take (d := 36) rfl rfl (en rfl (en rfl es)) ?_
  refine x_val (r_neq es ec (r := false) rfl) (nd_of rfl) rfl ?_
  refine x_val (r_pick_f (en rfl (en rfl (en rfl es))) es) (nd_of rfl) rfl ?_
  refine xw_nil ?_
  refine hK7 _ _ ?_
  refine xc_gen (fun g hg => ?_)
  have s0 := (hg 0).trans (en rfl (en rfl (en rfl (en rfl (en rfl (en rfl (en rfl (en rfl (en rfl (en rfl (en rfl (en rfl (en rfl (en rfl (en rfl (en rfl (en rfl (en rfl (en rfl (en rfl s0))))))))))))))))))))
  have s1 := (hg 1).trans (en rfl (en rfl (en rfl (en rfl (en rfl (en rfl (en rfl (en rfl (en rfl (en rfl (en rfl (en rfl (en rfl (en rfl (en rfl (en rfl (en rfl (en rfl (en rfl (en rfl s1))))))))))))))))))))
  have s2 := (hg 2).trans (en rfl (en rfl (en rfl (en rfl (en rfl (en rfl (en rfl (en rfl (en rfl (en rfl (en rfl (en rfl (en rfl (en rfl (en rfl (en rfl (en rfl (en rfl (en rfl (en rfl s2))))))))))))))))))))
  have s3 := (hg 3).trans (en rfl (en rfl (en rfl (en rfl (en rfl (en rfl (en rfl (en rfl (en rfl (en rfl (en rfl (en rfl (en rfl (en rfl (en rfl (en rfl (en rfl (en rfl (en rfl (en rfl s3))))))))))))))))))))
  have s4 := (hg 4).trans (en rfl (en rfl (en rfl (en rfl (en rfl (en rfl (en rfl (en rfl (en rfl (en rfl (en rfl (en rfl (en rfl (en rfl (en rfl (en rfl (en rfl (en rfl (en rfl (en rfl s4))))))))))))))))))))
  have s14 := (hg 14).trans (en rfl (en rfl (en rfl (en rfl (en rfl (en rfl (en rfl (en rfl (en rfl (en rfl (en rfl (en rfl (en rfl (en rfl (en rfl (en rfl (en rfl (en rfl (en rfl (en rfl s14))))))))))))))))))))
  have s40 := (hg 40).trans es
  clear hg
  refine xc_cond s40 (fun hc => by cases hc) (fun _ => ?_)
  refine xc_skip ?_
  refine hK6 _ _ ?_
  refine xc_seq (fun K hK8 => ?_)
  refine xc_region ?_
  refine x_val (r_move s1) (nd_of rfl) rfl ?_
  refine x_enter (r_call Try.call15 (.cons es (.cons ec .nil))) (nd_of rfl) rfl (S.take_free (by decide) h) ?_
  rintro _ w ⟨rfl, h⟩
  refine x_val (r_move (en rfl (en rfl s1))) (nd_of rfl) rfl ?_
  refine x_enter (r_call Try.call15 (.cons es (.cons ec .nil))) (nd_of rfl) rfl (S.take_free (by decide) h) ?_
  rintro _ w ⟨rfl, h⟩
  refine x_val (r_move (en rfl (en rfl (en rfl (en rfl s1))))) (nd_of rfl) rfl ?_
  refine x_enter (r_call Try.call15 (.cons es (.cons ec .nil))) (nd_of rfl) rfl (S.take_new (by decide) h) ?_
  rintro _ w ⟨rfl, h⟩
  refine x_val (r_assign (en rfl (en rfl (en rfl (en rfl es))))) (nd_of rfl) rfl ?_
  refine x_val (r_assign (en rfl (en rfl (en rfl es)))) (nd_of rfl) rfl ?_
  refine x_val (r_assign (en rfl (en rfl es))) (nd_of rfl) rfl ?_
  refine xw_nil ?_
  refine hK8 _ _ ?_
  refine xc_gen (fun g hg => ?_)
  have s0 := (hg 0).trans (en rfl (en rfl (en rfl (en rfl (en rfl (en rfl (en rfl (en rfl (en rfl s0)))))))))
  have s1 := (hg 1).trans (en rfl (en rfl (en rfl (en rfl (en rfl (en rfl (en rfl (en rfl (en rfl s1)))))))))
  have s2 := (hg 2).trans (en rfl (en rfl (en rfl (en rfl (en rfl (en rfl (en rfl (en rfl (en rfl s2)))))))))
  have s3 := (hg 3).trans (en rfl (en rfl (en rfl (en rfl (en rfl (en rfl (en rfl (en rfl (en rfl s3)))))))))
  have s4 := (hg 4).trans (en rfl (en rfl (en rfl (en rfl (en rfl (en rfl (en rfl (en rfl (en rfl s4)))))))))
  have s5 := (hg 5).trans (en rfl (en rfl es))
  have s6 := (hg 6).trans (en rfl es)
  have s7 := (hg 7).trans es
  have s14 := (hg 14).trans (en rfl (en rfl (en rfl (en rfl (en rfl (en rfl (en rfl (en rfl (en rfl s14)))))))))
  have s40 := (hg 40).trans (en rfl (en rfl (en rfl (en rfl (en rfl (en rfl (en rfl (en rfl (en rfl s40)))))))))
  clear hg
  refine xc_seq (fun K hK9 => ?_)
  refine xc_region ?_
  refine x_val (r_move s1) (nd_of rfl) rfl ?_
  refine x_enter (r_call Try.call18 (.cons es (.cons ec .nil))) (nd_of rfl) rfl (S.at_ok (i := 2) (x := ⟨#[100]⟩) rfl h) ?_
  rintro _ w ⟨rfl, h⟩
  refine x_val (r_move es) (nd_of rfl) rfl ?_
  refine x_val (r_extract es gc0) (nd_of rfl) rfl ?_
  refine x_val (r_extract (en rfl es) gc1) (nd_of rfl) rfl ?_
  refine x_val (r_assign (en rfl es)) (nd_of rfl) rfl ?_
  refine x_val (r_assign (en rfl es)) (nd_of rfl) rfl ?_
  refine xw_nil ?_
  refine hK9 _ _ ?_
  refine xc_gen (fun g hg => ?_)
  have s0 := (hg 0).trans (en rfl (en rfl (en rfl (en rfl (en rfl (en rfl (en rfl s0)))))))
  have s1 := (hg 1).trans (en rfl (en rfl (en rfl (en rfl (en rfl (en rfl (en rfl s1)))))))
  have s2 := (hg 2).trans (en rfl (en rfl (en rfl (en rfl (en rfl (en rfl (en rfl s2)))))))
  have s3 := (hg 3).trans (en rfl (en rfl (en rfl (en rfl (en rfl (en rfl (en rfl s3)))))))
  have s4 := (hg 4).trans (en rfl (en rfl (en rfl (en rfl (en rfl (en rfl (en rfl s4)))))))
  have s5 := (hg 5).trans (en rfl (en rfl (en rfl (en rfl (en rfl (en rfl (en rfl s5)))))))
  have s6 := (hg 6).trans (en rfl (en rfl (en rfl (en rfl (en rfl (en rfl (en rfl s6)))))))
  have s7 := (hg 7).trans (en rfl (en rfl (en rfl (en rfl (en rfl (en rfl (en rfl s7)))))))
  have s8 := (hg 8).trans (en rfl es)
  have s9 := (hg 9).trans es
  have s14 := (hg 14).trans (en rfl (en rfl (en rfl (en rfl (en rfl (en rfl (en rfl s14)))))))
  have s40 := (hg 40).trans (en rfl (en rfl (en rfl (en rfl (en rfl (en rfl (en rfl s40)))))))
  clear hg
  refine xc_seq (fun K hK10 => ?_)
  refine xc_region ?_
  refine x_val (r_move s1) (nd_of rfl) rfl ?_
  refine x_enter (r_call Try.call18 (.cons es (.cons ec .nil))) (nd_of rfl) rfl (S.at_no (i := 5) (by rintro ⟨n, c, e, hh⟩; obtain rfl : n = 5 := (by omega); cases hh) h) ?_
  rintro _ w ⟨rfl, h⟩
  refine x_val (r_move es) (nd_of rfl) rfl ?_
  refine x_val (r_extract es gc0) (nd_of rfl) rfl ?_
  refine x_val (r_extract (en rfl es) gc1) (nd_of rfl) rfl ?_
  refine x_val (r_assign (en rfl es)) (nd_of rfl) rfl ?_
  refine x_val (r_assign (en rfl es)) (nd_of rfl) rfl ?_
  refine xw_nil ?_
  refine hK10 _ _ ?_
  refine xc_gen (fun g hg => ?_)
  have s0 := (hg 0).trans (en rfl (en rfl (en rfl (en rfl (en rfl (en rfl (en rfl s0)))))))
  have s1 := (hg 1).trans (en rfl (en rfl (en rfl (en rfl (en rfl (en rfl (en rfl s1)))))))
  have s2 := (hg 2).trans (en rfl (en rfl (en rfl (en rfl (en rfl (en rfl (en rfl s2)))))))
  have s3 := (hg 3).trans (en rfl (en rfl (en rfl (en rfl (en rfl (en rfl (en rfl s3)))))))
  have s4 := (hg 4).trans (en rfl (en rfl (en rfl (en rfl (en rfl (en rfl (en rfl s4)))))))
  have s5 := (hg 5).trans (en rfl (en rfl (en rfl (en rfl (en rfl (en rfl (en rfl s5)))))))
  have s6 := (hg 6).trans (en rfl (en rfl (en rfl (en rfl (en rfl (en rfl (en rfl s6)))))))
  have s7 := (hg 7).trans (en rfl (en rfl (en rfl (en rfl (en rfl (en rfl (en rfl s7)))))))
  have s8 := (hg 8).trans (en rfl (en rfl (en rfl (en rfl (en rfl (en rfl (en rfl s8)))))))
  have s9 := (hg 9).trans (en rfl (en rfl (en rfl (en rfl (en rfl (en rfl (en rfl s9)))))))
  have s11 := (hg 11).trans es
  have s14 := (hg 14).trans (en rfl (en rfl (en rfl (en rfl (en rfl (en rfl (en rfl s14)))))))
  have s40 := (hg 40).trans (en rfl (en rfl (en rfl (en rfl (en rfl (en rfl (en rfl s40)))))))
  clear hg
  refine xc_seq (fun K hK11 => ?_)
  refine xc_region ?_
  refine x_val (r_move s5) (nd_of rfl) rfl ?_
  refine x_val (r_eql es ec (r := true) rfl) (nd_of rfl) rfl ?_
  refine x_val (r_move es) (nd_of rfl) rfl ?_
  refine x_take (d := 59) rfl rfl es ?_
  refine x_val (r_move (en rfl (en rfl (en rfl s6)))) (nd_of rfl) rfl ?_
  refine x_take (d := 59) rfl rfl (en rfl es) ?_
  refine x_val (r_eql es ec (r := true) rfl) (nd_of rfl) rfl ?_
  refine x_val (r_pick_t (en rfl (en rfl es)) es) (nd_of rfl) rfl ?_
  refine x_val (r_move es) (nd_of rfl) rfl ?_
  refine x_take (d := 63) rfl rfl es ?_
  refine x_val (r_move (en rfl (en rfl (en rfl (en rfl (en rfl (en rfl (en rfl s7)))))))) (nd_of rfl) rfl ?_
  refine x_take (d := 63) rfl rfl (en rfl es) ?_
  refine x_val (r_eql es ec (r := true) rfl) (nd_of rfl) rfl ?_
  refine x_val (r_pick_t (en rfl (en rfl es)) es) (nd_of rfl) rfl ?_
  refine x_val (r_move es) (nd_of rfl) rfl ?_
  refine x_take (d := 67) rfl rfl es ?_
  refine x_val (r_move (en rfl (en rfl (en rfl (en rfl (en rfl (en rfl (en rfl (en rfl (en rfl (en rfl (en rfl s8)))))))))))) (nd_of rfl) rfl ?_
  refine x_take (d := 67) rfl rfl (en rfl es) ?_
  refine x_val (r_eqs (r := true) es rfl (beq_self_eq_true _)) (nd_of rfl) rfl ?_
  refine x_val (r_pick_t (en rfl (en rfl es)) es) (nd_of rfl) rfl ?_
  refine x_val (r_move es) (nd_of rfl) rfl ?_
  refine x_take (d := 71) rfl rfl es ?_
  refine x_val (r_move (en rfl (en rfl (en rfl (en rfl (en rfl (en rfl (en rfl (en rfl (en rfl (en rfl (en rfl (en rfl (en rfl (en rfl (en rfl s9)))))))))))))))) (nd_of rfl) rfl ?_
  refine x_take (d := 71) rfl rfl (en rfl es) ?_
  refine x_val (r_eql es ec (r := true) rfl) (nd_of rfl) rfl ?_
  refine x_val (r_pick_t (en rfl (en rfl es)) es) (nd_of rfl) rfl ?_
  refine x_val (r_move es) (nd_of rfl) rfl ?_
  refine x_take (d := 75) rfl rfl es ?_
  refine x_val (r_move (en rfl (en rfl (en rfl (en rfl (en rfl (en rfl (en rfl (en rfl (en rfl (en rfl (en rfl (en rfl (en rfl (en rfl (en rfl (en rfl (en rfl (en rfl (en rfl s11)))))))))))))))))))) (nd_of rfl) rfl ?_
  refine x_take (d := 75) rfl rfl (en rfl es) ?_
  refine x_val (r_eql es ec (r := true) rfl) (nd_of rfl) rfl ?_
  refine x_val (r_pick_t (en rfl (en rfl es)) es) (nd_of rfl) rfl ?_
  refine x_val (r_move es) (nd_of rfl) rfl ?_
  refine x_take (d := 79) rfl rfl es ?_
  refine x_val (r_move (en rfl (en rfl (en rfl (en rfl (en rfl (en rfl (en rfl (en rfl (en rfl (en rfl (en rfl (en rfl (en rfl (en rfl (en rfl (en rfl (en rfl (en rfl (en rfl (en rfl (en rfl (en rfl (en rfl s1)))))))))))))))))))))))) (nd_of rfl) rfl ?_
  refine x_take (d := 79) rfl rfl (en rfl es) ?_
  refine x_enter (r_call Try.call16 (.cons es (.cons ec .nil))) (nd_of rfl) rfl (S.free_no (i := 9) (by rintro ⟨n, c, e, hh⟩; obtain rfl : n = 9 := (by omega); cases hh) h) ?_
  rintro _ w ⟨rfl, h⟩
  refine x_take (d := 79) rfl rfl (en rfl (en rfl es)) ?_
  refine x_val (r_eql es ec (r := true) rfl) (nd_of rfl) rfl ?_
  refine x_val (r_pick_t (en rfl (en rfl (en rfl es))) es) (nd_of rfl) rfl ?_
  refine x_val (r_move es) (nd_of rfl) rfl ?_
  refine x_take (d := 84) rfl rfl es ?_
  refine x_val (r_move (en rfl (en rfl (en rfl (en rfl (en rfl (en rfl (en rfl (en rfl (en rfl (en rfl (en rfl (en rfl (en rfl (en rfl (en rfl (en rfl (en rfl (en rfl (en rfl (en rfl (en rfl (en rfl (en rfl (en rfl (en rfl (en rfl (en rfl (en rfl s1))))))))))))))))))))))))))))) (nd_of rfl) rfl ?_
  refine x_take (d := 84) rfl rfl (en rfl es) ?_
  refine x_enter (r_call Try.call19 (.cons es .nil)) (nd_of rfl) rfl (S.len_ok h (by decide)) ?_
  rintro _ w ⟨rfl, h⟩
  refine x_take (d := 84) rfl rfl (en rfl (en rfl es)) ?_
  refine x_val (r_eql es ec (r := true) rfl) (nd_of rfl) rfl ?_
  refine x_val (r_pick_t (en rfl (en rfl (en rfl es))) es) (nd_of rfl) rfl ?_
  refine x_val (r_move es) (nd_of rfl) rfl ?_
  refine x_take (d := 89) rfl rfl es ?_
  refine x_val (r_move (en rfl (en rfl (en rfl (en rfl (en rfl (en rfl (en rfl (en rfl (en rfl (en rfl (en rfl (en rfl (en rfl (en rfl (en rfl (en rfl (en rfl (en rfl (en rfl (en rfl (en rfl (en rfl (en rfl (en rfl (en rfl (en rfl (en rfl (en rfl (en rfl (en rfl (en rfl (en rfl (en rfl s1)))))))))))))))))))))))))))))))))) (nd_of rfl) rfl ?_
  refine x_take (d := 89) rfl rfl (en rfl es) ?_
  refine x_enter (r_call Try.call20 (.cons es .nil)) (nd_of rfl) rfl (S.cap_ok h) ?_
  rintro _ w ⟨rfl, h⟩
  refine x_take (d := 89) rfl rfl (en rfl (en rfl es)) ?_
  refine x_val (r_eql es ec (r := true) rfl) (nd_of rfl) rfl ?_
  refine x_val (r_pick_t (en rfl (en rfl (en rfl es))) es) (nd_of rfl) rfl ?_
  refine x_val (r_assign es) (nd_of rfl) rfl ?_
  refine xw_nil ?_
  refine hK11 _ _ ?_
  refine xc_gen (fun g hg => ?_)
  have s0 := (hg 0).trans es
  have s1 := (hg 1).trans (en rfl (en rfl (en rfl (en rfl (en rfl (en rfl (en rfl (en rfl (en rfl (en rfl (en rfl (en rfl (en rfl (en rfl (en rfl (en rfl (en rfl (en rfl (en rfl (en rfl (en rfl (en rfl (en rfl (en rfl (en rfl (en rfl (en rfl (en rfl (en rfl (en rfl (en rfl (en rfl (en rfl (en rfl (en rfl (en rfl (en rfl (en rfl s1))))))))))))))))))))))))))))))))))))))
  have s2 := (hg 2).trans (en rfl (en rfl (en rfl (en rfl (en rfl (en rfl (en rfl (en rfl (en rfl (en rfl (en rfl (en rfl (en rfl (en rfl (en rfl (en rfl (en rfl (en rfl (en rfl (en rfl (en rfl (en rfl (en rfl (en rfl (en rfl (en rfl (en rfl (en rfl (en rfl (en rfl (en rfl (en rfl (en rfl (en rfl (en rfl (en rfl (en rfl (en rfl s2))))))))))))))))))))))))))))))))))))))
  have s3 := (hg 3).trans (en rfl (en rfl (en rfl (en rfl (en rfl (en rfl (en rfl (en rfl (en rfl (en rfl (en rfl (en rfl (en rfl (en rfl (en rfl (en rfl (en rfl (en rfl (en rfl (en rfl (en rfl (en rfl (en rfl (en rfl (en rfl (en rfl (en rfl (en rfl (en rfl (en rfl (en rfl (en rfl (en rfl (en rfl (en rfl (en rfl (en rfl (en rfl s3))))))))))))))))))))))))))))))))))))))
  have s4 := (hg 4).trans (en rfl (en rfl (en rfl (en rfl (en rfl (en rfl (en rfl (en rfl (en rfl (en rfl (en rfl (en rfl (en rfl (en rfl (en rfl (en rfl (en rfl (en rfl (en rfl (en rfl (en rfl (en rfl (en rfl (en rfl (en rfl (en rfl (en rfl (en rfl (en rfl (en rfl (en rfl (en rfl (en rfl (en rfl (en rfl (en rfl (en rfl (en rfl s4))))))))))))))))))))))))))))))))))))))
  have s5 := (hg 5).trans (en rfl (en rfl (en rfl (en rfl (en rfl (en rfl (en rfl (en rfl (en rfl (en rfl (en rfl (en rfl (en rfl (en rfl (en rfl (en rfl (en rfl (en rfl (en rfl (en rfl (en rfl (en rfl (en rfl (en rfl (en rfl (en rfl (en rfl (en rfl (en rfl (en rfl (en rfl (en rfl (en rfl (en rfl (en rfl (en rfl (en rfl (en rfl s5))))))))))))))))))))))))))))))))))))))
  have s6 := (hg 6).trans (en rfl (en rfl (en rfl (en rfl (en rfl (en rfl (en rfl (en rfl (en rfl (en rfl (en rfl (en rfl (en rfl (en rfl (en rfl (en rfl (en rfl (en rfl (en rfl (en rfl (en rfl (en rfl (en rfl (en rfl (en rfl (en rfl (en rfl (en rfl (en rfl (en rfl (en rfl (en rfl (en rfl (en rfl (en rfl (en rfl (en rfl (en rfl s6))))))))))))))))))))))))))))))))))))))
  have s7 := (hg 7).trans (en rfl (en rfl (en rfl (en rfl (en rfl (en rfl (en rfl (en rfl (en rfl (en rfl (en rfl (en rfl (en rfl (en rfl (en rfl (en rfl (en rfl (en rfl (en rfl (en rfl (en rfl (en rfl (en rfl (en rfl (en rfl (en rfl (en rfl (en rfl (en rfl (en rfl (en rfl (en rfl (en rfl (en rfl (en rfl (en rfl (en rfl (en rfl s7))))))))))))))))))))))))))))))))))))))
  have s8 := (hg 8).trans (en rfl (en rfl (en rfl (en rfl (en rfl (en rfl (en rfl (en rfl (en rfl (en rfl (en rfl (en rfl (en rfl (en rfl (en rfl (en rfl (en rfl (en rfl (en rfl (en rfl (en rfl (en rfl (en rfl (en rfl (en rfl (en rfl (en rfl (en rfl (en rfl (en rfl (en rfl (en rfl (en rfl (en rfl (en rfl (en rfl (en rfl (en rfl s8))))))))))))))))))))))))))))))))))))))
  have s9 := (hg 9).trans (en rfl (en rfl (en rfl (en rfl (en rfl (en rfl (en rfl (en rfl (en rfl (en rfl (en rfl (en rfl (en rfl (en rfl (en rfl (en rfl (en rfl (en rfl (en rfl (en rfl (en rfl (en rfl (en rfl (en rfl (en rfl (en rfl (en rfl (en rfl (en rfl (en rfl (en rfl (en rfl (en rfl (en rfl (en rfl (en rfl (en rfl (en rfl s9))))))))))))))))))))))))))))))))))))))
  have s11 := (hg 11).trans (en rfl (en rfl (en rfl (en rfl (en rfl (en rfl (en rfl (en rfl (en rfl (en rfl (en rfl (en rfl (en rfl (en rfl (en rfl (en rfl (en rfl (en rfl (en rfl (en rfl (en rfl (en rfl (en rfl (en rfl (en rfl (en rfl (en rfl (en rfl (en rfl (en rfl (en rfl (en rfl (en rfl (en rfl (en rfl (en rfl (en rfl (en rfl s11))))))))))))))))))))))))))))))))))))))
  have s14 := (hg 14).trans (en rfl (en rfl (en rfl (en rfl (en rfl (en rfl (en rfl (en rfl (en rfl (en rfl (en rfl (en rfl (en rfl (en rfl (en rfl (en rfl (en rfl (en rfl (en rfl (en rfl (en rfl (en rfl (en rfl (en rfl (en rfl (en rfl (en rfl (en rfl (en rfl (en rfl (en rfl (en rfl (en rfl (en rfl (en rfl (en rfl (en rfl (en rfl s14))))))))))))))))))))))))))))))))))))))
  have s40 := (hg 40).trans (en rfl (en rfl (en rfl (en rfl (en rfl (en rfl (en rfl (en rfl (en rfl (en rfl (en rfl (en rfl (en rfl (en rfl (en rfl (en rfl (en rfl (en rfl (en rfl (en rfl (en rfl (en rfl (en rfl (en rfl (en rfl (en rfl (en rfl (en rfl (en rfl (en rfl (en rfl (en rfl (en rfl (en rfl (en rfl (en rfl (en rfl (en rfl s40))))))))))))))))))))))))))))))))))))))
  clear hg
  refine xc_ret ?_
  refine bodyR_1 rfl s0 ?_
  exact ⟨rfl, h.drop⟩
end
end Go.Proofs.Ytfmhcefjbghhlaa
