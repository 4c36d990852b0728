/-
Spans: the known case.
-/
import Derived.Test.YtbmdbjnkkbefmaaS6
namespace Go.Proofs.Ytbmdbjnkkbefmaa
open Go Go.RowKit
section
variable {E : Env} {R : List SProp} {w : World} {b B B' : Nat} {xs l : List X} {v v2 : Value} {ps : List RS}
theorem sat_eq {i : Int} {V : Value} (he : atV xs i = V) (hi : I64 i) (h : SatL E w (ObjO b xs B :: R)) : Calls Try.prog 12 #[pT b, .int .i64 i] w (Ret fun u w' => u = V ∧ SatL E w' (ObjO b xs B :: R)) := by
  subst he; exact sat_o hi h
theorem xrow_rslc {w0 : World} (h0 : SatL E w0 (XRow v l :: R)) : RSlc E (XRow v l :: R) v (l.map toR) := by
  have e : XRow v l = RRow v (l.map toR) := by unfold XRow RRow; rw [flat_toR, List.length_map]
  rw [e] at h0 ⊢
  exact rslc_row h0
theorem known_ok (h : SatL E w R) : Calls Try.prog 9 #[] w (Ret fun u w' => u = .bool true ∧ SatL E w' R) := by
  refine calls_x Try.func9 rfl Try.ntmps9 rfl ?_
  refine xc_gen (fun g hg => ?_)
  clear hg
  refine xc_seq (fun K hK1 => ?_)
  refine xc_region ?_
  refine x_val (r_assign ec) (nd_of rfl) rfl ?_
  refine xw_nil ?_
  refine hK1 _ _ ?_
  refine xc_gen (fun g hg => ?_)
  have s0 := (hg 0).trans es
  clear hg
  refine xc_seq (fun K hK2 => ?_)
  refine xc_region ?_
  refine x_enter (r_call Try.call8 .nil) (nd_of rfl) rfl (new_o h) ?_
  rintro _ w ⟨b, rfl, h⟩
  refine x_val (r_assign es) (nd_of rfl) rfl ?_
  refine xw_nil ?_
  refine hK2 _ _ ?_
  refine xc_gen (fun g hg => ?_)
  have s0 := (hg 0).trans (en rfl (en rfl s0))
  have s1 := (hg 1).trans es
  clear hg
  refine xc_seq (fun K hK3 => ?_)
  refine xc_seq (fun K hK4 => ?_)
  refine xc_region ?_
  refine x_val (r_move s1) (nd_of rfl) rfl ?_
  refine x_val (r_eqnil Try.underlying23 es ec (r := false) rfl) (nd_of rfl) rfl ?_
  refine x_val (r_move es) (nd_of rfl) rfl ?_
  refine x_take (d := 9) rfl rfl es ?_
  refine x_val (r_move (en rfl (en rfl (en rfl s1)))) (nd_of rfl) rfl ?_
  refine x_take (d := 9) rfl rfl (en rfl es) ?_
  refine x_val (r_build2 Try.underlying34 zX Try.sizeOf3 Try.sizeOf3 rfl rfl ec ec) (nd_of rfl) rfl ?_
  refine x_take (d := 9) rfl rfl (en rfl (en rfl es)) ?_
  refine x_val (r_build2 Try.underlying34 zX Try.sizeOf3 Try.sizeOf3 rfl rfl ec ec) (nd_of rfl) rfl ?_
  refine x_take (d := 9) rfl rfl (en rfl (en rfl (en rfl es))) ?_
  refine x_val (r_build2 Try.underlying34 zX Try.sizeOf3 Try.sizeOf3 rfl rfl ec ec) (nd_of rfl) rfl ?_
  refine x_take (d := 9) rfl rfl (en rfl (en rfl (en rfl (en rfl es)))) ?_
  refine x_bsliceL (c := #[.int .i64 3, .int .i64 1, .int .i64 2, .int .i64 1, .int .i64 1, .int .i64 2]) h Try.underlying26 Try.sizeOf34 zX rfl (by kernel_rfl) rfl rfl rfl ?_; intro bs w h
  refine x_take (d := 9) rfl rfl (en rfl (en rfl (en rfl (en rfl (en rfl es))))) ?_
  have h := h.f1
  refine x_enter (r_call Try.call10 (.cons (en rfl (en rfl (en rfl (en rfl es)))) (.cons ec (.cons ec (.cons es .nil))))) (nd_of rfl) rfl (splice_o (B' := 10) (ps := [(3, 1), (2, 1), (1, 2)]) (rslc_cells rfl rfl) (by decide) (by simp [I64]) (by decide) (by decide) (by decide) h) ?_
  rintro _ w ⟨rfl, h⟩
  rw [show spliceS [] 0 0 [(3, 1), (2, 1), (1, 2)] = [(5, 1), (1, 2)] by decide] at h
  refine x_take (d := 9) rfl rfl (en rfl (en rfl (en rfl (en rfl (en rfl (en rfl es)))))) ?_
  refine x_val (r_neq es ec (r := false) rfl) (nd_of rfl) rfl ?_
  refine x_val (r_pick_f (en rfl (en rfl (en rfl (en rfl (en rfl (en rfl (en rfl es))))))) es) (nd_of rfl) rfl ?_
  refine x_val (r_move es) (nd_of rfl) rfl ?_
  refine x_take (d := 18) rfl rfl es ?_
  refine x_val (r_move (en rfl (en rfl (en rfl (en rfl (en rfl (en rfl (en rfl (en rfl (en rfl (en rfl (en rfl (en rfl s1))))))))))))) (nd_of rfl) rfl ?_
  refine x_take (d := 18) rfl rfl (en rfl es) ?_
  refine x_enter (r_call Try.call18 (.cons es .nil)) (nd_of rfl) rfl (count_o (by decide) h) ?_
  rintro _ w ⟨rfl, h⟩
  refine x_take (d := 18) rfl rfl (en rfl (en rfl es)) ?_
  refine x_val (r_neq es ec (r := false) rfl) (nd_of rfl) rfl ?_
  refine x_val (r_pick_f (en rfl (en rfl (en rfl es))) es) (nd_of rfl) rfl ?_
  refine x_val (r_move es) (nd_of rfl) rfl ?_
  refine x_take (d := 23) rfl rfl es ?_
  refine x_val (r_move (en rfl (en rfl (en rfl (en rfl (en rfl (en rfl (en rfl (en rfl (en rfl (en rfl (en rfl (en rfl (en rfl (en rfl (en rfl (en rfl (en rfl s1)))))))))))))))))) (nd_of rfl) rfl ?_
  refine x_take (d := 23) rfl rfl (en rfl es) ?_
  refine x_enter (r_call Try.call14 (.cons es .nil)) (nd_of rfl) rfl (len_o h) ?_
  rintro _ w ⟨rfl, h⟩
  refine x_take (d := 23) rfl rfl (en rfl (en rfl es)) ?_
  refine x_val (r_neq es ec (r := false) rfl) (nd_of rfl) rfl ?_
  refine x_val (r_pick_f (en rfl (en rfl (en rfl es))) es) (nd_of rfl) rfl ?_
  refine xw_nil ?_
  refine hK4 _ _ ?_
  refine xc_gen (fun g hg => ?_)
  have s0 := (hg 0).trans (en rfl (en rfl (en rfl (en rfl (en rfl (en rfl (en rfl (en rfl (en rfl (en rfl (en rfl (en rfl (en rfl (en rfl (en rfl (en rfl (en rfl (en rfl (en rfl (en rfl (en rfl s0)))))))))))))))))))))
  have s1 := (hg 1).trans (en rfl (en rfl (en rfl (en rfl (en rfl (en rfl (en rfl (en rfl (en rfl (en rfl (en rfl (en rfl (en rfl (en rfl (en rfl (en rfl (en rfl (en rfl (en rfl (en rfl (en rfl s1)))))))))))))))))))))
  have s27 := (hg 27).trans es
  clear hg
  refine xc_cond s27 (fun hc => by cases hc) (fun _ => ?_)
  refine xc_skip ?_
  refine hK3 _ _ ?_
  refine xc_seq (fun K hK5 => ?_)
  refine xc_region ?_
  refine x_val (r_move s1) (nd_of rfl) rfl ?_
  refine x_enter (r_call Try.call12 (.cons es (.cons ec .nil))) (nd_of rfl) rfl (sat_eq (V := .tuple #[.int .i64 2, .int .i64 0]) rfl (by unfold I64; omega) h) ?_
  rintro _ w ⟨rfl, h⟩
  refine x_val (r_move es) (nd_of rfl) rfl ?_
  refine x_val (r_extract es gc0) (nd_of rfl) rfl ?_
  refine x_val (r_extract (en rfl es) gc1) (nd_of rfl) rfl ?_
  refine x_val (r_assign (en rfl es)) (nd_of rfl) rfl ?_
  refine x_val (r_assign (en rfl es)) (nd_of rfl) rfl ?_
  refine xw_nil ?_
  refine hK5 _ _ ?_
  refine xc_gen (fun g hg => ?_)
  have s0 := (hg 0).trans (en rfl (en rfl (en rfl (en rfl (en rfl (en rfl (en rfl s0)))))))
  have s1 := (hg 1).trans (en rfl (en rfl (en rfl (en rfl (en rfl (en rfl (en rfl s1)))))))
  have s2 := (hg 2).trans (en rfl es)
  have s3 := (hg 3).trans es
  have s27 := (hg 27).trans (en rfl (en rfl (en rfl (en rfl (en rfl (en rfl (en rfl s27)))))))
  clear hg
  refine xc_seq (fun K hK6 => ?_)
  refine xc_seq (fun K hK7 => ?_)
  refine xc_region ?_
  refine x_val (r_move s2) (nd_of rfl) rfl ?_
  refine x_val (r_neq es ec (r := false) rfl) (nd_of rfl) rfl ?_
  refine x_val (r_move es) (nd_of rfl) rfl ?_
  refine x_take (d := 35) rfl rfl es ?_
  refine x_val (r_move (en rfl (en rfl (en rfl s3)))) (nd_of rfl) rfl ?_
  refine x_take (d := 35) rfl rfl (en rfl es) ?_
  refine x_val (r_neq es ec (r := false) rfl) (nd_of rfl) rfl ?_
  refine x_val (r_pick_f (en rfl (en rfl es)) es) (nd_of rfl) rfl ?_
  refine x_val (r_move es) (nd_of rfl) rfl ?_
  refine x_take (d := 39) rfl rfl es ?_
  refine x_val (r_move (en rfl (en rfl (en rfl (en rfl (en rfl (en rfl (en rfl s1)))))))) (nd_of rfl) rfl ?_
  refine x_take (d := 39) rfl rfl (en rfl es) ?_
  refine x_val (r_build2 Try.underlying34 zX Try.sizeOf3 Try.sizeOf3 rfl rfl ec ec) (nd_of rfl) rfl ?_
  refine x_take (d := 39) rfl rfl (en rfl (en rfl es)) ?_
  refine x_bsliceL (c := #[.int .i64 2, .int .i64 2]) h Try.underlying26 Try.sizeOf34 zX rfl (by kernel_rfl) rfl rfl rfl ?_; intro bt w h
  refine x_take (d := 39) rfl rfl (en rfl (en rfl (en rfl es))) ?_
  have h := h.f1
  refine x_enter (r_call Try.call10 (.cons (en rfl (en rfl es)) (.cons ec (.cons ec (.cons es .nil))))) (nd_of rfl) rfl (splice_o (B' := 20) (ps := [(2, 2)]) (rslc_cells rfl rfl) (by decide) (by simp [I64]) (by decide) (by decide) (by decide) h) ?_
  rintro _ w ⟨rfl, h⟩
  rw [show spliceS [(5, 1), (1, 2)] 1 4 [(2, 2)] = [(1, 1), (2, 2), (1, 1), (1, 2)] by decide] at h
  refine x_take (d := 39) rfl rfl (en rfl (en rfl (en rfl (en rfl es)))) ?_
  refine x_val (r_neq es ec (r := false) rfl) (nd_of rfl) rfl ?_
  refine x_val (r_pick_f (en rfl (en rfl (en rfl (en rfl (en rfl es))))) es) (nd_of rfl) rfl ?_
  refine xw_nil ?_
  refine hK7 _ _ ?_
  refine xc_gen (fun g hg => ?_)
  have s0 := (hg 0).trans (en rfl (en rfl (en rfl (en rfl (en rfl (en rfl (en rfl (en rfl (en rfl (en rfl (en rfl (en rfl (en rfl s0)))))))))))))
  have s1 := (hg 1).trans (en rfl (en rfl (en rfl (en rfl (en rfl (en rfl (en rfl (en rfl (en rfl (en rfl (en rfl (en rfl (en rfl s1)))))))))))))
  have s2 := (hg 2).trans (en rfl (en rfl (en rfl (en rfl (en rfl (en rfl (en rfl (en rfl (en rfl (en rfl (en rfl (en rfl (en rfl s2)))))))))))))
  have s3 := (hg 3).trans (en rfl (en rfl (en rfl (en rfl (en rfl (en rfl (en rfl (en rfl (en rfl (en rfl (en rfl (en rfl (en rfl s3)))))))))))))
  have s27 := (hg 27).trans (en rfl (en rfl (en rfl (en rfl (en rfl (en rfl (en rfl (en rfl (en rfl (en rfl (en rfl (en rfl (en rfl s27)))))))))))))
  have s45 := (hg 45).trans es
  clear hg
  refine xc_cond s45 (fun hc => by cases hc) (fun _ => ?_)
  refine xc_skip ?_
  refine hK6 _ _ ?_
  refine xc_seq (fun K hK8 => ?_)
  refine xc_region ?_
  refine x_val (r_move s1) (nd_of rfl) rfl ?_
  refine x_enter (r_call Try.call11 (.cons es (.cons ec (.cons ec .nil)))) (nd_of rfl) rfl (over_o (i := 0) (j := 4) (by decide) (by decide) h) ?_
  rintro _ w ⟨v, rfl, h⟩
  rw [show overL [(1, 1), (2, 2), (1, 1), (1, 2)] 0 4 = [(1, 1), (2, 2), (1, 1)] by decide] at h
  refine x_val (r_move es) (nd_of rfl) rfl ?_
  refine x_val (r_extract es gc0) (nd_of rfl) rfl ?_
  refine x_val (r_extract (en rfl es) gc1) (nd_of rfl) rfl ?_
  refine x_val (r_assign (en rfl es)) (nd_of rfl) rfl ?_
  refine x_val (r_assign (en rfl es)) (nd_of rfl) rfl ?_
  refine xw_nil ?_
  refine hK8 _ _ ?_
  refine xc_gen (fun g hg => ?_)
  have s0 := (hg 0).trans (en rfl (en rfl (en rfl (en rfl (en rfl (en rfl (en rfl s0)))))))
  have s1 := (hg 1).trans (en rfl (en rfl (en rfl (en rfl (en rfl (en rfl (en rfl s1)))))))
  have s2 := (hg 2).trans (en rfl (en rfl (en rfl (en rfl (en rfl (en rfl (en rfl s2)))))))
  have s3 := (hg 3).trans (en rfl (en rfl (en rfl (en rfl (en rfl (en rfl (en rfl s3)))))))
  have s4 := (hg 4).trans (en rfl es)
  have s5 := (hg 5).trans es
  have s27 := (hg 27).trans (en rfl (en rfl (en rfl (en rfl (en rfl (en rfl (en rfl s27)))))))
  have s45 := (hg 45).trans (en rfl (en rfl (en rfl (en rfl (en rfl (en rfl (en rfl s45)))))))
  clear hg
  refine xc_seq (fun K hK9 => ?_)
  refine xc_region ?_
  refine x_val (r_move s5) (nd_of rfl) rfl ?_
  refine x_val (r_eql es ec (r := true) rfl) (nd_of rfl) rfl ?_
  refine x_val (r_move es) (nd_of rfl) rfl ?_
  refine x_take (d := 53) rfl rfl es ?_
  refine x_val (r_move (en rfl (en rfl (en rfl s4)))) (nd_of rfl) rfl ?_
  refine x_take (d := 53) rfl rfl (en rfl es) ?_
  refine x_val (r_build2 Try.underlying34 zX Try.sizeOf3 Try.sizeOf3 rfl rfl ec ec) (nd_of rfl) rfl ?_
  refine x_take (d := 53) rfl rfl (en rfl (en rfl es)) ?_
  refine x_val (r_build2 Try.underlying34 zX Try.sizeOf3 Try.sizeOf3 rfl rfl ec ec) (nd_of rfl) rfl ?_
  refine x_take (d := 53) rfl rfl (en rfl (en rfl (en rfl es))) ?_
  refine x_val (r_build2 Try.underlying34 zX Try.sizeOf3 Try.sizeOf3 rfl rfl ec ec) (nd_of rfl) rfl ?_
  refine x_take (d := 53) rfl rfl (en rfl (en rfl (en rfl (en rfl es)))) ?_
  refine x_bsliceL (c := #[.int .i64 1, .int .i64 1, .int .i64 2, .int .i64 2, .int .i64 1, .int .i64 1]) h Try.underlying26 Try.sizeOf34 zX rfl (by kernel_rfl) rfl rfl rfl ?_; intro bu w h
  refine x_take (d := 53) rfl rfl (en rfl (en rfl (en rfl (en rfl (en rfl es))))) ?_
  refine x_enter (r_call Try.call21 (.cons (en rfl (en rfl (en rfl (en rfl es)))) (.cons es .nil))) (nd_of rfl) rfl (same_yes (ps := [(1, 1), (2, 2), (1, 1)]) (RSlc.weak (xrow_rslc h.drop)) (rslc_cells rfl rfl) (by simp [wfR, I64]) (by decide) h) ?_
  rintro _ w ⟨rfl, h⟩
  refine x_val (r_pick_t (en rfl (en rfl (en rfl (en rfl (en rfl (en rfl es)))))) es) (nd_of rfl) rfl ?_
  refine x_val (r_assign es) (nd_of rfl) rfl ?_
  refine xw_nil ?_
  refine hK9 _ _ ?_
  refine xc_gen (fun g hg => ?_)
  have s0 := (hg 0).trans es
  have s1 := (hg 1).trans (en rfl (en rfl (en rfl (en rfl (en rfl (en rfl (en rfl (en rfl (en rfl (en rfl (en rfl s1)))))))))))
  have s2 := (hg 2).trans (en rfl (en rfl (en rfl (en rfl (en rfl (en rfl (en rfl (en rfl (en rfl (en rfl (en rfl s2)))))))))))
  have s3 := (hg 3).trans (en rfl (en rfl (en rfl (en rfl (en rfl (en rfl (en rfl (en rfl (en rfl (en rfl (en rfl s3)))))))))))
  have s4 := (hg 4).trans (en rfl (en rfl (en rfl (en rfl (en rfl (en rfl (en rfl (en rfl (en rfl (en rfl (en rfl s4)))))))))))
  have s5 := (hg 5).trans (en rfl (en rfl (en rfl (en rfl (en rfl (en rfl (en rfl (en rfl (en rfl (en rfl (en rfl s5)))))))))))
  have s27 := (hg 27).trans (en rfl (en rfl (en rfl (en rfl (en rfl (en rfl (en rfl (en rfl (en rfl (en rfl (en rfl s27)))))))))))
  have s45 := (hg 45).trans (en rfl (en rfl (en rfl (en rfl (en rfl (en rfl (en rfl (en rfl (en rfl (en rfl (en rfl s45)))))))))))
  clear hg
  refine xc_ret ?_
  refine bodyR_1 rfl s0 ?_
  exact ⟨rfl, h.drop.drop.drop.drop.drop⟩
end
end Go.Proofs.Ytbmdbjnkkbefmaa
