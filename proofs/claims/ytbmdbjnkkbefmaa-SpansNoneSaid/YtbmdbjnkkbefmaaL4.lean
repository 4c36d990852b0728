/-
SpansNone: the walk.
-/
import Derived.Test.YtbmdbjnkkbefmaaS9
import Derived.Test.YtbmdbjnkkbefmaaR12
namespace Go.Proofs.Ytbmdbjnkkbefmaa
open Go Go.RowKit
theorem spliceE_one {N : Int} : spliceE [] 0 0 [(N, 1)] = if N < 0 then 3 else if 536870912 < N then 8 else 0 := by
  unfold spliceE
  simp [badR, isPart, sz, sumR]
theorem spliceE_big {xs : List X} : spliceE xs 0 0 [(1, 2), (536870912, 3)] = 8 := by
  unfold spliceE
  rw [if_neg (by decide), if_neg (fun hh => hh ⟨by omega, by omega, by omega⟩), if_pos (by simp [sumR]; omega)]
theorem spliceS_big {xs : List X} : spliceS xs 0 0 [(1, 2), (536870912, 3)] = xs := by
  unfold spliceS
  rw [if_neg (by rw [spliceE_big]; decide)]
theorem none_size {N : Int} : sz (spliceS [] 0 0 [(N, 1)]) ≤ 536870912 := by
  by_cases he : spliceE [] 0 0 [(N, 1)] = 0
  · have h := sz_splice he
    have h2 := (spliceE_zero he).2.2
    simp [sz] at h h2
    omega
  · unfold spliceS
    rw [if_neg he]; decide
theorem none_len {N : Int} : (spliceS [] 0 0 [(N, 1)]).length ≤ 2 := by
  unfold spliceS
  split
  · have h := replL_len [] 0 0 ([(N, 1)].map toX)
    simpa using h
  · simp
section
variable {P : Program} {f : Nat → Value} {w : World} {d : Option Tmp} {ty : TypeId} {pos : String} {af : Array Edge} {g : Option (Tmp × Bool)}
theorem r_eqnilF {t yt : TypeId} {ps rs : Array TypeId} {vd : Bool} {x y : Operand} {fn : Fn} {us vs : Array Value} (hu : P.underlying t = some (.func ps rs vd)) (hx : ev f x = .func fn us vs) (hy : ev f y = .nilFunc) :
    (execOp (ev f) ⟨d, .binOp .eql t x y yt, ty, pos, af, g⟩).run P w = .ok (.value (.bool false)) w := by
  have e : (Op.equal t (.func fn us vs) .nilFunc).run P w = .ok false w := by
    have e1 : ∀ d, (Op.equalIn (d + 1) t (.func fn us vs) .nilFunc).run P w = .ok false w := fun d => by simp [Op.equalIn, run_underlying hu]
    exact e1 9999
  simp [execOp, hx, hy, eqGuard, binOp, e]
end
section
variable {E : Env} {R : List SProp} {w : World} {W : World} {o : OpV} {N : Int}
theorem height_nil (h : SatL E w R) : Calls Try.prog 19 #[.pointer none] w (Ret fun v w' => v = .int .i64 0 ∧ SatL E w' R) := by
  refine calls_x Try.func19 rfl Try.ntmps19 rfl ?_
  refine xc_gen (fun g hg => ?_)
  have s0 := (hg 0).trans arg0
  clear hg
  refine xc_seq (fun K hK1 => ?_)
  refine xc_region ?_
  refine x_val (r_assign ec) (nd_of rfl) rfl ?_
  refine xw_nil ?_
  refine hK1 _ _ ?_
  refine xc_gen (fun g hg => ?_)
  have s0 := (hg 0).trans (en rfl s0)
  have s2 := (hg 2).trans es
  clear hg
  refine xc_seq (fun K hK2 => ?_)
  refine xc_seq (fun K hK3 => ?_)
  refine xc_region ?_
  refine x_val (r_move s0) (nd_of rfl) rfl ?_
  refine x_val (r_eqnil Try.underlying23 es ec (r := true) rfl) (nd_of rfl) rfl ?_
  refine xw_nil ?_
  refine hK3 _ _ ?_
  refine xc_gen (fun g hg => ?_)
  have s0 := (hg 0).trans (en rfl (en rfl s0))
  have s2 := (hg 2).trans (en rfl (en rfl s2))
  have s4 := (hg 4).trans es
  clear hg
  refine xc_cond s4 (fun _ => ?_) (fun hc => by cases hc)
  refine xc_seq (fun K hK4 => ?_)
  refine xc_region ?_
  refine x_val (r_assign ec) (nd_of rfl) rfl ?_
  refine xw_nil ?_
  refine hK4 _ _ ?_
  refine xc_gen (fun g hg => ?_)
  have s0 := (hg 0).trans (en rfl s0)
  have s2 := (hg 2).trans es
  have s4 := (hg 4).trans (en rfl s4)
  clear hg
  refine xc_ret ?_
  refine bodyR_1 rfl s2 ?_
  exact ⟨rfl, h⟩
theorem copy_nil (h : SatL E w R) : Calls Try.prog 20 #[.pointer none] w (Ret fun v w' => v = .pointer none ∧ SatL E w' R) := by
  refine calls_x Try.func20 rfl Try.ntmps20 rfl ?_
  refine xc_gen (fun g hg => ?_)
  have s0 := (hg 0).trans arg0
  clear hg
  refine xc_seq (fun K hK1 => ?_)
  refine xc_region ?_
  refine x_val (r_assign ec) (nd_of rfl) rfl ?_
  refine xw_nil ?_
  refine hK1 _ _ ?_
  refine xc_gen (fun g hg => ?_)
  have s0 := (hg 0).trans (en rfl s0)
  have s2 := (hg 2).trans es
  clear hg
  refine xc_seq (fun K hK2 => ?_)
  refine xc_seq (fun K hK3 => ?_)
  refine xc_region ?_
  refine x_val (r_move s0) (nd_of rfl) rfl ?_
  refine x_val (r_eqnil Try.underlying23 es ec (r := true) rfl) (nd_of rfl) rfl ?_
  refine xw_nil ?_
  refine hK3 _ _ ?_
  refine xc_gen (fun g hg => ?_)
  have s0 := (hg 0).trans (en rfl (en rfl s0))
  have s2 := (hg 2).trans (en rfl (en rfl s2))
  have s4 := (hg 4).trans es
  clear hg
  refine xc_cond s4 (fun _ => ?_) (fun hc => by cases hc)
  refine xc_seq (fun K hK4 => ?_)
  refine xc_region ?_
  refine x_val (r_assign ec) (nd_of rfl) rfl ?_
  refine xw_nil ?_
  refine hK4 _ _ ?_
  refine xc_gen (fun g hg => ?_)
  have s0 := (hg 0).trans (en rfl s0)
  have s2 := (hg 2).trans es
  have s4 := (hg 4).trans (en rfl s4)
  clear hg
  refine xc_ret ?_
  refine bodyR_1 rfl s2 ?_
  exact ⟨rfl, h⟩
theorem none_long (hw : OpWf W o) (hl : 100 < o.ls.length) (h : SatL E w (Old W :: R)) : Calls Try.prog 7 #[.agg (opC o).toArray, .int .i64 N] w (Ret fun u w' => u = .bool true ∧ SatL E w' (Old W :: R)) := by
  obtain ⟨al, cl, hlv, hlsp⟩ := hw.sp
  unfold opC
  rw [hlv]
  refine calls_x Try.func7 rfl Try.ntmps7 rfl ?_
  refine xc_gen (fun g hg => ?_)
  have s0 := (hg 0).trans arg0
  have s1 := (hg 1).trans arg1
  clear hg
  refine xc_seq (fun K hK1 => ?_)
  refine xc_region ?_
  refine x_boxA h s0 rfl ?_
  intro b2 w h
  refine x_alloc1 h Try.zeroValue4 rfl rfl ?_
  intro b4 w h
  refine xw_nil ?_
  refine hK1 _ _ ?_
  refine xc_gen (fun g hg => ?_)
  have s0 := (hg 0).trans (en rfl (en rfl s0))
  have s1 := (hg 1).trans (en rfl (en rfl s1))
  have s2 := (hg 2).trans (en rfl es)
  have s4 := (hg 4).trans es
  clear hg
  refine xc_seq (fun K hK2 => ?_)
  refine xc_seq (fun K hK3 => ?_)
  refine xc_region ?_
  refine x_val (r_fieldAddr (o' := 3) Try.underlying28 rfl Try.sizeOf26 rfl s2 rfl) (nd_of rfl) rfl ?_
  refine x_val (r_load h 1 rfl Try.isAgg26 es gc3) (nd_of rfl) rfl ?_
  refine x_val (r_len Try.underlying26 es) (nd_of rfl) rfl ?_
  refine x_val (r_gtr es ec (decide_eq_true (by omega))) (nd_of rfl) rfl ?_
  refine xw_nil ?_
  refine hK3 _ _ ?_
  refine xc_gen (fun g hg => ?_)
  have s0 := (hg 0).trans (en rfl (en rfl (en rfl (en rfl s0))))
  have s1 := (hg 1).trans (en rfl (en rfl (en rfl (en rfl s1))))
  have s2 := (hg 2).trans (en rfl (en rfl (en rfl (en rfl s2))))
  have s4 := (hg 4).trans (en rfl (en rfl (en rfl (en rfl s4))))
  have s16 := (hg 16).trans es
  clear hg
  refine xc_cond s16 (fun _ => ?_) (fun hc => by cases hc)
  refine xc_seq (fun K hK4 => ?_)
  refine xc_region ?_
  refine x_enter (r_call Try.call9 .nil) (nd_of rfl) rfl (known_ok h) ?_
  rintro _ w ⟨rfl, h⟩
  refine x_st (r_store h 0 rfl Try.sizeOf4 (en rfl s4) es rfl gc0) rfl (h.u0 sc0) ?_
  intro w h
  refine xw_nil ?_
  refine hK4 _ _ ?_
  refine xc_gen (fun g hg => ?_)
  have s0 := (hg 0).trans (en rfl s0)
  have s1 := (hg 1).trans (en rfl s1)
  have s2 := (hg 2).trans (en rfl s2)
  have s4 := (hg 4).trans (en rfl s4)
  have s16 := (hg 16).trans (en rfl s16)
  clear hg
  refine xc_ret ?_
  refine bodyR_c rfl s4 (lv_one h 0 rfl Try.isAgg4 gc0) ?_
  exact ⟨rfl, h.drop.drop⟩
theorem none_ok (hw : OpWf W o) (hN : I64 N) (hl : o.ls.length ≤ 100) (h : SatL E w (Old W :: R)) : Calls Try.prog 7 #[.agg (opC o).toArray, .int .i64 N] w (Ret fun u w' => u = .bool true ∧ SatL E w' (Old W :: R)) := by
  obtain ⟨al, cl, hlv, hlsp⟩ := hw.sp
  unfold opC
  rw [hlv]
  refine calls_y Try.func7 rfl Try.ntmps7 rfl ?_
  refine yc_gen (fun g hg => ?_)
  have s0 := (hg 0).trans arg0
  have s1 := (hg 1).trans arg1
  clear hg
  refine yc_seq (fun K hK1 => ?_)
  refine yc_region ?_
  refine x_boxA h s0 rfl ?_
  intro b2 w h
  refine x_alloc1 h Try.zeroValue4 rfl rfl ?_
  intro b4 w h
  refine xw_nil ?_
  refine hK1 _ _ _ ?_
  refine yc_gen (fun g hg => ?_)
  have s0 := (hg 0).trans (en rfl (en rfl s0))
  have s1 := (hg 1).trans (en rfl (en rfl s1))
  have s2 := (hg 2).trans (en rfl es)
  have s4 := (hg 4).trans es
  clear hg
  refine yc_seq (fun K hK2 => ?_)
  refine yc_seq (fun K hK3 => ?_)
  refine yc_region ?_
  refine x_val (r_fieldAddr (o' := 3) Try.underlying28 rfl Try.sizeOf26 rfl s2 rfl) (nd_of rfl) rfl ?_
  refine x_val (r_load h 1 rfl Try.isAgg26 es gc3) (nd_of rfl) rfl ?_
  refine x_val (r_len Try.underlying26 es) (nd_of rfl) rfl ?_
  refine x_val (r_gtr es ec (decide_eq_false (by omega))) (nd_of rfl) rfl ?_
  refine xw_nil ?_
  refine hK3 _ _ _ ?_
  refine yc_gen (fun g hg => ?_)
  have s0 := (hg 0).trans (en rfl (en rfl (en rfl (en rfl s0))))
  have s1 := (hg 1).trans (en rfl (en rfl (en rfl (en rfl s1))))
  have s2 := (hg 2).trans (en rfl (en rfl (en rfl (en rfl s2))))
  have s4 := (hg 4).trans (en rfl (en rfl (en rfl (en rfl s4))))
  have s16 := (hg 16).trans es
  clear hg
  refine yc_cond s16 (fun hc => by cases hc) (fun _ => ?_)
  refine yc_skip ?_
  refine hK2 _ _ _ ?_
  refine yc_seq (fun K hK4 => ?_)
  refine yc_region ?_
  refine x_val (r_assign ec) (nd_of rfl) rfl ?_
  refine xw_nil ?_
  refine hK4 _ _ _ ?_
  refine yc_gen (fun g hg => ?_)
  have s0 := (hg 0).trans (en rfl s0)
  have s1 := (hg 1).trans (en rfl s1)
  have s2 := (hg 2).trans (en rfl s2)
  have s4 := (hg 4).trans (en rfl s4)
  have s5 := (hg 5).trans es
  have s16 := (hg 16).trans (en rfl s16)
  clear hg
  refine yc_seq (fun K hK5 => ?_)
  refine yc_region ?_
  refine x_allocA h Try.zeroValue49 rfl ?_
  intro b6 w h
  refine xw_nil ?_
  refine hK5 _ _ _ ?_
  refine yc_gen (fun g hg => ?_)
  have s0 := (hg 0).trans (en rfl s0)
  have s1 := (hg 1).trans (en rfl s1)
  have s2 := (hg 2).trans (en rfl s2)
  have s4 := (hg 4).trans (en rfl s4)
  have s5 := (hg 5).trans (en rfl s5)
  have s6 := (hg 6).trans es
  have s16 := (hg 16).trans (en rfl s16)
  clear hg
  refine yc_seq (fun K hK6 => ?_)
  refine yc_region ?_
  refine x_val (r_move s5) (nd_of rfl) rfl ?_
  refine x_val (r_fieldAddr (o' := 1) Try.underlying28 rfl Try.sizeOf3 rfl (en rfl s2) rfl) (nd_of rfl) rfl ?_
  refine x_val (r_load h 2 rfl Try.isAgg3 es gc1) (nd_of rfl) rfl ?_
  refine x_enter (r_call Try.call12 (.cons (en rfl (en rfl es)) (.cons es .nil))) (nd_of rfl) rfl (at_nil h) ?_
  rintro _ w ⟨rfl, h⟩
  refine x_val (r_move es) (nd_of rfl) rfl ?_
  refine x_val (r_extract es gc0) (nd_of rfl) rfl ?_
  refine x_val (r_extract (en rfl es) gc1) (nd_of rfl) rfl ?_
  refine x_val (r_assign (en rfl es)) (nd_of rfl) rfl ?_
  refine x_val (r_assign (en rfl es)) (nd_of rfl) rfl ?_
  refine xw_nil ?_
  refine hK6 _ _ _ ?_
  refine yc_gen (fun g hg => ?_)
  have s0 := (hg 0).trans (en rfl (en rfl (en rfl (en rfl (en rfl (en rfl (en rfl (en rfl (en rfl s0)))))))))
  have s1 := (hg 1).trans (en rfl (en rfl (en rfl (en rfl (en rfl (en rfl (en rfl (en rfl (en rfl s1)))))))))
  have s2 := (hg 2).trans (en rfl (en rfl (en rfl (en rfl (en rfl (en rfl (en rfl (en rfl (en rfl s2)))))))))
  have s4 := (hg 4).trans (en rfl (en rfl (en rfl (en rfl (en rfl (en rfl (en rfl (en rfl (en rfl s4)))))))))
  have s5 := (hg 5).trans (en rfl (en rfl (en rfl (en rfl (en rfl (en rfl (en rfl (en rfl (en rfl s5)))))))))
  have s6 := (hg 6).trans (en rfl (en rfl (en rfl (en rfl (en rfl (en rfl (en rfl (en rfl (en rfl s6)))))))))
  have s8 := (hg 8).trans es
  have s16 := (hg 16).trans (en rfl (en rfl (en rfl (en rfl (en rfl (en rfl (en rfl (en rfl (en rfl s16)))))))))
  clear hg
  refine yc_seq (fun K hK7 => ?_)
  refine yc_region ?_
  refine x_val (r_move s5) (nd_of rfl) rfl ?_
  refine x_val (r_fieldAddr (o' := 1) Try.underlying28 rfl Try.sizeOf3 rfl (en rfl s2) rfl) (nd_of rfl) rfl ?_
  refine x_val (r_load h 2 rfl Try.isAgg3 es gc1) (nd_of rfl) rfl ?_
  refine x_val (r_fieldAddr (o' := 2) Try.underlying28 rfl Try.sizeOf3 rfl (en rfl (en rfl (en rfl s2))) rfl) (nd_of rfl) rfl ?_
  refine x_val (r_load h 2 rfl Try.isAgg3 es gc2) (nd_of rfl) rfl ?_
  refine x_enter (r_call Try.call11 (.cons (en rfl (en rfl (en rfl (en rfl es)))) (.cons (en rfl (en rfl es)) (.cons es .nil)))) (nd_of rfl) rfl (over_nil h) ?_
  rintro _ w ⟨rfl, h⟩
  refine x_val (r_move es) (nd_of rfl) rfl ?_
  refine x_val (r_extract es gc0) (nd_of rfl) rfl ?_
  refine x_val (r_extract (en rfl es) gc1) (nd_of rfl) rfl ?_
  refine x_val (r_assign (en rfl es)) (nd_of rfl) rfl ?_
  refine x_val (r_assign (en rfl es)) (nd_of rfl) rfl ?_
  refine xw_nil ?_
  refine hK7 _ _ _ ?_
  refine yc_gen (fun g hg => ?_)
  have s0 := (hg 0).trans (en rfl (en rfl (en rfl (en rfl (en rfl (en rfl (en rfl (en rfl (en rfl (en rfl (en rfl s0)))))))))))
  have s1 := (hg 1).trans (en rfl (en rfl (en rfl (en rfl (en rfl (en rfl (en rfl (en rfl (en rfl (en rfl (en rfl s1)))))))))))
  have s2 := (hg 2).trans (en rfl (en rfl (en rfl (en rfl (en rfl (en rfl (en rfl (en rfl (en rfl (en rfl (en rfl s2)))))))))))
  have s4 := (hg 4).trans (en rfl (en rfl (en rfl (en rfl (en rfl (en rfl (en rfl (en rfl (en rfl (en rfl (en rfl s4)))))))))))
  have s5 := (hg 5).trans (en rfl (en rfl (en rfl (en rfl (en rfl (en rfl (en rfl (en rfl (en rfl (en rfl (en rfl s5)))))))))))
  have s6 := (hg 6).trans (en rfl (en rfl (en rfl (en rfl (en rfl (en rfl (en rfl (en rfl (en rfl (en rfl (en rfl s6)))))))))))
  have s8 := (hg 8).trans (en rfl (en rfl (en rfl (en rfl (en rfl (en rfl (en rfl (en rfl (en rfl (en rfl (en rfl s8)))))))))))
  have s10 := (hg 10).trans es
  have s16 := (hg 16).trans (en rfl (en rfl (en rfl (en rfl (en rfl (en rfl (en rfl (en rfl (en rfl (en rfl (en rfl s16)))))))))))
  clear hg
  refine yc_seq (fun K hK8 => ?_)
  refine yc_region ?_
  refine x_val (r_move s5) (nd_of rfl) rfl ?_
  refine x_enter (r_call Try.call13 (.cons es .nil)) (nd_of rfl) rfl (all_nil h) ?_
  rintro _ w ⟨c, rfl, h⟩
  refine x_val (r_assign es) (nd_of rfl) rfl ?_
  refine xw_nil ?_
  refine hK8 _ _ _ ?_
  refine yc_gen (fun g hg => ?_)
  have s0 := (hg 0).trans (en rfl (en rfl (en rfl s0)))
  have s1 := (hg 1).trans (en rfl (en rfl (en rfl s1)))
  have s2 := (hg 2).trans (en rfl (en rfl (en rfl s2)))
  have s4 := (hg 4).trans (en rfl (en rfl (en rfl s4)))
  have s5 := (hg 5).trans (en rfl (en rfl (en rfl s5)))
  have s6 := (hg 6).trans (en rfl (en rfl (en rfl s6)))
  have s8 := (hg 8).trans (en rfl (en rfl (en rfl s8)))
  have s10 := (hg 10).trans (en rfl (en rfl (en rfl s10)))
  have s11 := (hg 11).trans es
  have s16 := (hg 16).trans (en rfl (en rfl (en rfl s16)))
  clear hg
  refine yc_seq (fun K hK9 => ?_)
  refine yc_seq (fun K hK10 => ?_)
  refine yc_region ?_
  refine x_val (r_move s11) (nd_of rfl) rfl ?_
  refine x_val (r_eqnilF Try.underlying39 es ec) (nd_of rfl) rfl ?_
  refine xw_nil ?_
  refine hK10 _ _ _ ?_
  refine yc_gen (fun g hg => ?_)
  have s0 := (hg 0).trans (en rfl (en rfl s0))
  have s1 := (hg 1).trans (en rfl (en rfl s1))
  have s2 := (hg 2).trans (en rfl (en rfl s2))
  have s4 := (hg 4).trans (en rfl (en rfl s4))
  have s5 := (hg 5).trans (en rfl (en rfl s5))
  have s6 := (hg 6).trans (en rfl (en rfl s6))
  have s8 := (hg 8).trans (en rfl (en rfl s8))
  have s10 := (hg 10).trans (en rfl (en rfl s10))
  have s11 := (hg 11).trans (en rfl (en rfl s11))
  have s16 := (hg 16).trans (en rfl (en rfl s16))
  have s37 := (hg 37).trans es
  clear hg
  refine yc_cond s37 (fun hc => by cases hc) (fun _ => ?_)
  refine yc_skip ?_
  refine hK9 _ _ _ ?_
  refine yc_seq (fun K hK11 => ?_)
  refine yc_seq (fun K hK12 => ?_)
  refine yc_region ?_
  refine x_val (r_move s11) (nd_of rfl) rfl ?_
  refine xw_nil ?_
  refine hK12 _ _ _ ?_
  refine yc_gen (fun g hg => ?_)
  have s0 := (hg 0).trans (en rfl s0)
  have s1 := (hg 1).trans (en rfl s1)
  have s2 := (hg 2).trans (en rfl s2)
  have s4 := (hg 4).trans (en rfl s4)
  have s5 := (hg 5).trans (en rfl s5)
  have s6 := (hg 6).trans (en rfl s6)
  have s8 := (hg 8).trans (en rfl s8)
  have s10 := (hg 10).trans (en rfl s10)
  have s11 := (hg 11).trans (en rfl s11)
  have s16 := (hg 16).trans (en rfl s16)
  have s37 := (hg 37).trans (en rfl s37)
  have s38 := (hg 38).trans es
  clear hg
  refine yc_block ?_
  refine yc_range s38 Try.call30 h ?_
  intro lp D fn tmps w htn htg h
  refine Calls.ret_mono (allit_t (l := []) (IL := fun _ => _) (by simp) (by simp) (by intro M k x w hx; simp at hx) ((h.f3).f3)) ?_; intro _ w h; refine ⟨_, _, (fun e => by cases e), (h.f3).f3, ?_⟩; intro w h
  refine hK11 _ _ _ ?_
  refine yc_seq (fun K hK13 => ?_)
  refine yc_seq (fun K hK14 => ?_)
  have h := (h.f0).drop
  have h := (h.f1).drop
  have h := (h.f1).drop
  have h := SatL.closeObj0 (B := 0) (h.f1)
  refine yc_region ?_
  refine x_val (r_move s8) (nd_of rfl) rfl ?_
  refine x_val (r_neq es ec (r := false) rfl) (nd_of rfl) rfl ?_
  refine x_val (r_move es) (nd_of rfl) rfl ?_
  refine x_take (d := 42) rfl rfl es ?_
  refine x_val (r_move (en rfl (en rfl (en rfl s10)))) (nd_of rfl) rfl ?_
  refine x_take (d := 42) rfl rfl (en rfl es) ?_
  refine x_val (r_neq es ec (r := false) rfl) (nd_of rfl) rfl ?_
  refine x_val (r_pick_f (en rfl (en rfl es)) es) (nd_of rfl) rfl ?_
  refine x_val (r_move es) (nd_of rfl) rfl ?_
  refine x_take (d := 46) rfl rfl es ?_
  refine x_val (r_move (en rfl (en rfl (en rfl (en rfl (en rfl (en rfl (en rfl s5)))))))) (nd_of rfl) rfl ?_
  refine x_take (d := 46) rfl rfl (en rfl es) ?_
  refine x_val (r_fieldAddr (o' := 1) Try.underlying28 rfl Try.sizeOf3 rfl (en rfl (en rfl (en rfl (en rfl (en rfl (en rfl (en rfl (en rfl s2)))))))) rfl) (nd_of rfl) rfl ?_
  refine x_take (d := 46) rfl rfl (en rfl (en rfl es)) ?_
  refine x_val (r_load h 3 rfl Try.isAgg3 es gc1) (nd_of rfl) rfl ?_
  refine x_take (d := 46) rfl rfl (en rfl (en rfl (en rfl es))) ?_
  refine x_val (r_fieldAddr (o' := 2) Try.underlying28 rfl Try.sizeOf3 rfl (en rfl (en rfl (en rfl (en rfl (en rfl (en rfl (en rfl (en rfl (en rfl (en rfl s2)))))))))) rfl) (nd_of rfl) rfl ?_
  refine x_take (d := 46) rfl rfl (en rfl (en rfl (en rfl (en rfl es)))) ?_
  refine x_val (r_load h 3 rfl Try.isAgg3 es gc2) (nd_of rfl) rfl ?_
  refine x_take (d := 46) rfl rfl (en rfl (en rfl (en rfl (en rfl (en rfl es))))) ?_
  refine x_val (r_fieldAddr (o' := 3) Try.underlying28 rfl Try.sizeOf26 rfl (en rfl (en rfl (en rfl (en rfl (en rfl (en rfl (en rfl (en rfl (en rfl (en rfl (en rfl (en rfl s2)))))))))))) rfl) (nd_of rfl) rfl ?_
  refine x_take (d := 46) rfl rfl (en rfl (en rfl (en rfl (en rfl (en rfl (en rfl es)))))) ?_
  refine x_val (r_load h 3 rfl Try.isAgg26 es gc3) (nd_of rfl) rfl ?_
  refine x_take (d := 46) rfl rfl (en rfl (en rfl (en rfl (en rfl (en rfl (en rfl (en rfl es))))))) ?_
  refine x_enter (r_call Try.call10 (.cons (en rfl (en rfl (en rfl (en rfl (en rfl (en rfl es)))))) (.cons (en rfl (en rfl (en rfl (en rfl es)))) (.cons (en rfl (en rfl es)) (.cons es .nil))))) (nd_of rfl) rfl (splice_nil h) ?_
  rintro _ w ⟨rfl, h⟩
  refine x_take (d := 46) rfl rfl (en rfl (en rfl (en rfl (en rfl (en rfl (en rfl (en rfl (en rfl es)))))))) ?_
  refine x_val (r_neq es ec (r := false) rfl) (nd_of rfl) rfl ?_
  refine x_val (r_pick_f (en rfl (en rfl (en rfl (en rfl (en rfl (en rfl (en rfl (en rfl (en rfl es))))))))) es) (nd_of rfl) rfl ?_
  refine x_val (r_move es) (nd_of rfl) rfl ?_
  refine x_take (d := 57) rfl rfl es ?_
  refine x_val (r_move (en rfl (en rfl (en rfl (en rfl (en rfl (en rfl (en rfl (en rfl (en rfl (en rfl (en rfl (en rfl (en rfl (en rfl (en rfl (en rfl (en rfl (en rfl s5))))))))))))))))))) (nd_of rfl) rfl ?_
  refine x_take (d := 57) rfl rfl (en rfl es) ?_
  refine x_val (r_fieldAddr (o' := 1) Try.underlying28 rfl Try.sizeOf3 rfl (en rfl (en rfl (en rfl (en rfl (en rfl (en rfl (en rfl (en rfl (en rfl (en rfl (en rfl (en rfl (en rfl (en rfl (en rfl (en rfl (en rfl (en rfl (en rfl s2))))))))))))))))))) rfl) (nd_of rfl) rfl ?_
  refine x_take (d := 57) rfl rfl (en rfl (en rfl es)) ?_
  refine x_val (r_load h 3 rfl Try.isAgg3 es gc1) (nd_of rfl) rfl ?_
  refine x_take (d := 57) rfl rfl (en rfl (en rfl (en rfl es))) ?_
  refine x_val (r_fieldAddr (o' := 2) Try.underlying28 rfl Try.sizeOf3 rfl (en rfl (en rfl (en rfl (en rfl (en rfl (en rfl (en rfl (en rfl (en rfl (en rfl (en rfl (en rfl (en rfl (en rfl (en rfl (en rfl (en rfl (en rfl (en rfl (en rfl (en rfl s2))))))))))))))))))))) rfl) (nd_of rfl) rfl ?_
  refine x_take (d := 57) rfl rfl (en rfl (en rfl (en rfl (en rfl es)))) ?_
  refine x_val (r_load h 3 rfl Try.isAgg3 es gc2) (nd_of rfl) rfl ?_
  refine x_take (d := 57) rfl rfl (en rfl (en rfl (en rfl (en rfl (en rfl es))))) ?_
  refine x_val (r_loadAgg h 3 rfl Try.isAgg28 Try.sizeOf28 (en rfl (en rfl (en rfl (en rfl (en rfl (en rfl (en rfl (en rfl (en rfl (en rfl (en rfl (en rfl (en rfl (en rfl (en rfl (en rfl (en rfl (en rfl (en rfl (en rfl (en rfl (en rfl (en rfl s2))))))))))))))))))))))) (by exact Nat.le_refl _) (ext_full rfl)) (nd_of rfl) rfl ?_
  refine x_take (d := 57) rfl rfl (en rfl (en rfl (en rfl (en rfl (en rfl (en rfl es)))))) ?_
  refine x_val (r_func (.cons es .nil) .nil) (nd_of rfl) rfl ?_
  refine x_take (d := 57) rfl rfl (en rfl (en rfl (en rfl (en rfl (en rfl (en rfl (en rfl es))))))) ?_
  refine x_enter (r_call Try.call17 (.cons (en rfl (en rfl (en rfl (en rfl (en rfl (en rfl es)))))) (.cons (en rfl (en rfl (en rfl (en rfl es)))) (.cons (en rfl (en rfl es)) (.cons es .nil))))) (nd_of rfl) rfl (map_nil h) ?_
  rintro _ w ⟨rfl, h⟩
  refine x_take (d := 57) rfl rfl (en rfl (en rfl (en rfl (en rfl (en rfl (en rfl (en rfl (en rfl es)))))))) ?_
  refine x_val (r_neq es ec (r := false) rfl) (nd_of rfl) rfl ?_
  refine x_val (r_pick_f (en rfl (en rfl (en rfl (en rfl (en rfl (en rfl (en rfl (en rfl (en rfl es))))))))) es) (nd_of rfl) rfl ?_
  refine x_val (r_move es) (nd_of rfl) rfl ?_
  refine x_take (d := 68) rfl rfl es ?_
  refine x_val (r_move (en rfl (en rfl (en rfl (en rfl (en rfl (en rfl (en rfl (en rfl (en rfl (en rfl (en rfl (en rfl (en rfl (en rfl (en rfl (en rfl (en rfl (en rfl (en rfl (en rfl (en rfl (en rfl (en rfl (en rfl (en rfl (en rfl (en rfl (en rfl (en rfl s5)))))))))))))))))))))))))))))) (nd_of rfl) rfl ?_
  refine x_take (d := 68) rfl rfl (en rfl es) ?_
  refine x_enter (r_call Try.call14 (.cons es .nil)) (nd_of rfl) rfl (len_nil h) ?_
  rintro _ w ⟨rfl, h⟩
  refine x_take (d := 68) rfl rfl (en rfl (en rfl es)) ?_
  refine x_val (r_move (en rfl (en rfl (en rfl (en rfl (en rfl (en rfl (en rfl (en rfl (en rfl (en rfl (en rfl (en rfl (en rfl (en rfl (en rfl (en rfl (en rfl (en rfl (en rfl (en rfl (en rfl (en rfl (en rfl (en rfl (en rfl (en rfl (en rfl (en rfl (en rfl (en rfl (en rfl s5)))))))))))))))))))))))))))))))) (nd_of rfl) rfl ?_
  refine x_take (d := 68) rfl rfl (en rfl (en rfl (en rfl es))) ?_
  refine x_enter (r_call Try.call18 (.cons es .nil)) (nd_of rfl) rfl (count_nil h) ?_
  rintro _ w ⟨rfl, h⟩
  refine x_take (d := 68) rfl rfl (en rfl (en rfl (en rfl (en rfl es)))) ?_
  refine x_val (r_add (en rfl (en rfl es)) es rfl (by unfold I64; omega)) (nd_of rfl) rfl ?_
  refine x_take (d := 68) rfl rfl (en rfl (en rfl (en rfl (en rfl (en rfl es))))) ?_
  refine x_val (r_move (en rfl (en rfl (en rfl (en rfl (en rfl (en rfl (en rfl (en rfl (en rfl (en rfl (en rfl (en rfl (en rfl (en rfl (en rfl (en rfl (en rfl (en rfl (en rfl (en rfl (en rfl (en rfl (en rfl (en rfl (en rfl (en rfl (en rfl (en rfl (en rfl (en rfl (en rfl (en rfl (en rfl (en rfl s5))))))))))))))))))))))))))))))))))) (nd_of rfl) rfl ?_
  refine x_take (d := 68) rfl rfl (en rfl (en rfl (en rfl (en rfl (en rfl (en rfl es)))))) ?_
  refine x_enter (r_call Try.call19 (.cons es .nil)) (nd_of rfl) rfl (height_nil h) ?_
  rintro _ w ⟨rfl, h⟩
  refine x_take (d := 68) rfl rfl (en rfl (en rfl (en rfl (en rfl (en rfl (en rfl (en rfl es))))))) ?_
  refine x_val (r_add (en rfl (en rfl es)) es rfl (by unfold I64; omega)) (nd_of rfl) rfl ?_
  refine x_take (d := 68) rfl rfl (en rfl (en rfl (en rfl (en rfl (en rfl (en rfl (en rfl (en rfl es)))))))) ?_
  refine x_val (r_neq es ec (decide_eq_false (by omega))) (nd_of rfl) rfl ?_
  refine x_val (r_pick_f (en rfl (en rfl (en rfl (en rfl (en rfl (en rfl (en rfl (en rfl (en rfl es))))))))) es) (nd_of rfl) rfl ?_
  refine x_val (r_move es) (nd_of rfl) rfl ?_
  refine x_take (d := 79) rfl rfl es ?_
  refine x_val (r_move (en rfl (en rfl (en rfl (en rfl (en rfl (en rfl (en rfl (en rfl (en rfl (en rfl (en rfl (en rfl (en rfl (en rfl (en rfl (en rfl (en rfl (en rfl (en rfl (en rfl (en rfl (en rfl (en rfl (en rfl (en rfl (en rfl (en rfl (en rfl (en rfl (en rfl (en rfl (en rfl (en rfl (en rfl (en rfl (en rfl (en rfl (en rfl (en rfl (en rfl s5))))))))))))))))))))))))))))))))))))))))) (nd_of rfl) rfl ?_
  refine x_take (d := 79) rfl rfl (en rfl es) ?_
  refine x_enter (r_call Try.call20 (.cons es .nil)) (nd_of rfl) rfl (copy_nil h) ?_
  rintro _ w ⟨rfl, h⟩
  refine x_take (d := 79) rfl rfl (en rfl (en rfl es)) ?_
  refine x_val (r_nenil Try.underlying23 es ec (r := false) rfl) (nd_of rfl) rfl ?_
  refine x_val (r_pick_f (en rfl (en rfl (en rfl es))) es) (nd_of rfl) rfl ?_
  refine x_val (r_move es) (nd_of rfl) rfl ?_
  refine x_take (d := 84) rfl rfl es ?_
  refine x_enter (r_call Try.call14 (.cons (en rfl (en rfl (en rfl (en rfl (en rfl (en rfl (en rfl (en rfl (en rfl (en rfl (en rfl (en rfl (en rfl (en rfl (en rfl (en rfl (en rfl (en rfl (en rfl (en rfl (en rfl (en rfl (en rfl (en rfl (en rfl (en rfl (en rfl (en rfl (en rfl (en rfl (en rfl (en rfl (en rfl (en rfl (en rfl (en rfl (en rfl (en rfl (en rfl (en rfl (en rfl (en rfl (en rfl (en rfl (en rfl s6))))))))))))))))))))))))))))))))))))))))))))) .nil)) (nd_of rfl) rfl (len_o h) ?_
  rintro _ w ⟨rfl, h⟩
  refine x_take (d := 84) rfl rfl (en rfl es) ?_
  refine x_val (r_neq es ec (decide_eq_false (by simp [sz]))) (nd_of rfl) rfl ?_
  have hs1 : sz (spliceS [] 0 0 [(N, 1)]) ≤ 536870912 := none_size
  have hl1 : (spliceS [] 0 0 [(N, 1)]).length ≤ 2 := none_len
  refine x_val (r_pick_f (en rfl (en rfl es)) es) (nd_of rfl) rfl ?_
  refine xw_nil ?_
  refine hK14 _ _ _ ?_
  refine yc_gen (fun g hg => ?_)
  have s0 := (hg 0).trans (en rfl (en rfl (en rfl (en rfl (en rfl (en rfl (en rfl (en rfl (en rfl (en rfl (en rfl (en rfl (en rfl (en rfl (en rfl (en rfl (en rfl (en rfl (en rfl (en rfl (en rfl (en rfl (en rfl (en rfl (en rfl (en rfl (en rfl (en rfl (en rfl (en rfl (en rfl (en rfl (en rfl (en rfl (en rfl (en rfl (en rfl (en rfl (en rfl (en rfl (en rfl (en rfl (en rfl (en rfl (en rfl (en rfl (en rfl (en rfl s0))))))))))))))))))))))))))))))))))))))))))))))))
  have s1 := (hg 1).trans (en rfl (en rfl (en rfl (en rfl (en rfl (en rfl (en rfl (en rfl (en rfl (en rfl (en rfl (en rfl (en rfl (en rfl (en rfl (en rfl (en rfl (en rfl (en rfl (en rfl (en rfl (en rfl (en rfl (en rfl (en rfl (en rfl (en rfl (en rfl (en rfl (en rfl (en rfl (en rfl (en rfl (en rfl (en rfl (en rfl (en rfl (en rfl (en rfl (en rfl (en rfl (en rfl (en rfl (en rfl (en rfl (en rfl (en rfl (en rfl s1))))))))))))))))))))))))))))))))))))))))))))))))
  have s2 := (hg 2).trans (en rfl (en rfl (en rfl (en rfl (en rfl (en rfl (en rfl (en rfl (en rfl (en rfl (en rfl (en rfl (en rfl (en rfl (en rfl (en rfl (en rfl (en rfl (en rfl (en rfl (en rfl (en rfl (en rfl (en rfl (en rfl (en rfl (en rfl (en rfl (en rfl (en rfl (en rfl (en rfl (en rfl (en rfl (en rfl (en rfl (en rfl (en rfl (en rfl (en rfl (en rfl (en rfl (en rfl (en rfl (en rfl (en rfl (en rfl (en rfl s2))))))))))))))))))))))))))))))))))))))))))))))))
  have s4 := (hg 4).trans (en rfl (en rfl (en rfl (en rfl (en rfl (en rfl (en rfl (en rfl (en rfl (en rfl (en rfl (en rfl (en rfl (en rfl (en rfl (en rfl (en rfl (en rfl (en rfl (en rfl (en rfl (en rfl (en rfl (en rfl (en rfl (en rfl (en rfl (en rfl (en rfl (en rfl (en rfl (en rfl (en rfl (en rfl (en rfl (en rfl (en rfl (en rfl (en rfl (en rfl (en rfl (en rfl (en rfl (en rfl (en rfl (en rfl (en rfl (en rfl s4))))))))))))))))))))))))))))))))))))))))))))))))
  have s5 := (hg 5).trans (en rfl (en rfl (en rfl (en rfl (en rfl (en rfl (en rfl (en rfl (en rfl (en rfl (en rfl (en rfl (en rfl (en rfl (en rfl (en rfl (en rfl (en rfl (en rfl (en rfl (en rfl (en rfl (en rfl (en rfl (en rfl (en rfl (en rfl (en rfl (en rfl (en rfl (en rfl (en rfl (en rfl (en rfl (en rfl (en rfl (en rfl (en rfl (en rfl (en rfl (en rfl (en rfl (en rfl (en rfl (en rfl (en rfl (en rfl (en rfl s5))))))))))))))))))))))))))))))))))))))))))))))))
  have s6 := (hg 6).trans (en rfl (en rfl (en rfl (en rfl (en rfl (en rfl (en rfl (en rfl (en rfl (en rfl (en rfl (en rfl (en rfl (en rfl (en rfl (en rfl (en rfl (en rfl (en rfl (en rfl (en rfl (en rfl (en rfl (en rfl (en rfl (en rfl (en rfl (en rfl (en rfl (en rfl (en rfl (en rfl (en rfl (en rfl (en rfl (en rfl (en rfl (en rfl (en rfl (en rfl (en rfl (en rfl (en rfl (en rfl (en rfl (en rfl (en rfl (en rfl s6))))))))))))))))))))))))))))))))))))))))))))))))
  have s8 := (hg 8).trans (en rfl (en rfl (en rfl (en rfl (en rfl (en rfl (en rfl (en rfl (en rfl (en rfl (en rfl (en rfl (en rfl (en rfl (en rfl (en rfl (en rfl (en rfl (en rfl (en rfl (en rfl (en rfl (en rfl (en rfl (en rfl (en rfl (en rfl (en rfl (en rfl (en rfl (en rfl (en rfl (en rfl (en rfl (en rfl (en rfl (en rfl (en rfl (en rfl (en rfl (en rfl (en rfl (en rfl (en rfl (en rfl (en rfl (en rfl (en rfl s8))))))))))))))))))))))))))))))))))))))))))))))))
  have s10 := (hg 10).trans (en rfl (en rfl (en rfl (en rfl (en rfl (en rfl (en rfl (en rfl (en rfl (en rfl (en rfl (en rfl (en rfl (en rfl (en rfl (en rfl (en rfl (en rfl (en rfl (en rfl (en rfl (en rfl (en rfl (en rfl (en rfl (en rfl (en rfl (en rfl (en rfl (en rfl (en rfl (en rfl (en rfl (en rfl (en rfl (en rfl (en rfl (en rfl (en rfl (en rfl (en rfl (en rfl (en rfl (en rfl (en rfl (en rfl (en rfl (en rfl s10))))))))))))))))))))))))))))))))))))))))))))))))
  have s11 := (hg 11).trans (en rfl (en rfl (en rfl (en rfl (en rfl (en rfl (en rfl (en rfl (en rfl (en rfl (en rfl (en rfl (en rfl (en rfl (en rfl (en rfl (en rfl (en rfl (en rfl (en rfl (en rfl (en rfl (en rfl (en rfl (en rfl (en rfl (en rfl (en rfl (en rfl (en rfl (en rfl (en rfl (en rfl (en rfl (en rfl (en rfl (en rfl (en rfl (en rfl (en rfl (en rfl (en rfl (en rfl (en rfl (en rfl (en rfl (en rfl (en rfl s11))))))))))))))))))))))))))))))))))))))))))))))))
  have s16 := (hg 16).trans (en rfl (en rfl (en rfl (en rfl (en rfl (en rfl (en rfl (en rfl (en rfl (en rfl (en rfl (en rfl (en rfl (en rfl (en rfl (en rfl (en rfl (en rfl (en rfl (en rfl (en rfl (en rfl (en rfl (en rfl (en rfl (en rfl (en rfl (en rfl (en rfl (en rfl (en rfl (en rfl (en rfl (en rfl (en rfl (en rfl (en rfl (en rfl (en rfl (en rfl (en rfl (en rfl (en rfl (en rfl (en rfl (en rfl (en rfl (en rfl s16))))))))))))))))))))))))))))))))))))))))))))))))
  have s37 := (hg 37).trans (en rfl (en rfl (en rfl (en rfl (en rfl (en rfl (en rfl (en rfl (en rfl (en rfl (en rfl (en rfl (en rfl (en rfl (en rfl (en rfl (en rfl (en rfl (en rfl (en rfl (en rfl (en rfl (en rfl (en rfl (en rfl (en rfl (en rfl (en rfl (en rfl (en rfl (en rfl (en rfl (en rfl (en rfl (en rfl (en rfl (en rfl (en rfl (en rfl (en rfl (en rfl (en rfl (en rfl (en rfl (en rfl (en rfl (en rfl (en rfl s37))))))))))))))))))))))))))))))))))))))))))))))))
  have s38 := (hg 38).trans (en rfl (en rfl (en rfl (en rfl (en rfl (en rfl (en rfl (en rfl (en rfl (en rfl (en rfl (en rfl (en rfl (en rfl (en rfl (en rfl (en rfl (en rfl (en rfl (en rfl (en rfl (en rfl (en rfl (en rfl (en rfl (en rfl (en rfl (en rfl (en rfl (en rfl (en rfl (en rfl (en rfl (en rfl (en rfl (en rfl (en rfl (en rfl (en rfl (en rfl (en rfl (en rfl (en rfl (en rfl (en rfl (en rfl (en rfl (en rfl s38))))))))))))))))))))))))))))))))))))))))))))))))
  have s87 := (hg 87).trans es
  clear hg
  rcases Int.lt_or_le N 0 with hn | hn
  ·
    skip
    refine yc_cond s87 (fun hc => by cases hc) (fun _ => ?_)
    refine yc_skip ?_
    refine hK13 _ _ _ ?_
    refine yc_seq (fun K hK15 => ?_)
    have he : spliceE [] 0 0 [(N, 1)] = 3 := by rw [spliceE_one, if_pos hn]
    refine yc_region ?_
    refine x_val (r_assign ec) (nd_of rfl) rfl ?_
    refine xw_nil ?_
    refine hK15 _ _ _ ?_
    refine yc_gen (fun g hg => ?_)
    have s0 := (hg 0).trans (en rfl s0)
    have s1 := (hg 1).trans (en rfl s1)
    have s2 := (hg 2).trans (en rfl s2)
    have s4 := (hg 4).trans (en rfl s4)
    have s5 := (hg 5).trans (en rfl s5)
    have s6 := (hg 6).trans (en rfl s6)
    have s8 := (hg 8).trans (en rfl s8)
    have s10 := (hg 10).trans (en rfl s10)
    have s11 := (hg 11).trans (en rfl s11)
    have s12 := (hg 12).trans es
    have s16 := (hg 16).trans (en rfl s16)
    have s37 := (hg 37).trans (en rfl s37)
    have s38 := (hg 38).trans (en rfl s38)
    have s87 := (hg 87).trans (en rfl s87)
    clear hg
    refine yc_seq (fun K hK16 => ?_)
    refine yc_block ?_
    refine yc_seq (fun K hK17 => ?_)
    refine yc_region ?_
    refine x_val (r_move s1) (nd_of rfl) rfl ?_
    refine x_val (r_lss es ec (decide_eq_true (by omega))) (nd_of rfl) rfl ?_
    refine x_val (r_assign es) (nd_of rfl) rfl ?_
    refine xw_nil ?_
    refine hK17 _ _ _ ?_
    refine yc_gen (fun g hg => ?_)
    have s0 := (hg 0).trans (en rfl (en rfl (en rfl s0)))
    have s1 := (hg 1).trans (en rfl (en rfl (en rfl s1)))
    have s2 := (hg 2).trans (en rfl (en rfl (en rfl s2)))
    have s4 := (hg 4).trans (en rfl (en rfl (en rfl s4)))
    have s5 := (hg 5).trans (en rfl (en rfl (en rfl s5)))
    have s6 := (hg 6).trans (en rfl (en rfl (en rfl s6)))
    have s8 := (hg 8).trans (en rfl (en rfl (en rfl s8)))
    have s10 := (hg 10).trans (en rfl (en rfl (en rfl s10)))
    have s11 := (hg 11).trans (en rfl (en rfl (en rfl s11)))
    have s12 := (hg 12).trans (en rfl (en rfl (en rfl s12)))
    have s16 := (hg 16).trans (en rfl (en rfl (en rfl s16)))
    have s37 := (hg 37).trans (en rfl (en rfl (en rfl s37)))
    have s38 := (hg 38).trans (en rfl (en rfl (en rfl s38)))
    have s87 := (hg 87).trans (en rfl (en rfl (en rfl s87)))
    have s88 := (hg 88).trans es
    clear hg
    refine yc_cond s88 (fun _ => ?_) (fun hc => by cases hc)
    refine yc_region ?_
    refine x_val (r_assign ec) (nd_of rfl) rfl ?_
    refine xw_nil ?_
    refine hK16 _ _ _ ?_
    refine yc_gen (fun g hg => ?_)
    have s0 := (hg 0).trans (en rfl s0)
    have s1 := (hg 1).trans (en rfl s1)
    have s2 := (hg 2).trans (en rfl s2)
    have s4 := (hg 4).trans (en rfl s4)
    have s5 := (hg 5).trans (en rfl s5)
    have s6 := (hg 6).trans (en rfl s6)
    have s8 := (hg 8).trans (en rfl s8)
    have s10 := (hg 10).trans (en rfl s10)
    have s11 := (hg 11).trans (en rfl s11)
    have s12 := (hg 12).trans es
    have s16 := (hg 16).trans (en rfl s16)
    have s37 := (hg 37).trans (en rfl s37)
    have s38 := (hg 38).trans (en rfl s38)
    have s87 := (hg 87).trans (en rfl s87)
    have s88 := (hg 88).trans (en rfl s88)
    clear hg
    refine yc_seq (fun K hK18 => ?_)
    refine yc_seq (fun K hK19 => ?_)
    refine yc_region ?_
    refine x_val (r_move s1) (nd_of rfl) rfl ?_
    refine x_val (r_build2 Try.underlying34 zX Try.sizeOf3 Try.sizeOf3 rfl rfl es ec) (nd_of rfl) rfl ?_
    refine x_bsliceL (c := #[.int .i64 N, .int .i64 1]) h Try.underlying26 Try.sizeOf34 zX rfl (by kernel_rfl) rfl rfl rfl ?_; intro bs w h
    have h := h.f1
    refine x_enter (r_call Try.call10 (.cons (en rfl (en rfl (en rfl s6))) (.cons ec (.cons ec (.cons es .nil))))) (nd_of rfl) rfl (splice_o (B' := 10) (ps := [(N, 1)]) (rslc_cells rfl rfl) (by decide) (by simpa [wfR, I64] using hN) (by simp) (by decide) (by decide) h) ?_
    rintro _ w ⟨rfl, h⟩
    refine x_val (r_move (en rfl (en rfl (en rfl (en rfl s12))))) (nd_of rfl) rfl ?_
    refine x_val (r_neq (en rfl es) es (decide_eq_false (by exact fun hh => hh he))) (nd_of rfl) rfl ?_
    refine x_val (r_move es) (nd_of rfl) rfl ?_
    refine x_take (d := 100) rfl rfl es ?_
    refine x_val (r_build2 Try.underlying34 zX Try.sizeOf3 Try.sizeOf3 rfl rfl ec ec) (nd_of rfl) rfl ?_
    refine x_take (d := 100) rfl rfl (en rfl es) ?_
    refine x_val (r_build2 Try.underlying34 zX Try.sizeOf3 Try.sizeOf3 rfl rfl ec ec) (nd_of rfl) rfl ?_
    refine x_take (d := 100) rfl rfl (en rfl (en rfl es)) ?_
    refine x_bsliceL (c := #[.int .i64 1, .int .i64 2, .int .i64 536870912, .int .i64 3]) h Try.underlying26 Try.sizeOf34 zX rfl (by kernel_rfl) rfl rfl rfl ?_; intro bu w h
    refine x_take (d := 100) rfl rfl (en rfl (en rfl (en rfl es))) ?_
    have h := h.f1
    refine x_enter (r_call Try.call10 (.cons (en rfl (en rfl (en rfl (en rfl (en rfl (en rfl (en rfl (en rfl (en rfl (en rfl s6)))))))))) (.cons ec (.cons ec (.cons es .nil))))) (nd_of rfl) rfl (splice_o (B' := 100) (ps := [(1, 2), (536870912, 3)]) (rslc_cells rfl rfl) hs1 (by simp [wfR, I64]) (by simp; omega) (by decide) (by decide) h) ?_
    rintro _ w ⟨rfl, h⟩
    refine x_take (d := 100) rfl rfl (en rfl (en rfl (en rfl (en rfl es)))) ?_
    refine x_val (r_neq es ec (decide_eq_false (by exact fun hh => hh spliceE_big))) (nd_of rfl) rfl ?_
    rw [spliceS_big] at h
    refine x_val (r_pick_f (en rfl (en rfl (en rfl (en rfl (en rfl es))))) es) (nd_of rfl) rfl ?_
    refine xw_nil ?_
    refine hK19 _ _ _ ?_
    refine yc_gen (fun g hg => ?_)
    have s0 := (hg 0).trans (en rfl (en rfl (en rfl (en rfl (en rfl (en rfl (en rfl (en rfl (en rfl (en rfl (en rfl (en rfl (en rfl s0)))))))))))))
    have s1 := (hg 1).trans (en rfl (en rfl (en rfl (en rfl (en rfl (en rfl (en rfl (en rfl (en rfl (en rfl (en rfl (en rfl (en rfl s1)))))))))))))
    have s2 := (hg 2).trans (en rfl (en rfl (en rfl (en rfl (en rfl (en rfl (en rfl (en rfl (en rfl (en rfl (en rfl (en rfl (en rfl s2)))))))))))))
    have s4 := (hg 4).trans (en rfl (en rfl (en rfl (en rfl (en rfl (en rfl (en rfl (en rfl (en rfl (en rfl (en rfl (en rfl (en rfl s4)))))))))))))
    have s5 := (hg 5).trans (en rfl (en rfl (en rfl (en rfl (en rfl (en rfl (en rfl (en rfl (en rfl (en rfl (en rfl (en rfl (en rfl s5)))))))))))))
    have s6 := (hg 6).trans (en rfl (en rfl (en rfl (en rfl (en rfl (en rfl (en rfl (en rfl (en rfl (en rfl (en rfl (en rfl (en rfl s6)))))))))))))
    have s8 := (hg 8).trans (en rfl (en rfl (en rfl (en rfl (en rfl (en rfl (en rfl (en rfl (en rfl (en rfl (en rfl (en rfl (en rfl s8)))))))))))))
    have s10 := (hg 10).trans (en rfl (en rfl (en rfl (en rfl (en rfl (en rfl (en rfl (en rfl (en rfl (en rfl (en rfl (en rfl (en rfl s10)))))))))))))
    have s11 := (hg 11).trans (en rfl (en rfl (en rfl (en rfl (en rfl (en rfl (en rfl (en rfl (en rfl (en rfl (en rfl (en rfl (en rfl s11)))))))))))))
    have s12 := (hg 12).trans (en rfl (en rfl (en rfl (en rfl (en rfl (en rfl (en rfl (en rfl (en rfl (en rfl (en rfl (en rfl (en rfl s12)))))))))))))
    have s16 := (hg 16).trans (en rfl (en rfl (en rfl (en rfl (en rfl (en rfl (en rfl (en rfl (en rfl (en rfl (en rfl (en rfl (en rfl s16)))))))))))))
    have s37 := (hg 37).trans (en rfl (en rfl (en rfl (en rfl (en rfl (en rfl (en rfl (en rfl (en rfl (en rfl (en rfl (en rfl (en rfl s37)))))))))))))
    have s38 := (hg 38).trans (en rfl (en rfl (en rfl (en rfl (en rfl (en rfl (en rfl (en rfl (en rfl (en rfl (en rfl (en rfl (en rfl s38)))))))))))))
    have s87 := (hg 87).trans (en rfl (en rfl (en rfl (en rfl (en rfl (en rfl (en rfl (en rfl (en rfl (en rfl (en rfl (en rfl (en rfl s87)))))))))))))
    have s88 := (hg 88).trans (en rfl (en rfl (en rfl (en rfl (en rfl (en rfl (en rfl (en rfl (en rfl (en rfl (en rfl (en rfl (en rfl s88)))))))))))))
    have s106 := (hg 106).trans es
    clear hg
    refine yc_cond s106 (fun hc => by cases hc) (fun _ => ?_)
    refine yc_skip ?_
    refine hK18 _ _ _ ?_
    refine yc_seq (fun K hK20 => ?_)
    refine yc_region ?_
    refine x_val (r_move s12) (nd_of rfl) rfl ?_
    refine x_val (r_neq es ec (r := true) rfl) (nd_of rfl) rfl ?_
    refine x_val (r_move es) (nd_of rfl) rfl ?_
    refine x_pass (d := 109) rfl rfl es rfl ?_
    refine x_pass (d := 109) rfl rfl (en rfl es) rfl ?_
    refine x_pass (d := 109) rfl rfl (en rfl (en rfl es)) rfl ?_
    refine x_val (r_pick_t (en rfl (en rfl (en rfl es))) ec) (nd_of rfl) rfl ?_
    refine x_val (r_move es) (nd_of rfl) rfl ?_
    refine x_take (d := 114) rfl rfl es ?_
    refine x_enter (r_call Try.call9 .nil) (nd_of rfl) rfl (known_ok h) ?_
    rintro _ w ⟨rfl, h⟩
    have h := h.f3
    refine x_val (r_pick_t (en rfl es) es) (nd_of rfl) rfl ?_
    refine x_st (r_store h 4 rfl Try.sizeOf4 (en rfl (en rfl (en rfl (en rfl (en rfl (en rfl (en rfl (en rfl (en rfl (en rfl s4)))))))))) es rfl gc0) rfl (h.u4 sc0) ?_
    intro w h
    refine xw_nil ?_
    refine hK20 _ _ _ ?_
    refine yc_gen (fun g hg => ?_)
    have s0 := (hg 0).trans (en rfl (en rfl (en rfl (en rfl (en rfl (en rfl (en rfl (en rfl (en rfl (en rfl s0))))))))))
    have s1 := (hg 1).trans (en rfl (en rfl (en rfl (en rfl (en rfl (en rfl (en rfl (en rfl (en rfl (en rfl s1))))))))))
    have s2 := (hg 2).trans (en rfl (en rfl (en rfl (en rfl (en rfl (en rfl (en rfl (en rfl (en rfl (en rfl s2))))))))))
    have s4 := (hg 4).trans (en rfl (en rfl (en rfl (en rfl (en rfl (en rfl (en rfl (en rfl (en rfl (en rfl s4))))))))))
    have s5 := (hg 5).trans (en rfl (en rfl (en rfl (en rfl (en rfl (en rfl (en rfl (en rfl (en rfl (en rfl s5))))))))))
    have s6 := (hg 6).trans (en rfl (en rfl (en rfl (en rfl (en rfl (en rfl (en rfl (en rfl (en rfl (en rfl s6))))))))))
    have s8 := (hg 8).trans (en rfl (en rfl (en rfl (en rfl (en rfl (en rfl (en rfl (en rfl (en rfl (en rfl s8))))))))))
    have s10 := (hg 10).trans (en rfl (en rfl (en rfl (en rfl (en rfl (en rfl (en rfl (en rfl (en rfl (en rfl s10))))))))))
    have s11 := (hg 11).trans (en rfl (en rfl (en rfl (en rfl (en rfl (en rfl (en rfl (en rfl (en rfl (en rfl s11))))))))))
    have s12 := (hg 12).trans (en rfl (en rfl (en rfl (en rfl (en rfl (en rfl (en rfl (en rfl (en rfl (en rfl s12))))))))))
    have s16 := (hg 16).trans (en rfl (en rfl (en rfl (en rfl (en rfl (en rfl (en rfl (en rfl (en rfl (en rfl s16))))))))))
    have s37 := (hg 37).trans (en rfl (en rfl (en rfl (en rfl (en rfl (en rfl (en rfl (en rfl (en rfl (en rfl s37))))))))))
    have s38 := (hg 38).trans (en rfl (en rfl (en rfl (en rfl (en rfl (en rfl (en rfl (en rfl (en rfl (en rfl s38))))))))))
    have s87 := (hg 87).trans (en rfl (en rfl (en rfl (en rfl (en rfl (en rfl (en rfl (en rfl (en rfl (en rfl s87))))))))))
    have s88 := (hg 88).trans (en rfl (en rfl (en rfl (en rfl (en rfl (en rfl (en rfl (en rfl (en rfl (en rfl s88))))))))))
    have s106 := (hg 106).trans (en rfl (en rfl (en rfl (en rfl (en rfl (en rfl (en rfl (en rfl (en rfl (en rfl s106))))))))))
    clear hg
    refine yc_ret ?_
    refine bodyY_mark h ?_; intro w h; refine bodyY_nil ?_
    refine bodyR_c rfl s4 (lv_one h 4 rfl Try.isAgg4 gc0) ?_
    exact ⟨rfl, h.drop.drop.drop.drop.drop.drop⟩
  ·
    skip
    refine yc_cond s87 (fun hc => by cases hc) (fun _ => ?_)
    refine yc_skip ?_
    refine hK13 _ _ _ ?_
    refine yc_seq (fun K hK21 => ?_)
    refine yc_region ?_
    refine x_val (r_assign ec) (nd_of rfl) rfl ?_
    refine xw_nil ?_
    refine hK21 _ _ _ ?_
    refine yc_gen (fun g hg => ?_)
    have s0 := (hg 0).trans (en rfl s0)
    have s1 := (hg 1).trans (en rfl s1)
    have s2 := (hg 2).trans (en rfl s2)
    have s4 := (hg 4).trans (en rfl s4)
    have s5 := (hg 5).trans (en rfl s5)
    have s6 := (hg 6).trans (en rfl s6)
    have s8 := (hg 8).trans (en rfl s8)
    have s10 := (hg 10).trans (en rfl s10)
    have s11 := (hg 11).trans (en rfl s11)
    have s12 := (hg 12).trans es
    have s16 := (hg 16).trans (en rfl s16)
    have s37 := (hg 37).trans (en rfl s37)
    have s38 := (hg 38).trans (en rfl s38)
    have s87 := (hg 87).trans (en rfl s87)
    clear hg
    refine yc_seq (fun K hK22 => ?_)
    refine yc_block ?_
    refine yc_seq (fun K hK23 => ?_)
    refine yc_region ?_
    refine x_val (r_move s1) (nd_of rfl) rfl ?_
    refine x_val (r_lss es ec (decide_eq_false (by omega))) (nd_of rfl) rfl ?_
    refine x_val (r_assign es) (nd_of rfl) rfl ?_
    refine xw_nil ?_
    refine hK23 _ _ _ ?_
    refine yc_gen (fun g hg => ?_)
    have s0 := (hg 0).trans (en rfl (en rfl (en rfl s0)))
    have s1 := (hg 1).trans (en rfl (en rfl (en rfl s1)))
    have s2 := (hg 2).trans (en rfl (en rfl (en rfl s2)))
    have s4 := (hg 4).trans (en rfl (en rfl (en rfl s4)))
    have s5 := (hg 5).trans (en rfl (en rfl (en rfl s5)))
    have s6 := (hg 6).trans (en rfl (en rfl (en rfl s6)))
    have s8 := (hg 8).trans (en rfl (en rfl (en rfl s8)))
    have s10 := (hg 10).trans (en rfl (en rfl (en rfl s10)))
    have s11 := (hg 11).trans (en rfl (en rfl (en rfl s11)))
    have s12 := (hg 12).trans (en rfl (en rfl (en rfl s12)))
    have s16 := (hg 16).trans (en rfl (en rfl (en rfl s16)))
    have s37 := (hg 37).trans (en rfl (en rfl (en rfl s37)))
    have s38 := (hg 38).trans (en rfl (en rfl (en rfl s38)))
    have s87 := (hg 87).trans (en rfl (en rfl (en rfl s87)))
    have s88 := (hg 88).trans es
    clear hg
    rcases Int.lt_or_le 536870912 N with hn2 | hn2
    ·
      skip
      refine yc_cond s88 (fun hc => by cases hc) (fun _ => ?_)
      refine yc_seq (fun K hK24 => ?_)
      have he : spliceE [] 0 0 [(N, 1)] = 8 := by rw [spliceE_one, if_neg (by omega), if_pos hn2]
      refine yc_region ?_
      refine x_val (r_move s1) (nd_of rfl) rfl ?_
      refine x_val (r_gtr es ec (decide_eq_true (by omega))) (nd_of rfl) rfl ?_
      refine x_val (r_assign es) (nd_of rfl) rfl ?_
      refine xw_nil ?_
      refine hK24 _ _ _ ?_
      refine yc_gen (fun g hg => ?_)
      have s0 := (hg 0).trans (en rfl (en rfl (en rfl s0)))
      have s1 := (hg 1).trans (en rfl (en rfl (en rfl s1)))
      have s2 := (hg 2).trans (en rfl (en rfl (en rfl s2)))
      have s4 := (hg 4).trans (en rfl (en rfl (en rfl s4)))
      have s5 := (hg 5).trans (en rfl (en rfl (en rfl s5)))
      have s6 := (hg 6).trans (en rfl (en rfl (en rfl s6)))
      have s8 := (hg 8).trans (en rfl (en rfl (en rfl s8)))
      have s10 := (hg 10).trans (en rfl (en rfl (en rfl s10)))
      have s11 := (hg 11).trans (en rfl (en rfl (en rfl s11)))
      have s12 := (hg 12).trans (en rfl (en rfl (en rfl s12)))
      have s16 := (hg 16).trans (en rfl (en rfl (en rfl s16)))
      have s37 := (hg 37).trans (en rfl (en rfl (en rfl s37)))
      have s38 := (hg 38).trans (en rfl (en rfl (en rfl s38)))
      have s87 := (hg 87).trans (en rfl (en rfl (en rfl s87)))
      have s88 := (hg 88).trans (en rfl (en rfl (en rfl s88)))
      have s91 := (hg 91).trans es
      clear hg
      refine yc_cond s91 (fun _ => ?_) (fun hc => by cases hc)
      refine yc_region ?_
      refine x_val (r_assign ec) (nd_of rfl) rfl ?_
      refine xw_nil ?_
      refine hK22 _ _ _ ?_
      refine yc_gen (fun g hg => ?_)
      have s0 := (hg 0).trans (en rfl s0)
      have s1 := (hg 1).trans (en rfl s1)
      have s2 := (hg 2).trans (en rfl s2)
      have s4 := (hg 4).trans (en rfl s4)
      have s5 := (hg 5).trans (en rfl s5)
      have s6 := (hg 6).trans (en rfl s6)
      have s8 := (hg 8).trans (en rfl s8)
      have s10 := (hg 10).trans (en rfl s10)
      have s11 := (hg 11).trans (en rfl s11)
      have s12 := (hg 12).trans es
      have s16 := (hg 16).trans (en rfl s16)
      have s37 := (hg 37).trans (en rfl s37)
      have s38 := (hg 38).trans (en rfl s38)
      have s87 := (hg 87).trans (en rfl s87)
      have s88 := (hg 88).trans (en rfl s88)
      have s91 := (hg 91).trans (en rfl s91)
      clear hg
      refine yc_seq (fun K hK25 => ?_)
      refine yc_seq (fun K hK26 => ?_)
      refine yc_region ?_
      refine x_val (r_move s1) (nd_of rfl) rfl ?_
      refine x_val (r_build2 Try.underlying34 zX Try.sizeOf3 Try.sizeOf3 rfl rfl es ec) (nd_of rfl) rfl ?_
      refine x_bsliceL (c := #[.int .i64 N, .int .i64 1]) h Try.underlying26 Try.sizeOf34 zX rfl (by kernel_rfl) rfl rfl rfl ?_; intro bs w h
      have h := h.f1
      refine x_enter (r_call Try.call10 (.cons (en rfl (en rfl (en rfl s6))) (.cons ec (.cons ec (.cons es .nil))))) (nd_of rfl) rfl (splice_o (B' := 10) (ps := [(N, 1)]) (rslc_cells rfl rfl) (by decide) (by simpa [wfR, I64] using hN) (by simp) (by decide) (by decide) h) ?_
      rintro _ w ⟨rfl, h⟩
      refine x_val (r_move (en rfl (en rfl (en rfl (en rfl s12))))) (nd_of rfl) rfl ?_
      refine x_val (r_neq (en rfl es) es (decide_eq_false (by exact fun hh => hh he))) (nd_of rfl) rfl ?_
      refine x_val (r_move es) (nd_of rfl) rfl ?_
      refine x_take (d := 100) rfl rfl es ?_
      refine x_val (r_build2 Try.underlying34 zX Try.sizeOf3 Try.sizeOf3 rfl rfl ec ec) (nd_of rfl) rfl ?_
      refine x_take (d := 100) rfl rfl (en rfl es) ?_
      refine x_val (r_build2 Try.underlying34 zX Try.sizeOf3 Try.sizeOf3 rfl rfl ec ec) (nd_of rfl) rfl ?_
      refine x_take (d := 100) rfl rfl (en rfl (en rfl es)) ?_
      refine x_bsliceL (c := #[.int .i64 1, .int .i64 2, .int .i64 536870912, .int .i64 3]) h Try.underlying26 Try.sizeOf34 zX rfl (by kernel_rfl) rfl rfl rfl ?_; intro bu w h
      refine x_take (d := 100) rfl rfl (en rfl (en rfl (en rfl es))) ?_
      have h := h.f1
      refine x_enter (r_call Try.call10 (.cons (en rfl (en rfl (en rfl (en rfl (en rfl (en rfl (en rfl (en rfl (en rfl (en rfl s6)))))))))) (.cons ec (.cons ec (.cons es .nil))))) (nd_of rfl) rfl (splice_o (B' := 100) (ps := [(1, 2), (536870912, 3)]) (rslc_cells rfl rfl) hs1 (by simp [wfR, I64]) (by simp; omega) (by decide) (by decide) h) ?_
      rintro _ w ⟨rfl, h⟩
      refine x_take (d := 100) rfl rfl (en rfl (en rfl (en rfl (en rfl es)))) ?_
      refine x_val (r_neq es ec (decide_eq_false (by exact fun hh => hh spliceE_big))) (nd_of rfl) rfl ?_
      rw [spliceS_big] at h
      refine x_val (r_pick_f (en rfl (en rfl (en rfl (en rfl (en rfl es))))) es) (nd_of rfl) rfl ?_
      refine xw_nil ?_
      refine hK26 _ _ _ ?_
      refine yc_gen (fun g hg => ?_)
      have s0 := (hg 0).trans (en rfl (en rfl (en rfl (en rfl (en rfl (en rfl (en rfl (en rfl (en rfl (en rfl (en rfl (en rfl (en rfl s0)))))))))))))
      have s1 := (hg 1).trans (en rfl (en rfl (en rfl (en rfl (en rfl (en rfl (en rfl (en rfl (en rfl (en rfl (en rfl (en rfl (en rfl s1)))))))))))))
      have s2 := (hg 2).trans (en rfl (en rfl (en rfl (en rfl (en rfl (en rfl (en rfl (en rfl (en rfl (en rfl (en rfl (en rfl (en rfl s2)))))))))))))
      have s4 := (hg 4).trans (en rfl (en rfl (en rfl (en rfl (en rfl (en rfl (en rfl (en rfl (en rfl (en rfl (en rfl (en rfl (en rfl s4)))))))))))))
      have s5 := (hg 5).trans (en rfl (en rfl (en rfl (en rfl (en rfl (en rfl (en rfl (en rfl (en rfl (en rfl (en rfl (en rfl (en rfl s5)))))))))))))
      have s6 := (hg 6).trans (en rfl (en rfl (en rfl (en rfl (en rfl (en rfl (en rfl (en rfl (en rfl (en rfl (en rfl (en rfl (en rfl s6)))))))))))))
      have s8 := (hg 8).trans (en rfl (en rfl (en rfl (en rfl (en rfl (en rfl (en rfl (en rfl (en rfl (en rfl (en rfl (en rfl (en rfl s8)))))))))))))
      have s10 := (hg 10).trans (en rfl (en rfl (en rfl (en rfl (en rfl (en rfl (en rfl (en rfl (en rfl (en rfl (en rfl (en rfl (en rfl s10)))))))))))))
      have s11 := (hg 11).trans (en rfl (en rfl (en rfl (en rfl (en rfl (en rfl (en rfl (en rfl (en rfl (en rfl (en rfl (en rfl (en rfl s11)))))))))))))
      have s12 := (hg 12).trans (en rfl (en rfl (en rfl (en rfl (en rfl (en rfl (en rfl (en rfl (en rfl (en rfl (en rfl (en rfl (en rfl s12)))))))))))))
      have s16 := (hg 16).trans (en rfl (en rfl (en rfl (en rfl (en rfl (en rfl (en rfl (en rfl (en rfl (en rfl (en rfl (en rfl (en rfl s16)))))))))))))
      have s37 := (hg 37).trans (en rfl (en rfl (en rfl (en rfl (en rfl (en rfl (en rfl (en rfl (en rfl (en rfl (en rfl (en rfl (en rfl s37)))))))))))))
      have s38 := (hg 38).trans (en rfl (en rfl (en rfl (en rfl (en rfl (en rfl (en rfl (en rfl (en rfl (en rfl (en rfl (en rfl (en rfl s38)))))))))))))
      have s87 := (hg 87).trans (en rfl (en rfl (en rfl (en rfl (en rfl (en rfl (en rfl (en rfl (en rfl (en rfl (en rfl (en rfl (en rfl s87)))))))))))))
      have s88 := (hg 88).trans (en rfl (en rfl (en rfl (en rfl (en rfl (en rfl (en rfl (en rfl (en rfl (en rfl (en rfl (en rfl (en rfl s88)))))))))))))
      have s91 := (hg 91).trans (en rfl (en rfl (en rfl (en rfl (en rfl (en rfl (en rfl (en rfl (en rfl (en rfl (en rfl (en rfl (en rfl s91)))))))))))))
      have s106 := (hg 106).trans es
      clear hg
      refine yc_cond s106 (fun hc => by cases hc) (fun _ => ?_)
      refine yc_skip ?_
      refine hK25 _ _ _ ?_
      refine yc_seq (fun K hK27 => ?_)
      refine yc_region ?_
      refine x_val (r_move s12) (nd_of rfl) rfl ?_
      refine x_val (r_neq es ec (r := true) rfl) (nd_of rfl) rfl ?_
      refine x_val (r_move es) (nd_of rfl) rfl ?_
      refine x_pass (d := 109) rfl rfl es rfl ?_
      refine x_pass (d := 109) rfl rfl (en rfl es) rfl ?_
      refine x_pass (d := 109) rfl rfl (en rfl (en rfl es)) rfl ?_
      refine x_val (r_pick_t (en rfl (en rfl (en rfl es))) ec) (nd_of rfl) rfl ?_
      refine x_val (r_move es) (nd_of rfl) rfl ?_
      refine x_take (d := 114) rfl rfl es ?_
      refine x_enter (r_call Try.call9 .nil) (nd_of rfl) rfl (known_ok h) ?_
      rintro _ w ⟨rfl, h⟩
      have h := h.f3
      refine x_val (r_pick_t (en rfl es) es) (nd_of rfl) rfl ?_
      refine x_st (r_store h 4 rfl Try.sizeOf4 (en rfl (en rfl (en rfl (en rfl (en rfl (en rfl (en rfl (en rfl (en rfl (en rfl s4)))))))))) es rfl gc0) rfl (h.u4 sc0) ?_
      intro w h
      refine xw_nil ?_
      refine hK27 _ _ _ ?_
      refine yc_gen (fun g hg => ?_)
      have s0 := (hg 0).trans (en rfl (en rfl (en rfl (en rfl (en rfl (en rfl (en rfl (en rfl (en rfl (en rfl s0))))))))))
      have s1 := (hg 1).trans (en rfl (en rfl (en rfl (en rfl (en rfl (en rfl (en rfl (en rfl (en rfl (en rfl s1))))))))))
      have s2 := (hg 2).trans (en rfl (en rfl (en rfl (en rfl (en rfl (en rfl (en rfl (en rfl (en rfl (en rfl s2))))))))))
      have s4 := (hg 4).trans (en rfl (en rfl (en rfl (en rfl (en rfl (en rfl (en rfl (en rfl (en rfl (en rfl s4))))))))))
      have s5 := (hg 5).trans (en rfl (en rfl (en rfl (en rfl (en rfl (en rfl (en rfl (en rfl (en rfl (en rfl s5))))))))))
      have s6 := (hg 6).trans (en rfl (en rfl (en rfl (en rfl (en rfl (en rfl (en rfl (en rfl (en rfl (en rfl s6))))))))))
      have s8 := (hg 8).trans (en rfl (en rfl (en rfl (en rfl (en rfl (en rfl (en rfl (en rfl (en rfl (en rfl s8))))))))))
      have s10 := (hg 10).trans (en rfl (en rfl (en rfl (en rfl (en rfl (en rfl (en rfl (en rfl (en rfl (en rfl s10))))))))))
      have s11 := (hg 11).trans (en rfl (en rfl (en rfl (en rfl (en rfl (en rfl (en rfl (en rfl (en rfl (en rfl s11))))))))))
      have s12 := (hg 12).trans (en rfl (en rfl (en rfl (en rfl (en rfl (en rfl (en rfl (en rfl (en rfl (en rfl s12))))))))))
      have s16 := (hg 16).trans (en rfl (en rfl (en rfl (en rfl (en rfl (en rfl (en rfl (en rfl (en rfl (en rfl s16))))))))))
      have s37 := (hg 37).trans (en rfl (en rfl (en rfl (en rfl (en rfl (en rfl (en rfl (en rfl (en rfl (en rfl s37))))))))))
      have s38 := (hg 38).trans (en rfl (en rfl (en rfl (en rfl (en rfl (en rfl (en rfl (en rfl (en rfl (en rfl s38))))))))))
      have s87 := (hg 87).trans (en rfl (en rfl (en rfl (en rfl (en rfl (en rfl (en rfl (en rfl (en rfl (en rfl s87))))))))))
      have s88 := (hg 88).trans (en rfl (en rfl (en rfl (en rfl (en rfl (en rfl (en rfl (en rfl (en rfl (en rfl s88))))))))))
      have s91 := (hg 91).trans (en rfl (en rfl (en rfl (en rfl (en rfl (en rfl (en rfl (en rfl (en rfl (en rfl s91))))))))))
      have s106 := (hg 106).trans (en rfl (en rfl (en rfl (en rfl (en rfl (en rfl (en rfl (en rfl (en rfl (en rfl s106))))))))))
      clear hg
      refine yc_ret ?_
      refine bodyY_mark h ?_; intro w h; refine bodyY_nil ?_
      refine bodyR_c rfl s4 (lv_one h 4 rfl Try.isAgg4 gc0) ?_
      exact ⟨rfl, h.drop.drop.drop.drop.drop.drop⟩
    ·
      skip
      refine yc_cond s88 (fun hc => by cases hc) (fun _ => ?_)
      refine yc_seq (fun K hK28 => ?_)
      have he : spliceE [] 0 0 [(N, 1)] = 0 := by rw [spliceE_one, if_neg (by omega), if_neg (by omega)]
      have hsz : (sz (spliceS [] 0 0 [(N, 1)]) : Int) = N := by have := sz_splice he; simpa [sumR, sz] using this
      refine yc_region ?_
      refine x_val (r_move s1) (nd_of rfl) rfl ?_
      refine x_val (r_gtr es ec (decide_eq_false (by omega))) (nd_of rfl) rfl ?_
      refine x_val (r_assign es) (nd_of rfl) rfl ?_
      refine xw_nil ?_
      refine hK28 _ _ _ ?_
      refine yc_gen (fun g hg => ?_)
      have s0 := (hg 0).trans (en rfl (en rfl (en rfl s0)))
      have s1 := (hg 1).trans (en rfl (en rfl (en rfl s1)))
      have s2 := (hg 2).trans (en rfl (en rfl (en rfl s2)))
      have s4 := (hg 4).trans (en rfl (en rfl (en rfl s4)))
      have s5 := (hg 5).trans (en rfl (en rfl (en rfl s5)))
      have s6 := (hg 6).trans (en rfl (en rfl (en rfl s6)))
      have s8 := (hg 8).trans (en rfl (en rfl (en rfl s8)))
      have s10 := (hg 10).trans (en rfl (en rfl (en rfl s10)))
      have s11 := (hg 11).trans (en rfl (en rfl (en rfl s11)))
      have s12 := (hg 12).trans (en rfl (en rfl (en rfl s12)))
      have s16 := (hg 16).trans (en rfl (en rfl (en rfl s16)))
      have s37 := (hg 37).trans (en rfl (en rfl (en rfl s37)))
      have s38 := (hg 38).trans (en rfl (en rfl (en rfl s38)))
      have s87 := (hg 87).trans (en rfl (en rfl (en rfl s87)))
      have s88 := (hg 88).trans (en rfl (en rfl (en rfl s88)))
      have s91 := (hg 91).trans es
      clear hg
      refine yc_cond s91 (fun hc => by cases hc) (fun _ => ?_)
      refine yc_skip ?_
      refine hK22 _ _ _ ?_
      refine yc_seq (fun K hK29 => ?_)
      refine yc_seq (fun K hK30 => ?_)
      refine yc_region ?_
      refine x_val (r_move s1) (nd_of rfl) rfl ?_
      refine x_val (r_build2 Try.underlying34 zX Try.sizeOf3 Try.sizeOf3 rfl rfl es ec) (nd_of rfl) rfl ?_
      refine x_bsliceL (c := #[.int .i64 N, .int .i64 1]) h Try.underlying26 Try.sizeOf34 zX rfl (by kernel_rfl) rfl rfl rfl ?_; intro bs w h
      have h := h.f1
      refine x_enter (r_call Try.call10 (.cons (en rfl (en rfl (en rfl s6))) (.cons ec (.cons ec (.cons es .nil))))) (nd_of rfl) rfl (splice_o (B' := 10) (ps := [(N, 1)]) (rslc_cells rfl rfl) (by decide) (by simpa [wfR, I64] using hN) (by simp) (by decide) (by decide) h) ?_
      rintro _ w ⟨rfl, h⟩
      refine x_val (r_move (en rfl (en rfl (en rfl (en rfl s12))))) (nd_of rfl) rfl ?_
      refine x_val (r_neq (en rfl es) es (decide_eq_false (by exact fun hh => hh he))) (nd_of rfl) rfl ?_
      refine x_val (r_move es) (nd_of rfl) rfl ?_
      refine x_take (d := 100) rfl rfl es ?_
      refine x_val (r_build2 Try.underlying34 zX Try.sizeOf3 Try.sizeOf3 rfl rfl ec ec) (nd_of rfl) rfl ?_
      refine x_take (d := 100) rfl rfl (en rfl es) ?_
      refine x_val (r_build2 Try.underlying34 zX Try.sizeOf3 Try.sizeOf3 rfl rfl ec ec) (nd_of rfl) rfl ?_
      refine x_take (d := 100) rfl rfl (en rfl (en rfl es)) ?_
      refine x_bsliceL (c := #[.int .i64 1, .int .i64 2, .int .i64 536870912, .int .i64 3]) h Try.underlying26 Try.sizeOf34 zX rfl (by kernel_rfl) rfl rfl rfl ?_; intro bu w h
      refine x_take (d := 100) rfl rfl (en rfl (en rfl (en rfl es))) ?_
      have h := h.f1
      refine x_enter (r_call Try.call10 (.cons (en rfl (en rfl (en rfl (en rfl (en rfl (en rfl (en rfl (en rfl (en rfl (en rfl s6)))))))))) (.cons ec (.cons ec (.cons es .nil))))) (nd_of rfl) rfl (splice_o (B' := 100) (ps := [(1, 2), (536870912, 3)]) (rslc_cells rfl rfl) hs1 (by simp [wfR, I64]) (by simp; omega) (by decide) (by decide) h) ?_
      rintro _ w ⟨rfl, h⟩
      refine x_take (d := 100) rfl rfl (en rfl (en rfl (en rfl (en rfl es)))) ?_
      refine x_val (r_neq es ec (decide_eq_false (by exact fun hh => hh spliceE_big))) (nd_of rfl) rfl ?_
      rw [spliceS_big] at h
      refine x_val (r_pick_f (en rfl (en rfl (en rfl (en rfl (en rfl es))))) es) (nd_of rfl) rfl ?_
      refine xw_nil ?_
      refine hK30 _ _ _ ?_
      refine yc_gen (fun g hg => ?_)
      have s0 := (hg 0).trans (en rfl (en rfl (en rfl (en rfl (en rfl (en rfl (en rfl (en rfl (en rfl (en rfl (en rfl (en rfl (en rfl s0)))))))))))))
      have s1 := (hg 1).trans (en rfl (en rfl (en rfl (en rfl (en rfl (en rfl (en rfl (en rfl (en rfl (en rfl (en rfl (en rfl (en rfl s1)))))))))))))
      have s2 := (hg 2).trans (en rfl (en rfl (en rfl (en rfl (en rfl (en rfl (en rfl (en rfl (en rfl (en rfl (en rfl (en rfl (en rfl s2)))))))))))))
      have s4 := (hg 4).trans (en rfl (en rfl (en rfl (en rfl (en rfl (en rfl (en rfl (en rfl (en rfl (en rfl (en rfl (en rfl (en rfl s4)))))))))))))
      have s5 := (hg 5).trans (en rfl (en rfl (en rfl (en rfl (en rfl (en rfl (en rfl (en rfl (en rfl (en rfl (en rfl (en rfl (en rfl s5)))))))))))))
      have s6 := (hg 6).trans (en rfl (en rfl (en rfl (en rfl (en rfl (en rfl (en rfl (en rfl (en rfl (en rfl (en rfl (en rfl (en rfl s6)))))))))))))
      have s8 := (hg 8).trans (en rfl (en rfl (en rfl (en rfl (en rfl (en rfl (en rfl (en rfl (en rfl (en rfl (en rfl (en rfl (en rfl s8)))))))))))))
      have s10 := (hg 10).trans (en rfl (en rfl (en rfl (en rfl (en rfl (en rfl (en rfl (en rfl (en rfl (en rfl (en rfl (en rfl (en rfl s10)))))))))))))
      have s11 := (hg 11).trans (en rfl (en rfl (en rfl (en rfl (en rfl (en rfl (en rfl (en rfl (en rfl (en rfl (en rfl (en rfl (en rfl s11)))))))))))))
      have s12 := (hg 12).trans (en rfl (en rfl (en rfl (en rfl (en rfl (en rfl (en rfl (en rfl (en rfl (en rfl (en rfl (en rfl (en rfl s12)))))))))))))
      have s16 := (hg 16).trans (en rfl (en rfl (en rfl (en rfl (en rfl (en rfl (en rfl (en rfl (en rfl (en rfl (en rfl (en rfl (en rfl s16)))))))))))))
      have s37 := (hg 37).trans (en rfl (en rfl (en rfl (en rfl (en rfl (en rfl (en rfl (en rfl (en rfl (en rfl (en rfl (en rfl (en rfl s37)))))))))))))
      have s38 := (hg 38).trans (en rfl (en rfl (en rfl (en rfl (en rfl (en rfl (en rfl (en rfl (en rfl (en rfl (en rfl (en rfl (en rfl s38)))))))))))))
      have s87 := (hg 87).trans (en rfl (en rfl (en rfl (en rfl (en rfl (en rfl (en rfl (en rfl (en rfl (en rfl (en rfl (en rfl (en rfl s87)))))))))))))
      have s88 := (hg 88).trans (en rfl (en rfl (en rfl (en rfl (en rfl (en rfl (en rfl (en rfl (en rfl (en rfl (en rfl (en rfl (en rfl s88)))))))))))))
      have s91 := (hg 91).trans (en rfl (en rfl (en rfl (en rfl (en rfl (en rfl (en rfl (en rfl (en rfl (en rfl (en rfl (en rfl (en rfl s91)))))))))))))
      have s106 := (hg 106).trans es
      clear hg
      refine yc_cond s106 (fun hc => by cases hc) (fun _ => ?_)
      refine yc_skip ?_
      refine hK29 _ _ _ ?_
      refine yc_seq (fun K hK31 => ?_)
      refine yc_region ?_
      refine x_val (r_move s12) (nd_of rfl) rfl ?_
      refine x_val (r_neq es ec (r := false) rfl) (nd_of rfl) rfl ?_
      refine x_val (r_move es) (nd_of rfl) rfl ?_
      refine x_take (d := 109) rfl rfl es ?_
      refine x_enter (r_call Try.call14 (.cons (en rfl (en rfl (en rfl s6))) .nil)) (nd_of rfl) rfl (len_o h) ?_
      rintro _ w ⟨rfl, h⟩
      refine x_take (d := 109) rfl rfl (en rfl es) ?_
      refine x_val (r_move (en rfl (en rfl (en rfl (en rfl s1))))) (nd_of rfl) rfl ?_
      refine x_take (d := 109) rfl rfl (en rfl (en rfl es)) ?_
      refine x_val (r_eql (en rfl es) es (decide_eq_true (by exact hsz))) (nd_of rfl) rfl ?_
      refine x_val (r_pick_f (en rfl (en rfl (en rfl es))) es) (nd_of rfl) rfl ?_
      refine x_val (r_move es) (nd_of rfl) rfl ?_
      refine x_take (d := 114) rfl rfl es ?_
      refine x_enter (r_call Try.call9 .nil) (nd_of rfl) rfl (known_ok h) ?_
      rintro _ w ⟨rfl, h⟩
      have h := h.f3
      refine x_val (r_pick_t (en rfl es) es) (nd_of rfl) rfl ?_
      refine x_st (r_store h 4 rfl Try.sizeOf4 (en rfl (en rfl (en rfl (en rfl (en rfl (en rfl (en rfl (en rfl (en rfl (en rfl s4)))))))))) es rfl gc0) rfl (h.u4 sc0) ?_
      intro w h
      refine xw_nil ?_
      refine hK31 _ _ _ ?_
      refine yc_gen (fun g hg => ?_)
      have s0 := (hg 0).trans (en rfl (en rfl (en rfl (en rfl (en rfl (en rfl (en rfl (en rfl (en rfl (en rfl s0))))))))))
      have s1 := (hg 1).trans (en rfl (en rfl (en rfl (en rfl (en rfl (en rfl (en rfl (en rfl (en rfl (en rfl s1))))))))))
      have s2 := (hg 2).trans (en rfl (en rfl (en rfl (en rfl (en rfl (en rfl (en rfl (en rfl (en rfl (en rfl s2))))))))))
      have s4 := (hg 4).trans (en rfl (en rfl (en rfl (en rfl (en rfl (en rfl (en rfl (en rfl (en rfl (en rfl s4))))))))))
      have s5 := (hg 5).trans (en rfl (en rfl (en rfl (en rfl (en rfl (en rfl (en rfl (en rfl (en rfl (en rfl s5))))))))))
      have s6 := (hg 6).trans (en rfl (en rfl (en rfl (en rfl (en rfl (en rfl (en rfl (en rfl (en rfl (en rfl s6))))))))))
      have s8 := (hg 8).trans (en rfl (en rfl (en rfl (en rfl (en rfl (en rfl (en rfl (en rfl (en rfl (en rfl s8))))))))))
      have s10 := (hg 10).trans (en rfl (en rfl (en rfl (en rfl (en rfl (en rfl (en rfl (en rfl (en rfl (en rfl s10))))))))))
      have s11 := (hg 11).trans (en rfl (en rfl (en rfl (en rfl (en rfl (en rfl (en rfl (en rfl (en rfl (en rfl s11))))))))))
      have s12 := (hg 12).trans (en rfl (en rfl (en rfl (en rfl (en rfl (en rfl (en rfl (en rfl (en rfl (en rfl s12))))))))))
      have s16 := (hg 16).trans (en rfl (en rfl (en rfl (en rfl (en rfl (en rfl (en rfl (en rfl (en rfl (en rfl s16))))))))))
      have s37 := (hg 37).trans (en rfl (en rfl (en rfl (en rfl (en rfl (en rfl (en rfl (en rfl (en rfl (en rfl s37))))))))))
      have s38 := (hg 38).trans (en rfl (en rfl (en rfl (en rfl (en rfl (en rfl (en rfl (en rfl (en rfl (en rfl s38))))))))))
      have s87 := (hg 87).trans (en rfl (en rfl (en rfl (en rfl (en rfl (en rfl (en rfl (en rfl (en rfl (en rfl s87))))))))))
      have s88 := (hg 88).trans (en rfl (en rfl (en rfl (en rfl (en rfl (en rfl (en rfl (en rfl (en rfl (en rfl s88))))))))))
      have s91 := (hg 91).trans (en rfl (en rfl (en rfl (en rfl (en rfl (en rfl (en rfl (en rfl (en rfl (en rfl s91))))))))))
      have s106 := (hg 106).trans (en rfl (en rfl (en rfl (en rfl (en rfl (en rfl (en rfl (en rfl (en rfl (en rfl s106))))))))))
      clear hg
      refine yc_ret ?_
      refine bodyY_mark h ?_; intro w h; refine bodyY_nil ?_
      refine bodyR_c rfl s4 (lv_one h 4 rfl Try.isAgg4 gc0) ?_
      exact ⟨rfl, h.drop.drop.drop.drop.drop.drop⟩
theorem none_all (hw : OpWf W o) (hN : I64 N) (h : SatL E w (Old W :: R)) : Calls Try.prog 7 #[.agg (opC o).toArray, .int .i64 N] w (Ret fun u w' => u = .bool true ∧ SatL E w' (Old W :: R)) := by
  rcases Nat.lt_or_ge 100 o.ls.length with h1 | h1
  · exact none_long hw h1 h
  · exact none_ok hw hN h1 h
end
end Go.Proofs.Ytbmdbjnkkbefmaa
