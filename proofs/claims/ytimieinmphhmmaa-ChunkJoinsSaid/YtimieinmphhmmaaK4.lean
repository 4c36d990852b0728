/-
ChunkJoins: the walk.
-/
import Derived.Test.YtimieinmphhmmaaK3
namespace Go.Proofs.Ytimieinmphhmmaa
open Go Go.RowKit
section
variable {E : Env} {R L : List SProp} {w : World} {l zs ys xs : List Int} {v u t : Value} {r : Int}
theorem joins_big1 (hv : Reads E R v .i32 zs) (hb : 100 < zs.length) (h : SatL E w R) : Calls Try.prog 7 #[v, u, t] w (Ret fun u w' => u = .bool true ∧ SatL E w' R) := by
  obtain ⟨a, cap, rfl, _, _⟩ := hv.slice h
  refine calls_x Try.func7 rfl Try.ntmps7 rfl ?_
  refine xc_gen (fun g hg => ?_)
  have s0 := (hg 0).trans arg0
  have s1 := (hg 1).trans arg1
  have s2 := (hg 2).trans arg2
  clear hg
  refine xc_seq (fun K hK1 => ?_)
  refine xc_region ?_
  refine x_val (r_assign ec) (nd_of rfl) rfl ?_
  refine xw_nil ?_
  refine hK1 _ _ ?_
  refine xc_gen (fun g hg => ?_)
  have s0 := (hg 0).trans (en rfl s0)
  have s1 := (hg 1).trans (en rfl s1)
  have s2 := (hg 2).trans (en rfl s2)
  have s6 := (hg 6).trans es
  clear hg
  refine xc_seq (fun K hK2 => ?_)
  refine xc_seq (fun K hK3 => ?_)
  refine xc_region ?_
  refine x_val (r_move s0) (nd_of rfl) rfl ?_
  refine x_val (r_len Try.underlying22 es) (nd_of rfl) rfl ?_
  refine x_val (r_gtr es ec (decide_eq_true (by omega))) (nd_of rfl) rfl ?_
  refine x_val (r_move es) (nd_of rfl) rfl ?_
  refine x_pass (d := 24) rfl rfl es rfl ?_
  refine x_pass (d := 24) rfl rfl (en rfl es) rfl ?_
  refine x_pass (d := 24) rfl rfl (en rfl (en rfl es)) rfl ?_
  refine x_val (r_pick_t (en rfl (en rfl (en rfl es))) ec) (nd_of rfl) rfl ?_
  refine x_val (r_move es) (nd_of rfl) rfl ?_
  refine x_pass (d := 29) rfl rfl es rfl ?_
  refine x_pass (d := 29) rfl rfl (en rfl es) rfl ?_
  refine x_pass (d := 29) rfl rfl (en rfl (en rfl es)) rfl ?_
  refine x_val (r_pick_t (en rfl (en rfl (en rfl es))) ec) (nd_of rfl) rfl ?_
  refine xw_nil ?_
  refine hK3 _ _ ?_
  refine xc_gen (fun g hg => ?_)
  have s0 := (hg 0).trans (en rfl (en rfl (en rfl (en rfl (en rfl (en rfl (en rfl (en rfl (en rfl (en rfl (en rfl (en rfl (en rfl s0)))))))))))))
  have s1 := (hg 1).trans (en rfl (en rfl (en rfl (en rfl (en rfl (en rfl (en rfl (en rfl (en rfl (en rfl (en rfl (en rfl (en rfl s1)))))))))))))
  have s2 := (hg 2).trans (en rfl (en rfl (en rfl (en rfl (en rfl (en rfl (en rfl (en rfl (en rfl (en rfl (en rfl (en rfl (en rfl s2)))))))))))))
  have s6 := (hg 6).trans (en rfl (en rfl (en rfl (en rfl (en rfl (en rfl (en rfl (en rfl (en rfl (en rfl (en rfl (en rfl (en rfl s6)))))))))))))
  have s33 := (hg 33).trans es
  clear hg
  refine xc_cond s33 (fun _ => ?_) (fun hc => by cases hc)
  refine xc_seq (fun K hK4 => ?_)
  refine xc_region ?_
  refine x_enter (r_call Try.call9 .nil) (nd_of rfl) rfl (known_ok h) ?_
  rintro _ w ⟨rfl, h⟩
  refine x_val (r_assign es) (nd_of rfl) rfl ?_
  refine xw_nil ?_
  refine hK4 _ _ ?_
  refine xc_gen (fun g hg => ?_)
  have s0 := (hg 0).trans (en rfl (en rfl s0))
  have s1 := (hg 1).trans (en rfl (en rfl s1))
  have s2 := (hg 2).trans (en rfl (en rfl s2))
  have s6 := (hg 6).trans es
  have s33 := (hg 33).trans (en rfl (en rfl s33))
  clear hg
  refine xc_ret ?_
  refine bodyR_1 rfl s6 ?_
  exact ⟨rfl, h⟩
theorem joins_big2 (hv : Reads E R v .i32 zs) (hu : Reads E R u .i32 ys) (hz : zs.length ≤ 100) (hb : 100 < ys.length) (h : SatL E w R) : Calls Try.prog 7 #[v, u, t] w (Ret fun u w' => u = .bool true ∧ SatL E w' R) := by
  obtain ⟨a, cap, rfl, _, _⟩ := hv.slice h
  obtain ⟨a2, cap2, rfl, _, _⟩ := hu.slice h
  refine calls_x Try.func7 rfl Try.ntmps7 rfl ?_
  refine xc_gen (fun g hg => ?_)
  have s0 := (hg 0).trans arg0
  have s1 := (hg 1).trans arg1
  have s2 := (hg 2).trans arg2
  clear hg
  refine xc_seq (fun K hK1 => ?_)
  refine xc_region ?_
  refine x_val (r_assign ec) (nd_of rfl) rfl ?_
  refine xw_nil ?_
  refine hK1 _ _ ?_
  refine xc_gen (fun g hg => ?_)
  have s0 := (hg 0).trans (en rfl s0)
  have s1 := (hg 1).trans (en rfl s1)
  have s2 := (hg 2).trans (en rfl s2)
  have s6 := (hg 6).trans es
  clear hg
  refine xc_seq (fun K hK2 => ?_)
  refine xc_seq (fun K hK3 => ?_)
  refine xc_region ?_
  refine x_val (r_move s0) (nd_of rfl) rfl ?_
  refine x_val (r_len Try.underlying22 es) (nd_of rfl) rfl ?_
  refine x_val (r_gtr es ec (decide_eq_false (by omega))) (nd_of rfl) rfl ?_
  refine x_val (r_move es) (nd_of rfl) rfl ?_
  refine x_take (d := 24) rfl rfl es ?_
  refine x_val (r_move (en rfl (en rfl (en rfl (en rfl s1))))) (nd_of rfl) rfl ?_
  refine x_take (d := 24) rfl rfl (en rfl es) ?_
  refine x_val (r_len Try.underlying22 es) (nd_of rfl) rfl ?_
  refine x_take (d := 24) rfl rfl (en rfl (en rfl es)) ?_
  refine x_val (r_gtr es ec (decide_eq_true (by omega))) (nd_of rfl) rfl ?_
  refine x_val (r_pick_f (en rfl (en rfl (en rfl es))) es) (nd_of rfl) rfl ?_
  refine x_val (r_move es) (nd_of rfl) rfl ?_
  refine x_pass (d := 29) rfl rfl es rfl ?_
  refine x_pass (d := 29) rfl rfl (en rfl es) rfl ?_
  refine x_pass (d := 29) rfl rfl (en rfl (en rfl es)) rfl ?_
  refine x_val (r_pick_t (en rfl (en rfl (en rfl es))) ec) (nd_of rfl) rfl ?_
  refine xw_nil ?_
  refine hK3 _ _ ?_
  refine xc_gen (fun g hg => ?_)
  have s0 := (hg 0).trans (en rfl (en rfl (en rfl (en rfl (en rfl (en rfl (en rfl (en rfl (en rfl (en rfl (en rfl (en rfl (en rfl s0)))))))))))))
  have s1 := (hg 1).trans (en rfl (en rfl (en rfl (en rfl (en rfl (en rfl (en rfl (en rfl (en rfl (en rfl (en rfl (en rfl (en rfl s1)))))))))))))
  have s2 := (hg 2).trans (en rfl (en rfl (en rfl (en rfl (en rfl (en rfl (en rfl (en rfl (en rfl (en rfl (en rfl (en rfl (en rfl s2)))))))))))))
  have s6 := (hg 6).trans (en rfl (en rfl (en rfl (en rfl (en rfl (en rfl (en rfl (en rfl (en rfl (en rfl (en rfl (en rfl (en rfl s6)))))))))))))
  have s33 := (hg 33).trans es
  clear hg
  refine xc_cond s33 (fun _ => ?_) (fun hc => by cases hc)
  refine xc_seq (fun K hK4 => ?_)
  refine xc_region ?_
  refine x_enter (r_call Try.call9 .nil) (nd_of rfl) rfl (known_ok h) ?_
  rintro _ w ⟨rfl, h⟩
  refine x_val (r_assign es) (nd_of rfl) rfl ?_
  refine xw_nil ?_
  refine hK4 _ _ ?_
  refine xc_gen (fun g hg => ?_)
  have s0 := (hg 0).trans (en rfl (en rfl s0))
  have s1 := (hg 1).trans (en rfl (en rfl s1))
  have s2 := (hg 2).trans (en rfl (en rfl s2))
  have s6 := (hg 6).trans es
  have s33 := (hg 33).trans (en rfl (en rfl s33))
  clear hg
  refine xc_ret ?_
  refine bodyR_1 rfl s6 ?_
  exact ⟨rfl, h⟩
theorem joins_big3 (hv : Reads E R v .i32 zs) (hu : Reads E R u .i32 ys) (ht : Reads E R t .i32 xs) (hz : zs.length ≤ 100) (hy : ys.length ≤ 100) (hb : 100 < xs.length) (h : SatL E w R) : Calls Try.prog 7 #[v, u, t] w (Ret fun u w' => u = .bool true ∧ SatL E w' R) := by
  obtain ⟨a, cap, rfl, _, _⟩ := hv.slice h
  obtain ⟨a2, cap2, rfl, _, _⟩ := hu.slice h
  obtain ⟨a3, cap3, rfl, _, _⟩ := ht.slice h
  refine calls_x Try.func7 rfl Try.ntmps7 rfl ?_
  refine xc_gen (fun g hg => ?_)
  have s0 := (hg 0).trans arg0
  have s1 := (hg 1).trans arg1
  have s2 := (hg 2).trans arg2
  clear hg
  refine xc_seq (fun K hK1 => ?_)
  refine xc_region ?_
  refine x_val (r_assign ec) (nd_of rfl) rfl ?_
  refine xw_nil ?_
  refine hK1 _ _ ?_
  refine xc_gen (fun g hg => ?_)
  have s0 := (hg 0).trans (en rfl s0)
  have s1 := (hg 1).trans (en rfl s1)
  have s2 := (hg 2).trans (en rfl s2)
  have s6 := (hg 6).trans es
  clear hg
  refine xc_seq (fun K hK2 => ?_)
  refine xc_seq (fun K hK3 => ?_)
  refine xc_region ?_
  refine x_val (r_move s0) (nd_of rfl) rfl ?_
  refine x_val (r_len Try.underlying22 es) (nd_of rfl) rfl ?_
  refine x_val (r_gtr es ec (decide_eq_false (by omega))) (nd_of rfl) rfl ?_
  refine x_val (r_move es) (nd_of rfl) rfl ?_
  refine x_take (d := 24) rfl rfl es ?_
  refine x_val (r_move (en rfl (en rfl (en rfl (en rfl s1))))) (nd_of rfl) rfl ?_
  refine x_take (d := 24) rfl rfl (en rfl es) ?_
  refine x_val (r_len Try.underlying22 es) (nd_of rfl) rfl ?_
  refine x_take (d := 24) rfl rfl (en rfl (en rfl es)) ?_
  refine x_val (r_gtr es ec (decide_eq_false (by omega))) (nd_of rfl) rfl ?_
  refine x_val (r_pick_f (en rfl (en rfl (en rfl es))) es) (nd_of rfl) rfl ?_
  refine x_val (r_move es) (nd_of rfl) rfl ?_
  refine x_take (d := 29) rfl rfl es ?_
  refine x_val (r_move (en rfl (en rfl (en rfl (en rfl (en rfl (en rfl (en rfl (en rfl (en rfl s2)))))))))) (nd_of rfl) rfl ?_
  refine x_take (d := 29) rfl rfl (en rfl es) ?_
  refine x_val (r_len Try.underlying22 es) (nd_of rfl) rfl ?_
  refine x_take (d := 29) rfl rfl (en rfl (en rfl es)) ?_
  refine x_val (r_gtr es ec (decide_eq_true (by omega))) (nd_of rfl) rfl ?_
  refine x_val (r_pick_f (en rfl (en rfl (en rfl es))) es) (nd_of rfl) rfl ?_
  refine xw_nil ?_
  refine hK3 _ _ ?_
  refine xc_gen (fun g hg => ?_)
  have s0 := (hg 0).trans (en rfl (en rfl (en rfl (en rfl (en rfl (en rfl (en rfl (en rfl (en rfl (en rfl (en rfl (en rfl (en rfl s0)))))))))))))
  have s1 := (hg 1).trans (en rfl (en rfl (en rfl (en rfl (en rfl (en rfl (en rfl (en rfl (en rfl (en rfl (en rfl (en rfl (en rfl s1)))))))))))))
  have s2 := (hg 2).trans (en rfl (en rfl (en rfl (en rfl (en rfl (en rfl (en rfl (en rfl (en rfl (en rfl (en rfl (en rfl (en rfl s2)))))))))))))
  have s6 := (hg 6).trans (en rfl (en rfl (en rfl (en rfl (en rfl (en rfl (en rfl (en rfl (en rfl (en rfl (en rfl (en rfl (en rfl s6)))))))))))))
  have s33 := (hg 33).trans es
  clear hg
  refine xc_cond s33 (fun _ => ?_) (fun hc => by cases hc)
  refine xc_seq (fun K hK4 => ?_)
  refine xc_region ?_
  refine x_enter (r_call Try.call9 .nil) (nd_of rfl) rfl (known_ok h) ?_
  rintro _ w ⟨rfl, h⟩
  refine x_val (r_assign es) (nd_of rfl) rfl ?_
  refine xw_nil ?_
  refine hK4 _ _ ?_
  refine xc_gen (fun g hg => ?_)
  have s0 := (hg 0).trans (en rfl (en rfl s0))
  have s1 := (hg 1).trans (en rfl (en rfl s1))
  have s2 := (hg 2).trans (en rfl (en rfl s2))
  have s6 := (hg 6).trans es
  have s33 := (hg 33).trans (en rfl (en rfl s33))
  clear hg
  refine xc_ret ?_
  refine bodyR_1 rfl s6 ?_
  exact ⟨rfl, h⟩
theorem joins_not1 (hv : Reads E R v .i32 zs) (hu : Reads E R u .i32 ys) (ht : Reads E R t .i32 xs) (hz : zs.length ≤ 100) (hy : ys.length ≤ 100) (hx : xs.length ≤ 100) (hn : ¬ ChOk zs) (h : SatL E w R) : Calls Try.prog 7 #[v, u, t] w (Ret fun u w' => u = .bool true ∧ SatL E w' R) := by
  obtain ⟨a, cap, rfl, _, _⟩ := hv.slice h
  obtain ⟨a2, cap2, rfl, _, _⟩ := hu.slice h
  obtain ⟨a3, cap3, rfl, _, _⟩ := ht.slice h
  have hnil := chOk_nil
  refine calls_x Try.func7 rfl Try.ntmps7 rfl ?_
  refine xc_gen (fun g hg => ?_)
  have s0 := (hg 0).trans arg0
  have s1 := (hg 1).trans arg1
  have s2 := (hg 2).trans arg2
  clear hg
  refine xc_seq (fun K hK1 => ?_)
  refine xc_region ?_
  refine x_val (r_assign ec) (nd_of rfl) rfl ?_
  refine xw_nil ?_
  refine hK1 _ _ ?_
  refine xc_gen (fun g hg => ?_)
  have s0 := (hg 0).trans (en rfl s0)
  have s1 := (hg 1).trans (en rfl s1)
  have s2 := (hg 2).trans (en rfl s2)
  have s6 := (hg 6).trans es
  clear hg
  refine xc_seq (fun K hK2 => ?_)
  refine xc_seq (fun K hK3 => ?_)
  refine xc_region ?_
  refine x_val (r_move s0) (nd_of rfl) rfl ?_
  refine x_val (r_len Try.underlying22 es) (nd_of rfl) rfl ?_
  refine x_val (r_gtr es ec (decide_eq_false (by omega))) (nd_of rfl) rfl ?_
  refine x_val (r_move es) (nd_of rfl) rfl ?_
  refine x_take (d := 24) rfl rfl es ?_
  refine x_val (r_move (en rfl (en rfl (en rfl (en rfl s1))))) (nd_of rfl) rfl ?_
  refine x_take (d := 24) rfl rfl (en rfl es) ?_
  refine x_val (r_len Try.underlying22 es) (nd_of rfl) rfl ?_
  refine x_take (d := 24) rfl rfl (en rfl (en rfl es)) ?_
  refine x_val (r_gtr es ec (decide_eq_false (by omega))) (nd_of rfl) rfl ?_
  refine x_val (r_pick_f (en rfl (en rfl (en rfl es))) es) (nd_of rfl) rfl ?_
  refine x_val (r_move es) (nd_of rfl) rfl ?_
  refine x_take (d := 29) rfl rfl es ?_
  refine x_val (r_move (en rfl (en rfl (en rfl (en rfl (en rfl (en rfl (en rfl (en rfl (en rfl s2)))))))))) (nd_of rfl) rfl ?_
  refine x_take (d := 29) rfl rfl (en rfl es) ?_
  refine x_val (r_len Try.underlying22 es) (nd_of rfl) rfl ?_
  refine x_take (d := 29) rfl rfl (en rfl (en rfl es)) ?_
  refine x_val (r_gtr es ec (decide_eq_false (by omega))) (nd_of rfl) rfl ?_
  refine x_val (r_pick_f (en rfl (en rfl (en rfl es))) es) (nd_of rfl) rfl ?_
  refine xw_nil ?_
  refine hK3 _ _ ?_
  refine xc_gen (fun g hg => ?_)
  have s0 := (hg 0).trans (en rfl (en rfl (en rfl (en rfl (en rfl (en rfl (en rfl (en rfl (en rfl (en rfl (en rfl (en rfl (en rfl s0)))))))))))))
  have s1 := (hg 1).trans (en rfl (en rfl (en rfl (en rfl (en rfl (en rfl (en rfl (en rfl (en rfl (en rfl (en rfl (en rfl (en rfl s1)))))))))))))
  have s2 := (hg 2).trans (en rfl (en rfl (en rfl (en rfl (en rfl (en rfl (en rfl (en rfl (en rfl (en rfl (en rfl (en rfl (en rfl s2)))))))))))))
  have s6 := (hg 6).trans (en rfl (en rfl (en rfl (en rfl (en rfl (en rfl (en rfl (en rfl (en rfl (en rfl (en rfl (en rfl (en rfl s6)))))))))))))
  have s33 := (hg 33).trans es
  clear hg
  refine xc_cond s33 (fun hc => by cases hc) (fun _ => ?_)
  refine xc_skip ?_
  refine hK2 _ _ ?_
  refine xc_seq (fun K hK4 => ?_)
  refine xc_region ?_
  refine x_val (r_move s0) (nd_of rfl) rfl ?_
  refine x_enter (r_call Try.call10 (.cons es .nil)) (nd_of rfl) rfl (of_not hv hn h) ?_
  rintro _ w ⟨⟨e, he, rfl⟩, h⟩
  refine x_val (r_move es) (nd_of rfl) rfl ?_
  refine x_val (r_extract es gc0) (nd_of rfl) rfl ?_
  refine x_val (r_extract (en rfl es) gc1) (nd_of rfl) rfl ?_
  refine x_declA h Try.zeroValue26 Try.sizeOf26 rfl (en rfl (en rfl es)) (by first | assumption | exact Ok.node (by assumption) | exact ChOk.ok (by assumption)) rfl ?_
  intro b7 w h
  refine x_val (r_assign (en rfl es)) (nd_of rfl) rfl ?_
  refine xw_nil ?_
  refine hK4 _ _ ?_
  refine xc_gen (fun g hg => ?_)
  have s0 := (hg 0).trans (en rfl (en rfl (en rfl (en rfl (en rfl (en rfl (en rfl s0)))))))
  have s1 := (hg 1).trans (en rfl (en rfl (en rfl (en rfl (en rfl (en rfl (en rfl s1)))))))
  have s2 := (hg 2).trans (en rfl (en rfl (en rfl (en rfl (en rfl (en rfl (en rfl s2)))))))
  have s6 := (hg 6).trans (en rfl (en rfl (en rfl (en rfl (en rfl (en rfl (en rfl s6)))))))
  have s7 := (hg 7).trans (en rfl es)
  have s8 := (hg 8).trans es
  have s33 := (hg 33).trans (en rfl (en rfl (en rfl (en rfl (en rfl (en rfl (en rfl s33)))))))
  clear hg
  refine xc_seq (fun K hK5 => ?_)
  refine xc_region ?_
  refine x_val (r_move s1) (nd_of rfl) rfl ?_
  refine x_enter (r_call Try.call10 (.cons es .nil)) (nd_of rfl) rfl (of_any hu.up h) ?_
  rintro _ w ⟨⟨e2, l2, hl2, rfl⟩, h⟩
  refine x_val (r_move es) (nd_of rfl) rfl ?_
  refine x_val (r_extract es gc0) (nd_of rfl) rfl ?_
  refine x_val (r_extract (en rfl es) gc1) (nd_of rfl) rfl ?_
  refine x_declA h Try.zeroValue26 Try.sizeOf26 rfl (en rfl (en rfl es)) (by first | assumption | exact Ok.node (by assumption) | exact ChOk.ok (by assumption)) rfl ?_
  intro b9 w h
  refine x_val (r_assign (en rfl es)) (nd_of rfl) rfl ?_
  refine xw_nil ?_
  refine hK5 _ _ ?_
  refine xc_gen (fun g hg => ?_)
  have s0 := (hg 0).trans (en rfl (en rfl (en rfl (en rfl (en rfl (en rfl (en rfl s0)))))))
  have s1 := (hg 1).trans (en rfl (en rfl (en rfl (en rfl (en rfl (en rfl (en rfl s1)))))))
  have s2 := (hg 2).trans (en rfl (en rfl (en rfl (en rfl (en rfl (en rfl (en rfl s2)))))))
  have s6 := (hg 6).trans (en rfl (en rfl (en rfl (en rfl (en rfl (en rfl (en rfl s6)))))))
  have s7 := (hg 7).trans (en rfl (en rfl (en rfl (en rfl (en rfl (en rfl (en rfl s7)))))))
  have s8 := (hg 8).trans (en rfl (en rfl (en rfl (en rfl (en rfl (en rfl (en rfl s8)))))))
  have s9 := (hg 9).trans (en rfl es)
  have s10 := (hg 10).trans es
  have s33 := (hg 33).trans (en rfl (en rfl (en rfl (en rfl (en rfl (en rfl (en rfl s33)))))))
  clear hg
  refine xc_seq (fun K hK6 => ?_)
  refine xc_region ?_
  refine x_val (r_move s2) (nd_of rfl) rfl ?_
  refine x_enter (r_call Try.call10 (.cons es .nil)) (nd_of rfl) rfl (of_any ht.up.up h) ?_
  rintro _ w ⟨⟨e3, l3, hl3, rfl⟩, h⟩
  refine x_val (r_move es) (nd_of rfl) rfl ?_
  refine x_val (r_extract es gc0) (nd_of rfl) rfl ?_
  refine x_val (r_extract (en rfl es) gc1) (nd_of rfl) rfl ?_
  refine x_declA h Try.zeroValue26 Try.sizeOf26 rfl (en rfl (en rfl es)) (by first | assumption | exact Ok.node (by assumption) | exact ChOk.ok (by assumption)) rfl ?_
  intro b11 w h
  refine x_val (r_assign (en rfl es)) (nd_of rfl) rfl ?_
  refine xw_nil ?_
  refine hK6 _ _ ?_
  refine xc_gen (fun g hg => ?_)
  have s0 := (hg 0).trans (en rfl (en rfl (en rfl (en rfl (en rfl (en rfl (en rfl s0)))))))
  have s1 := (hg 1).trans (en rfl (en rfl (en rfl (en rfl (en rfl (en rfl (en rfl s1)))))))
  have s2 := (hg 2).trans (en rfl (en rfl (en rfl (en rfl (en rfl (en rfl (en rfl s2)))))))
  have s6 := (hg 6).trans (en rfl (en rfl (en rfl (en rfl (en rfl (en rfl (en rfl s6)))))))
  have s7 := (hg 7).trans (en rfl (en rfl (en rfl (en rfl (en rfl (en rfl (en rfl s7)))))))
  have s8 := (hg 8).trans (en rfl (en rfl (en rfl (en rfl (en rfl (en rfl (en rfl s8)))))))
  have s9 := (hg 9).trans (en rfl (en rfl (en rfl (en rfl (en rfl (en rfl (en rfl s9)))))))
  have s10 := (hg 10).trans (en rfl (en rfl (en rfl (en rfl (en rfl (en rfl (en rfl s10)))))))
  have s11 := (hg 11).trans (en rfl es)
  have s12 := (hg 12).trans es
  have s33 := (hg 33).trans (en rfl (en rfl (en rfl (en rfl (en rfl (en rfl (en rfl s33)))))))
  clear hg
  refine xc_seq (fun K hK7 => ?_)
  refine xc_seq (fun K hK8 => ?_)
  refine xc_region ?_
  refine x_val (r_move s8) (nd_of rfl) rfl ?_
  refine x_val (r_neq es ec (decide_eq_true (by omega))) (nd_of rfl) rfl ?_
  refine x_val (r_move es) (nd_of rfl) rfl ?_
  refine x_pass (d := 52) rfl rfl es rfl ?_
  refine x_pass (d := 52) rfl rfl (en rfl es) rfl ?_
  refine x_val (r_pick_t (en rfl (en rfl es)) ec) (nd_of rfl) rfl ?_
  refine x_val (r_move es) (nd_of rfl) rfl ?_
  refine x_pass (d := 56) rfl rfl es rfl ?_
  refine x_pass (d := 56) rfl rfl (en rfl es) rfl ?_
  refine x_val (r_pick_t (en rfl (en rfl es)) ec) (nd_of rfl) rfl ?_
  refine x_val (r_move es) (nd_of rfl) rfl ?_
  refine x_pass (d := 60) rfl rfl es rfl ?_
  refine x_pass (d := 60) rfl rfl (en rfl es) rfl ?_
  refine x_pass (d := 60) rfl rfl (en rfl (en rfl es)) rfl ?_
  refine x_pass (d := 60) rfl rfl (en rfl (en rfl (en rfl es))) rfl ?_
  refine x_pass (d := 60) rfl rfl (en rfl (en rfl (en rfl (en rfl es)))) rfl ?_
  refine x_pass (d := 60) rfl rfl (en rfl (en rfl (en rfl (en rfl (en rfl es))))) rfl ?_
  refine x_pass (d := 60) rfl rfl (en rfl (en rfl (en rfl (en rfl (en rfl (en rfl es)))))) rfl ?_
  refine x_pass (d := 60) rfl rfl (en rfl (en rfl (en rfl (en rfl (en rfl (en rfl (en rfl es))))))) rfl ?_
  refine x_pass (d := 60) rfl rfl (en rfl (en rfl (en rfl (en rfl (en rfl (en rfl (en rfl (en rfl es)))))))) rfl ?_
  refine x_val (r_pick_t (en rfl (en rfl (en rfl (en rfl (en rfl (en rfl (en rfl (en rfl (en rfl es))))))))) ec) (nd_of rfl) rfl ?_
  refine xw_nil ?_
  refine hK8 _ _ ?_
  refine xc_gen (fun g hg => ?_)
  have s0 := (hg 0).trans (en rfl (en rfl (en rfl (en rfl (en rfl (en rfl (en rfl (en rfl (en rfl (en rfl (en rfl (en rfl (en rfl (en rfl (en rfl (en rfl (en rfl (en rfl (en rfl (en rfl (en rfl s0)))))))))))))))))))))
  have s1 := (hg 1).trans (en rfl (en rfl (en rfl (en rfl (en rfl (en rfl (en rfl (en rfl (en rfl (en rfl (en rfl (en rfl (en rfl (en rfl (en rfl (en rfl (en rfl (en rfl (en rfl (en rfl (en rfl s1)))))))))))))))))))))
  have s2 := (hg 2).trans (en rfl (en rfl (en rfl (en rfl (en rfl (en rfl (en rfl (en rfl (en rfl (en rfl (en rfl (en rfl (en rfl (en rfl (en rfl (en rfl (en rfl (en rfl (en rfl (en rfl (en rfl s2)))))))))))))))))))))
  have s6 := (hg 6).trans (en rfl (en rfl (en rfl (en rfl (en rfl (en rfl (en rfl (en rfl (en rfl (en rfl (en rfl (en rfl (en rfl (en rfl (en rfl (en rfl (en rfl (en rfl (en rfl (en rfl (en rfl s6)))))))))))))))))))))
  have s7 := (hg 7).trans (en rfl (en rfl (en rfl (en rfl (en rfl (en rfl (en rfl (en rfl (en rfl (en rfl (en rfl (en rfl (en rfl (en rfl (en rfl (en rfl (en rfl (en rfl (en rfl (en rfl (en rfl s7)))))))))))))))))))))
  have s8 := (hg 8).trans (en rfl (en rfl (en rfl (en rfl (en rfl (en rfl (en rfl (en rfl (en rfl (en rfl (en rfl (en rfl (en rfl (en rfl (en rfl (en rfl (en rfl (en rfl (en rfl (en rfl (en rfl s8)))))))))))))))))))))
  have s9 := (hg 9).trans (en rfl (en rfl (en rfl (en rfl (en rfl (en rfl (en rfl (en rfl (en rfl (en rfl (en rfl (en rfl (en rfl (en rfl (en rfl (en rfl (en rfl (en rfl (en rfl (en rfl (en rfl s9)))))))))))))))))))))
  have s10 := (hg 10).trans (en rfl (en rfl (en rfl (en rfl (en rfl (en rfl (en rfl (en rfl (en rfl (en rfl (en rfl (en rfl (en rfl (en rfl (en rfl (en rfl (en rfl (en rfl (en rfl (en rfl (en rfl s10)))))))))))))))))))))
  have s11 := (hg 11).trans (en rfl (en rfl (en rfl (en rfl (en rfl (en rfl (en rfl (en rfl (en rfl (en rfl (en rfl (en rfl (en rfl (en rfl (en rfl (en rfl (en rfl (en rfl (en rfl (en rfl (en rfl s11)))))))))))))))))))))
  have s12 := (hg 12).trans (en rfl (en rfl (en rfl (en rfl (en rfl (en rfl (en rfl (en rfl (en rfl (en rfl (en rfl (en rfl (en rfl (en rfl (en rfl (en rfl (en rfl (en rfl (en rfl (en rfl (en rfl s12)))))))))))))))))))))
  have s33 := (hg 33).trans (en rfl (en rfl (en rfl (en rfl (en rfl (en rfl (en rfl (en rfl (en rfl (en rfl (en rfl (en rfl (en rfl (en rfl (en rfl (en rfl (en rfl (en rfl (en rfl (en rfl (en rfl s33)))))))))))))))))))))
  have s70 := (hg 70).trans es
  clear hg
  refine xc_cond s70 (fun _ => ?_) (fun hc => by cases hc)
  refine xc_seq (fun K hK9 => ?_)
  refine xc_region ?_
  refine x_enter (r_call Try.call9 .nil) (nd_of rfl) rfl (known_ok h) ?_
  rintro _ w ⟨rfl, h⟩
  refine x_val (r_assign es) (nd_of rfl) rfl ?_
  refine xw_nil ?_
  refine hK9 _ _ ?_
  refine xc_gen (fun g hg => ?_)
  have s0 := (hg 0).trans (en rfl (en rfl s0))
  have s1 := (hg 1).trans (en rfl (en rfl s1))
  have s2 := (hg 2).trans (en rfl (en rfl s2))
  have s6 := (hg 6).trans es
  have s7 := (hg 7).trans (en rfl (en rfl s7))
  have s8 := (hg 8).trans (en rfl (en rfl s8))
  have s9 := (hg 9).trans (en rfl (en rfl s9))
  have s10 := (hg 10).trans (en rfl (en rfl s10))
  have s11 := (hg 11).trans (en rfl (en rfl s11))
  have s12 := (hg 12).trans (en rfl (en rfl s12))
  have s33 := (hg 33).trans (en rfl (en rfl s33))
  have s70 := (hg 70).trans (en rfl (en rfl s70))
  clear hg
  refine xc_ret ?_
  refine bodyR_1 rfl s6 ?_
  exact ⟨rfl, h.drop.drop.drop⟩
theorem joins_not2 (hv : Reads E R v .i32 zs) (hu : Reads E R u .i32 ys) (ht : Reads E R t .i32 xs) (ho : ChOk zs) (hy : ys.length ≤ 100) (hx : xs.length ≤ 100) (hn : ¬ ChOk ys) (h : SatL E w R) : Calls Try.prog 7 #[v, u, t] w (Ret fun u w' => u = .bool true ∧ SatL E w' R) := by
  obtain ⟨a, cap, rfl, _, _⟩ := hv.slice h
  obtain ⟨a2, cap2, rfl, _, _⟩ := hu.slice h
  obtain ⟨a3, cap3, rfl, _, _⟩ := ht.slice h
  have hnil := chOk_nil
  have hz := ho.len
  refine calls_x Try.func7 rfl Try.ntmps7 rfl ?_
  refine xc_gen (fun g hg => ?_)
  have s0 := (hg 0).trans arg0
  have s1 := (hg 1).trans arg1
  have s2 := (hg 2).trans arg2
  clear hg
  refine xc_seq (fun K hK1 => ?_)
  refine xc_region ?_
  refine x_val (r_assign ec) (nd_of rfl) rfl ?_
  refine xw_nil ?_
  refine hK1 _ _ ?_
  refine xc_gen (fun g hg => ?_)
  have s0 := (hg 0).trans (en rfl s0)
  have s1 := (hg 1).trans (en rfl s1)
  have s2 := (hg 2).trans (en rfl s2)
  have s6 := (hg 6).trans es
  clear hg
  refine xc_seq (fun K hK2 => ?_)
  refine xc_seq (fun K hK3 => ?_)
  refine xc_region ?_
  refine x_val (r_move s0) (nd_of rfl) rfl ?_
  refine x_val (r_len Try.underlying22 es) (nd_of rfl) rfl ?_
  refine x_val (r_gtr es ec (decide_eq_false (by omega))) (nd_of rfl) rfl ?_
  refine x_val (r_move es) (nd_of rfl) rfl ?_
  refine x_take (d := 24) rfl rfl es ?_
  refine x_val (r_move (en rfl (en rfl (en rfl (en rfl s1))))) (nd_of rfl) rfl ?_
  refine x_take (d := 24) rfl rfl (en rfl es) ?_
  refine x_val (r_len Try.underlying22 es) (nd_of rfl) rfl ?_
  refine x_take (d := 24) rfl rfl (en rfl (en rfl es)) ?_
  refine x_val (r_gtr es ec (decide_eq_false (by omega))) (nd_of rfl) rfl ?_
  refine x_val (r_pick_f (en rfl (en rfl (en rfl es))) es) (nd_of rfl) rfl ?_
  refine x_val (r_move es) (nd_of rfl) rfl ?_
  refine x_take (d := 29) rfl rfl es ?_
  refine x_val (r_move (en rfl (en rfl (en rfl (en rfl (en rfl (en rfl (en rfl (en rfl (en rfl s2)))))))))) (nd_of rfl) rfl ?_
  refine x_take (d := 29) rfl rfl (en rfl es) ?_
  refine x_val (r_len Try.underlying22 es) (nd_of rfl) rfl ?_
  refine x_take (d := 29) rfl rfl (en rfl (en rfl es)) ?_
  refine x_val (r_gtr es ec (decide_eq_false (by omega))) (nd_of rfl) rfl ?_
  refine x_val (r_pick_f (en rfl (en rfl (en rfl es))) es) (nd_of rfl) rfl ?_
  refine xw_nil ?_
  refine hK3 _ _ ?_
  refine xc_gen (fun g hg => ?_)
  have s0 := (hg 0).trans (en rfl (en rfl (en rfl (en rfl (en rfl (en rfl (en rfl (en rfl (en rfl (en rfl (en rfl (en rfl (en rfl s0)))))))))))))
  have s1 := (hg 1).trans (en rfl (en rfl (en rfl (en rfl (en rfl (en rfl (en rfl (en rfl (en rfl (en rfl (en rfl (en rfl (en rfl s1)))))))))))))
  have s2 := (hg 2).trans (en rfl (en rfl (en rfl (en rfl (en rfl (en rfl (en rfl (en rfl (en rfl (en rfl (en rfl (en rfl (en rfl s2)))))))))))))
  have s6 := (hg 6).trans (en rfl (en rfl (en rfl (en rfl (en rfl (en rfl (en rfl (en rfl (en rfl (en rfl (en rfl (en rfl (en rfl s6)))))))))))))
  have s33 := (hg 33).trans es
  clear hg
  refine xc_cond s33 (fun hc => by cases hc) (fun _ => ?_)
  refine xc_skip ?_
  refine hK2 _ _ ?_
  refine xc_seq (fun K hK4 => ?_)
  refine xc_region ?_
  refine x_val (r_move s0) (nd_of rfl) rfl ?_
  refine x_enter (r_call Try.call10 (.cons es .nil)) (nd_of rfl) rfl (of_ok hv ho h) ?_
  rintro _ w ⟨rfl, h⟩
  refine x_val (r_move es) (nd_of rfl) rfl ?_
  refine x_val (r_extract es gc0) (nd_of rfl) rfl ?_
  refine x_val (r_extract (en rfl es) gc1) (nd_of rfl) rfl ?_
  refine x_declA h Try.zeroValue26 Try.sizeOf26 rfl (en rfl (en rfl es)) (by first | assumption | exact Ok.node (by assumption) | exact ChOk.ok (by assumption)) rfl ?_
  intro b7 w h
  refine x_val (r_assign (en rfl es)) (nd_of rfl) rfl ?_
  refine xw_nil ?_
  refine hK4 _ _ ?_
  refine xc_gen (fun g hg => ?_)
  have s0 := (hg 0).trans (en rfl (en rfl (en rfl (en rfl (en rfl (en rfl (en rfl s0)))))))
  have s1 := (hg 1).trans (en rfl (en rfl (en rfl (en rfl (en rfl (en rfl (en rfl s1)))))))
  have s2 := (hg 2).trans (en rfl (en rfl (en rfl (en rfl (en rfl (en rfl (en rfl s2)))))))
  have s6 := (hg 6).trans (en rfl (en rfl (en rfl (en rfl (en rfl (en rfl (en rfl s6)))))))
  have s7 := (hg 7).trans (en rfl es)
  have s8 := (hg 8).trans es
  have s33 := (hg 33).trans (en rfl (en rfl (en rfl (en rfl (en rfl (en rfl (en rfl s33)))))))
  clear hg
  refine xc_seq (fun K hK5 => ?_)
  refine xc_region ?_
  refine x_val (r_move s1) (nd_of rfl) rfl ?_
  refine x_enter (r_call Try.call10 (.cons es .nil)) (nd_of rfl) rfl (of_not hu.up hn h) ?_
  rintro _ w ⟨⟨e, he, rfl⟩, h⟩
  refine x_val (r_move es) (nd_of rfl) rfl ?_
  refine x_val (r_extract es gc0) (nd_of rfl) rfl ?_
  refine x_val (r_extract (en rfl es) gc1) (nd_of rfl) rfl ?_
  refine x_declA h Try.zeroValue26 Try.sizeOf26 rfl (en rfl (en rfl es)) (by first | assumption | exact Ok.node (by assumption) | exact ChOk.ok (by assumption)) rfl ?_
  intro b9 w h
  refine x_val (r_assign (en rfl es)) (nd_of rfl) rfl ?_
  refine xw_nil ?_
  refine hK5 _ _ ?_
  refine xc_gen (fun g hg => ?_)
  have s0 := (hg 0).trans (en rfl (en rfl (en rfl (en rfl (en rfl (en rfl (en rfl s0)))))))
  have s1 := (hg 1).trans (en rfl (en rfl (en rfl (en rfl (en rfl (en rfl (en rfl s1)))))))
  have s2 := (hg 2).trans (en rfl (en rfl (en rfl (en rfl (en rfl (en rfl (en rfl s2)))))))
  have s6 := (hg 6).trans (en rfl (en rfl (en rfl (en rfl (en rfl (en rfl (en rfl s6)))))))
  have s7 := (hg 7).trans (en rfl (en rfl (en rfl (en rfl (en rfl (en rfl (en rfl s7)))))))
  have s8 := (hg 8).trans (en rfl (en rfl (en rfl (en rfl (en rfl (en rfl (en rfl s8)))))))
  have s9 := (hg 9).trans (en rfl es)
  have s10 := (hg 10).trans es
  have s33 := (hg 33).trans (en rfl (en rfl (en rfl (en rfl (en rfl (en rfl (en rfl s33)))))))
  clear hg
  refine xc_seq (fun K hK6 => ?_)
  refine xc_region ?_
  refine x_val (r_move s2) (nd_of rfl) rfl ?_
  refine x_enter (r_call Try.call10 (.cons es .nil)) (nd_of rfl) rfl (of_any ht.up.up h) ?_
  rintro _ w ⟨⟨e3, l3, hl3, rfl⟩, h⟩
  refine x_val (r_move es) (nd_of rfl) rfl ?_
  refine x_val (r_extract es gc0) (nd_of rfl) rfl ?_
  refine x_val (r_extract (en rfl es) gc1) (nd_of rfl) rfl ?_
  refine x_declA h Try.zeroValue26 Try.sizeOf26 rfl (en rfl (en rfl es)) (by first | assumption | exact Ok.node (by assumption) | exact ChOk.ok (by assumption)) rfl ?_
  intro b11 w h
  refine x_val (r_assign (en rfl es)) (nd_of rfl) rfl ?_
  refine xw_nil ?_
  refine hK6 _ _ ?_
  refine xc_gen (fun g hg => ?_)
  have s0 := (hg 0).trans (en rfl (en rfl (en rfl (en rfl (en rfl (en rfl (en rfl s0)))))))
  have s1 := (hg 1).trans (en rfl (en rfl (en rfl (en rfl (en rfl (en rfl (en rfl s1)))))))
  have s2 := (hg 2).trans (en rfl (en rfl (en rfl (en rfl (en rfl (en rfl (en rfl s2)))))))
  have s6 := (hg 6).trans (en rfl (en rfl (en rfl (en rfl (en rfl (en rfl (en rfl s6)))))))
  have s7 := (hg 7).trans (en rfl (en rfl (en rfl (en rfl (en rfl (en rfl (en rfl s7)))))))
  have s8 := (hg 8).trans (en rfl (en rfl (en rfl (en rfl (en rfl (en rfl (en rfl s8)))))))
  have s9 := (hg 9).trans (en rfl (en rfl (en rfl (en rfl (en rfl (en rfl (en rfl s9)))))))
  have s10 := (hg 10).trans (en rfl (en rfl (en rfl (en rfl (en rfl (en rfl (en rfl s10)))))))
  have s11 := (hg 11).trans (en rfl es)
  have s12 := (hg 12).trans es
  have s33 := (hg 33).trans (en rfl (en rfl (en rfl (en rfl (en rfl (en rfl (en rfl s33)))))))
  clear hg
  refine xc_seq (fun K hK7 => ?_)
  refine xc_seq (fun K hK8 => ?_)
  refine xc_region ?_
  refine x_val (r_move s8) (nd_of rfl) rfl ?_
  refine x_val (r_neq es ec (r := false) rfl) (nd_of rfl) rfl ?_
  refine x_val (r_move es) (nd_of rfl) rfl ?_
  refine x_take (d := 52) rfl rfl es ?_
  refine x_val (r_move (en rfl (en rfl (en rfl s10)))) (nd_of rfl) rfl ?_
  refine x_take (d := 52) rfl rfl (en rfl es) ?_
  refine x_val (r_neq es ec (decide_eq_true (by omega))) (nd_of rfl) rfl ?_
  refine x_val (r_pick_f (en rfl (en rfl es)) es) (nd_of rfl) rfl ?_
  refine x_val (r_move es) (nd_of rfl) rfl ?_
  refine x_pass (d := 56) rfl rfl es rfl ?_
  refine x_pass (d := 56) rfl rfl (en rfl es) rfl ?_
  refine x_val (r_pick_t (en rfl (en rfl es)) ec) (nd_of rfl) rfl ?_
  refine x_val (r_move es) (nd_of rfl) rfl ?_
  refine x_pass (d := 60) rfl rfl es rfl ?_
  refine x_pass (d := 60) rfl rfl (en rfl es) rfl ?_
  refine x_pass (d := 60) rfl rfl (en rfl (en rfl es)) rfl ?_
  refine x_pass (d := 60) rfl rfl (en rfl (en rfl (en rfl es))) rfl ?_
  refine x_pass (d := 60) rfl rfl (en rfl (en rfl (en rfl (en rfl es)))) rfl ?_
  refine x_pass (d := 60) rfl rfl (en rfl (en rfl (en rfl (en rfl (en rfl es))))) rfl ?_
  refine x_pass (d := 60) rfl rfl (en rfl (en rfl (en rfl (en rfl (en rfl (en rfl es)))))) rfl ?_
  refine x_pass (d := 60) rfl rfl (en rfl (en rfl (en rfl (en rfl (en rfl (en rfl (en rfl es))))))) rfl ?_
  refine x_pass (d := 60) rfl rfl (en rfl (en rfl (en rfl (en rfl (en rfl (en rfl (en rfl (en rfl es)))))))) rfl ?_
  refine x_val (r_pick_t (en rfl (en rfl (en rfl (en rfl (en rfl (en rfl (en rfl (en rfl (en rfl es))))))))) ec) (nd_of rfl) rfl ?_
  refine xw_nil ?_
  refine hK8 _ _ ?_
  refine xc_gen (fun g hg => ?_)
  have s0 := (hg 0).trans (en rfl (en rfl (en rfl (en rfl (en rfl (en rfl (en rfl (en rfl (en rfl (en rfl (en rfl (en rfl (en rfl (en rfl (en rfl (en rfl (en rfl (en rfl (en rfl (en rfl (en rfl s0)))))))))))))))))))))
  have s1 := (hg 1).trans (en rfl (en rfl (en rfl (en rfl (en rfl (en rfl (en rfl (en rfl (en rfl (en rfl (en rfl (en rfl (en rfl (en rfl (en rfl (en rfl (en rfl (en rfl (en rfl (en rfl (en rfl s1)))))))))))))))))))))
  have s2 := (hg 2).trans (en rfl (en rfl (en rfl (en rfl (en rfl (en rfl (en rfl (en rfl (en rfl (en rfl (en rfl (en rfl (en rfl (en rfl (en rfl (en rfl (en rfl (en rfl (en rfl (en rfl (en rfl s2)))))))))))))))))))))
  have s6 := (hg 6).trans (en rfl (en rfl (en rfl (en rfl (en rfl (en rfl (en rfl (en rfl (en rfl (en rfl (en rfl (en rfl (en rfl (en rfl (en rfl (en rfl (en rfl (en rfl (en rfl (en rfl (en rfl s6)))))))))))))))))))))
  have s7 := (hg 7).trans (en rfl (en rfl (en rfl (en rfl (en rfl (en rfl (en rfl (en rfl (en rfl (en rfl (en rfl (en rfl (en rfl (en rfl (en rfl (en rfl (en rfl (en rfl (en rfl (en rfl (en rfl s7)))))))))))))))))))))
  have s8 := (hg 8).trans (en rfl (en rfl (en rfl (en rfl (en rfl (en rfl (en rfl (en rfl (en rfl (en rfl (en rfl (en rfl (en rfl (en rfl (en rfl (en rfl (en rfl (en rfl (en rfl (en rfl (en rfl s8)))))))))))))))))))))
  have s9 := (hg 9).trans (en rfl (en rfl (en rfl (en rfl (en rfl (en rfl (en rfl (en rfl (en rfl (en rfl (en rfl (en rfl (en rfl (en rfl (en rfl (en rfl (en rfl (en rfl (en rfl (en rfl (en rfl s9)))))))))))))))))))))
  have s10 := (hg 10).trans (en rfl (en rfl (en rfl (en rfl (en rfl (en rfl (en rfl (en rfl (en rfl (en rfl (en rfl (en rfl (en rfl (en rfl (en rfl (en rfl (en rfl (en rfl (en rfl (en rfl (en rfl s10)))))))))))))))))))))
  have s11 := (hg 11).trans (en rfl (en rfl (en rfl (en rfl (en rfl (en rfl (en rfl (en rfl (en rfl (en rfl (en rfl (en rfl (en rfl (en rfl (en rfl (en rfl (en rfl (en rfl (en rfl (en rfl (en rfl s11)))))))))))))))))))))
  have s12 := (hg 12).trans (en rfl (en rfl (en rfl (en rfl (en rfl (en rfl (en rfl (en rfl (en rfl (en rfl (en rfl (en rfl (en rfl (en rfl (en rfl (en rfl (en rfl (en rfl (en rfl (en rfl (en rfl s12)))))))))))))))))))))
  have s33 := (hg 33).trans (en rfl (en rfl (en rfl (en rfl (en rfl (en rfl (en rfl (en rfl (en rfl (en rfl (en rfl (en rfl (en rfl (en rfl (en rfl (en rfl (en rfl (en rfl (en rfl (en rfl (en rfl s33)))))))))))))))))))))
  have s70 := (hg 70).trans es
  clear hg
  refine xc_cond s70 (fun _ => ?_) (fun hc => by cases hc)
  refine xc_seq (fun K hK9 => ?_)
  refine xc_region ?_
  refine x_enter (r_call Try.call9 .nil) (nd_of rfl) rfl (known_ok h) ?_
  rintro _ w ⟨rfl, h⟩
  refine x_val (r_assign es) (nd_of rfl) rfl ?_
  refine xw_nil ?_
  refine hK9 _ _ ?_
  refine xc_gen (fun g hg => ?_)
  have s0 := (hg 0).trans (en rfl (en rfl s0))
  have s1 := (hg 1).trans (en rfl (en rfl s1))
  have s2 := (hg 2).trans (en rfl (en rfl s2))
  have s6 := (hg 6).trans es
  have s7 := (hg 7).trans (en rfl (en rfl s7))
  have s8 := (hg 8).trans (en rfl (en rfl s8))
  have s9 := (hg 9).trans (en rfl (en rfl s9))
  have s10 := (hg 10).trans (en rfl (en rfl s10))
  have s11 := (hg 11).trans (en rfl (en rfl s11))
  have s12 := (hg 12).trans (en rfl (en rfl s12))
  have s33 := (hg 33).trans (en rfl (en rfl s33))
  have s70 := (hg 70).trans (en rfl (en rfl s70))
  clear hg
  refine xc_ret ?_
  refine bodyR_1 rfl s6 ?_
  exact ⟨rfl, h.drop.drop.drop⟩
theorem joins_not3 (hv : Reads E R v .i32 zs) (hu : Reads E R u .i32 ys) (ht : Reads E R t .i32 xs) (ho : ChOk zs) (hp : ChOk ys) (hx : xs.length ≤ 100) (hn : ¬ ChOk xs) (h : SatL E w R) : Calls Try.prog 7 #[v, u, t] w (Ret fun u w' => u = .bool true ∧ SatL E w' R) := by
  obtain ⟨a, cap, rfl, _, _⟩ := hv.slice h
  obtain ⟨a2, cap2, rfl, _, _⟩ := hu.slice h
  obtain ⟨a3, cap3, rfl, _, _⟩ := ht.slice h
  have hnil := chOk_nil
  have hz := ho.len
  have hy := hp.len
  refine calls_x Try.func7 rfl Try.ntmps7 rfl ?_
  refine xc_gen (fun g hg => ?_)
  have s0 := (hg 0).trans arg0
  have s1 := (hg 1).trans arg1
  have s2 := (hg 2).trans arg2
  clear hg
  refine xc_seq (fun K hK1 => ?_)
  refine xc_region ?_
  refine x_val (r_assign ec) (nd_of rfl) rfl ?_
  refine xw_nil ?_
  refine hK1 _ _ ?_
  refine xc_gen (fun g hg => ?_)
  have s0 := (hg 0).trans (en rfl s0)
  have s1 := (hg 1).trans (en rfl s1)
  have s2 := (hg 2).trans (en rfl s2)
  have s6 := (hg 6).trans es
  clear hg
  refine xc_seq (fun K hK2 => ?_)
  refine xc_seq (fun K hK3 => ?_)
  refine xc_region ?_
  refine x_val (r_move s0) (nd_of rfl) rfl ?_
  refine x_val (r_len Try.underlying22 es) (nd_of rfl) rfl ?_
  refine x_val (r_gtr es ec (decide_eq_false (by omega))) (nd_of rfl) rfl ?_
  refine x_val (r_move es) (nd_of rfl) rfl ?_
  refine x_take (d := 24) rfl rfl es ?_
  refine x_val (r_move (en rfl (en rfl (en rfl (en rfl s1))))) (nd_of rfl) rfl ?_
  refine x_take (d := 24) rfl rfl (en rfl es) ?_
  refine x_val (r_len Try.underlying22 es) (nd_of rfl) rfl ?_
  refine x_take (d := 24) rfl rfl (en rfl (en rfl es)) ?_
  refine x_val (r_gtr es ec (decide_eq_false (by omega))) (nd_of rfl) rfl ?_
  refine x_val (r_pick_f (en rfl (en rfl (en rfl es))) es) (nd_of rfl) rfl ?_
  refine x_val (r_move es) (nd_of rfl) rfl ?_
  refine x_take (d := 29) rfl rfl es ?_
  refine x_val (r_move (en rfl (en rfl (en rfl (en rfl (en rfl (en rfl (en rfl (en rfl (en rfl s2)))))))))) (nd_of rfl) rfl ?_
  refine x_take (d := 29) rfl rfl (en rfl es) ?_
  refine x_val (r_len Try.underlying22 es) (nd_of rfl) rfl ?_
  refine x_take (d := 29) rfl rfl (en rfl (en rfl es)) ?_
  refine x_val (r_gtr es ec (decide_eq_false (by omega))) (nd_of rfl) rfl ?_
  refine x_val (r_pick_f (en rfl (en rfl (en rfl es))) es) (nd_of rfl) rfl ?_
  refine xw_nil ?_
  refine hK3 _ _ ?_
  refine xc_gen (fun g hg => ?_)
  have s0 := (hg 0).trans (en rfl (en rfl (en rfl (en rfl (en rfl (en rfl (en rfl (en rfl (en rfl (en rfl (en rfl (en rfl (en rfl s0)))))))))))))
  have s1 := (hg 1).trans (en rfl (en rfl (en rfl (en rfl (en rfl (en rfl (en rfl (en rfl (en rfl (en rfl (en rfl (en rfl (en rfl s1)))))))))))))
  have s2 := (hg 2).trans (en rfl (en rfl (en rfl (en rfl (en rfl (en rfl (en rfl (en rfl (en rfl (en rfl (en rfl (en rfl (en rfl s2)))))))))))))
  have s6 := (hg 6).trans (en rfl (en rfl (en rfl (en rfl (en rfl (en rfl (en rfl (en rfl (en rfl (en rfl (en rfl (en rfl (en rfl s6)))))))))))))
  have s33 := (hg 33).trans es
  clear hg
  refine xc_cond s33 (fun hc => by cases hc) (fun _ => ?_)
  refine xc_skip ?_
  refine hK2 _ _ ?_
  refine xc_seq (fun K hK4 => ?_)
  refine xc_region ?_
  refine x_val (r_move s0) (nd_of rfl) rfl ?_
  refine x_enter (r_call Try.call10 (.cons es .nil)) (nd_of rfl) rfl (of_ok hv ho h) ?_
  rintro _ w ⟨rfl, h⟩
  refine x_val (r_move es) (nd_of rfl) rfl ?_
  refine x_val (r_extract es gc0) (nd_of rfl) rfl ?_
  refine x_val (r_extract (en rfl es) gc1) (nd_of rfl) rfl ?_
  refine x_declA h Try.zeroValue26 Try.sizeOf26 rfl (en rfl (en rfl es)) (by first | assumption | exact Ok.node (by assumption) | exact ChOk.ok (by assumption)) rfl ?_
  intro b7 w h
  refine x_val (r_assign (en rfl es)) (nd_of rfl) rfl ?_
  refine xw_nil ?_
  refine hK4 _ _ ?_
  refine xc_gen (fun g hg => ?_)
  have s0 := (hg 0).trans (en rfl (en rfl (en rfl (en rfl (en rfl (en rfl (en rfl s0)))))))
  have s1 := (hg 1).trans (en rfl (en rfl (en rfl (en rfl (en rfl (en rfl (en rfl s1)))))))
  have s2 := (hg 2).trans (en rfl (en rfl (en rfl (en rfl (en rfl (en rfl (en rfl s2)))))))
  have s6 := (hg 6).trans (en rfl (en rfl (en rfl (en rfl (en rfl (en rfl (en rfl s6)))))))
  have s7 := (hg 7).trans (en rfl es)
  have s8 := (hg 8).trans es
  have s33 := (hg 33).trans (en rfl (en rfl (en rfl (en rfl (en rfl (en rfl (en rfl s33)))))))
  clear hg
  refine xc_seq (fun K hK5 => ?_)
  refine xc_region ?_
  refine x_val (r_move s1) (nd_of rfl) rfl ?_
  refine x_enter (r_call Try.call10 (.cons es .nil)) (nd_of rfl) rfl (of_ok hu.up hp h) ?_
  rintro _ w ⟨rfl, h⟩
  refine x_val (r_move es) (nd_of rfl) rfl ?_
  refine x_val (r_extract es gc0) (nd_of rfl) rfl ?_
  refine x_val (r_extract (en rfl es) gc1) (nd_of rfl) rfl ?_
  refine x_declA h Try.zeroValue26 Try.sizeOf26 rfl (en rfl (en rfl es)) (by first | assumption | exact Ok.node (by assumption) | exact ChOk.ok (by assumption)) rfl ?_
  intro b9 w h
  refine x_val (r_assign (en rfl es)) (nd_of rfl) rfl ?_
  refine xw_nil ?_
  refine hK5 _ _ ?_
  refine xc_gen (fun g hg => ?_)
  have s0 := (hg 0).trans (en rfl (en rfl (en rfl (en rfl (en rfl (en rfl (en rfl s0)))))))
  have s1 := (hg 1).trans (en rfl (en rfl (en rfl (en rfl (en rfl (en rfl (en rfl s1)))))))
  have s2 := (hg 2).trans (en rfl (en rfl (en rfl (en rfl (en rfl (en rfl (en rfl s2)))))))
  have s6 := (hg 6).trans (en rfl (en rfl (en rfl (en rfl (en rfl (en rfl (en rfl s6)))))))
  have s7 := (hg 7).trans (en rfl (en rfl (en rfl (en rfl (en rfl (en rfl (en rfl s7)))))))
  have s8 := (hg 8).trans (en rfl (en rfl (en rfl (en rfl (en rfl (en rfl (en rfl s8)))))))
  have s9 := (hg 9).trans (en rfl es)
  have s10 := (hg 10).trans es
  have s33 := (hg 33).trans (en rfl (en rfl (en rfl (en rfl (en rfl (en rfl (en rfl s33)))))))
  clear hg
  refine xc_seq (fun K hK6 => ?_)
  refine xc_region ?_
  refine x_val (r_move s2) (nd_of rfl) rfl ?_
  refine x_enter (r_call Try.call10 (.cons es .nil)) (nd_of rfl) rfl (of_not ht.up.up hn h) ?_
  rintro _ w ⟨⟨e, he, rfl⟩, h⟩
  refine x_val (r_move es) (nd_of rfl) rfl ?_
  refine x_val (r_extract es gc0) (nd_of rfl) rfl ?_
  refine x_val (r_extract (en rfl es) gc1) (nd_of rfl) rfl ?_
  refine x_declA h Try.zeroValue26 Try.sizeOf26 rfl (en rfl (en rfl es)) (by first | assumption | exact Ok.node (by assumption) | exact ChOk.ok (by assumption)) rfl ?_
  intro b11 w h
  refine x_val (r_assign (en rfl es)) (nd_of rfl) rfl ?_
  refine xw_nil ?_
  refine hK6 _ _ ?_
  refine xc_gen (fun g hg => ?_)
  have s0 := (hg 0).trans (en rfl (en rfl (en rfl (en rfl (en rfl (en rfl (en rfl s0)))))))
  have s1 := (hg 1).trans (en rfl (en rfl (en rfl (en rfl (en rfl (en rfl (en rfl s1)))))))
  have s2 := (hg 2).trans (en rfl (en rfl (en rfl (en rfl (en rfl (en rfl (en rfl s2)))))))
  have s6 := (hg 6).trans (en rfl (en rfl (en rfl (en rfl (en rfl (en rfl (en rfl s6)))))))
  have s7 := (hg 7).trans (en rfl (en rfl (en rfl (en rfl (en rfl (en rfl (en rfl s7)))))))
  have s8 := (hg 8).trans (en rfl (en rfl (en rfl (en rfl (en rfl (en rfl (en rfl s8)))))))
  have s9 := (hg 9).trans (en rfl (en rfl (en rfl (en rfl (en rfl (en rfl (en rfl s9)))))))
  have s10 := (hg 10).trans (en rfl (en rfl (en rfl (en rfl (en rfl (en rfl (en rfl s10)))))))
  have s11 := (hg 11).trans (en rfl es)
  have s12 := (hg 12).trans es
  have s33 := (hg 33).trans (en rfl (en rfl (en rfl (en rfl (en rfl (en rfl (en rfl s33)))))))
  clear hg
  refine xc_seq (fun K hK7 => ?_)
  refine xc_seq (fun K hK8 => ?_)
  refine xc_region ?_
  refine x_val (r_move s8) (nd_of rfl) rfl ?_
  refine x_val (r_neq es ec (r := false) rfl) (nd_of rfl) rfl ?_
  refine x_val (r_move es) (nd_of rfl) rfl ?_
  refine x_take (d := 52) rfl rfl es ?_
  refine x_val (r_move (en rfl (en rfl (en rfl s10)))) (nd_of rfl) rfl ?_
  refine x_take (d := 52) rfl rfl (en rfl es) ?_
  refine x_val (r_neq es ec (r := false) rfl) (nd_of rfl) rfl ?_
  refine x_val (r_pick_f (en rfl (en rfl es)) es) (nd_of rfl) rfl ?_
  refine x_val (r_move es) (nd_of rfl) rfl ?_
  refine x_take (d := 56) rfl rfl es ?_
  refine x_val (r_move (en rfl (en rfl (en rfl (en rfl (en rfl (en rfl (en rfl s12)))))))) (nd_of rfl) rfl ?_
  refine x_take (d := 56) rfl rfl (en rfl es) ?_
  refine x_val (r_neq es ec (decide_eq_true (by omega))) (nd_of rfl) rfl ?_
  refine x_val (r_pick_f (en rfl (en rfl es)) es) (nd_of rfl) rfl ?_
  refine x_val (r_move es) (nd_of rfl) rfl ?_
  refine x_pass (d := 60) rfl rfl es rfl ?_
  refine x_pass (d := 60) rfl rfl (en rfl es) rfl ?_
  refine x_pass (d := 60) rfl rfl (en rfl (en rfl es)) rfl ?_
  refine x_pass (d := 60) rfl rfl (en rfl (en rfl (en rfl es))) rfl ?_
  refine x_pass (d := 60) rfl rfl (en rfl (en rfl (en rfl (en rfl es)))) rfl ?_
  refine x_pass (d := 60) rfl rfl (en rfl (en rfl (en rfl (en rfl (en rfl es))))) rfl ?_
  refine x_pass (d := 60) rfl rfl (en rfl (en rfl (en rfl (en rfl (en rfl (en rfl es)))))) rfl ?_
  refine x_pass (d := 60) rfl rfl (en rfl (en rfl (en rfl (en rfl (en rfl (en rfl (en rfl es))))))) rfl ?_
  refine x_pass (d := 60) rfl rfl (en rfl (en rfl (en rfl (en rfl (en rfl (en rfl (en rfl (en rfl es)))))))) rfl ?_
  refine x_val (r_pick_t (en rfl (en rfl (en rfl (en rfl (en rfl (en rfl (en rfl (en rfl (en rfl es))))))))) ec) (nd_of rfl) rfl ?_
  refine xw_nil ?_
  refine hK8 _ _ ?_
  refine xc_gen (fun g hg => ?_)
  have s0 := (hg 0).trans (en rfl (en rfl (en rfl (en rfl (en rfl (en rfl (en rfl (en rfl (en rfl (en rfl (en rfl (en rfl (en rfl (en rfl (en rfl (en rfl (en rfl (en rfl (en rfl (en rfl (en rfl s0)))))))))))))))))))))
  have s1 := (hg 1).trans (en rfl (en rfl (en rfl (en rfl (en rfl (en rfl (en rfl (en rfl (en rfl (en rfl (en rfl (en rfl (en rfl (en rfl (en rfl (en rfl (en rfl (en rfl (en rfl (en rfl (en rfl s1)))))))))))))))))))))
  have s2 := (hg 2).trans (en rfl (en rfl (en rfl (en rfl (en rfl (en rfl (en rfl (en rfl (en rfl (en rfl (en rfl (en rfl (en rfl (en rfl (en rfl (en rfl (en rfl (en rfl (en rfl (en rfl (en rfl s2)))))))))))))))))))))
  have s6 := (hg 6).trans (en rfl (en rfl (en rfl (en rfl (en rfl (en rfl (en rfl (en rfl (en rfl (en rfl (en rfl (en rfl (en rfl (en rfl (en rfl (en rfl (en rfl (en rfl (en rfl (en rfl (en rfl s6)))))))))))))))))))))
  have s7 := (hg 7).trans (en rfl (en rfl (en rfl (en rfl (en rfl (en rfl (en rfl (en rfl (en rfl (en rfl (en rfl (en rfl (en rfl (en rfl (en rfl (en rfl (en rfl (en rfl (en rfl (en rfl (en rfl s7)))))))))))))))))))))
  have s8 := (hg 8).trans (en rfl (en rfl (en rfl (en rfl (en rfl (en rfl (en rfl (en rfl (en rfl (en rfl (en rfl (en rfl (en rfl (en rfl (en rfl (en rfl (en rfl (en rfl (en rfl (en rfl (en rfl s8)))))))))))))))))))))
  have s9 := (hg 9).trans (en rfl (en rfl (en rfl (en rfl (en rfl (en rfl (en rfl (en rfl (en rfl (en rfl (en rfl (en rfl (en rfl (en rfl (en rfl (en rfl (en rfl (en rfl (en rfl (en rfl (en rfl s9)))))))))))))))))))))
  have s10 := (hg 10).trans (en rfl (en rfl (en rfl (en rfl (en rfl (en rfl (en rfl (en rfl (en rfl (en rfl (en rfl (en rfl (en rfl (en rfl (en rfl (en rfl (en rfl (en rfl (en rfl (en rfl (en rfl s10)))))))))))))))))))))
  have s11 := (hg 11).trans (en rfl (en rfl (en rfl (en rfl (en rfl (en rfl (en rfl (en rfl (en rfl (en rfl (en rfl (en rfl (en rfl (en rfl (en rfl (en rfl (en rfl (en rfl (en rfl (en rfl (en rfl s11)))))))))))))))))))))
  have s12 := (hg 12).trans (en rfl (en rfl (en rfl (en rfl (en rfl (en rfl (en rfl (en rfl (en rfl (en rfl (en rfl (en rfl (en rfl (en rfl (en rfl (en rfl (en rfl (en rfl (en rfl (en rfl (en rfl s12)))))))))))))))))))))
  have s33 := (hg 33).trans (en rfl (en rfl (en rfl (en rfl (en rfl (en rfl (en rfl (en rfl (en rfl (en rfl (en rfl (en rfl (en rfl (en rfl (en rfl (en rfl (en rfl (en rfl (en rfl (en rfl (en rfl s33)))))))))))))))))))))
  have s70 := (hg 70).trans es
  clear hg
  refine xc_cond s70 (fun _ => ?_) (fun hc => by cases hc)
  refine xc_seq (fun K hK9 => ?_)
  refine xc_region ?_
  refine x_enter (r_call Try.call9 .nil) (nd_of rfl) rfl (known_ok h) ?_
  rintro _ w ⟨rfl, h⟩
  refine x_val (r_assign es) (nd_of rfl) rfl ?_
  refine xw_nil ?_
  refine hK9 _ _ ?_
  refine xc_gen (fun g hg => ?_)
  have s0 := (hg 0).trans (en rfl (en rfl s0))
  have s1 := (hg 1).trans (en rfl (en rfl s1))
  have s2 := (hg 2).trans (en rfl (en rfl s2))
  have s6 := (hg 6).trans es
  have s7 := (hg 7).trans (en rfl (en rfl s7))
  have s8 := (hg 8).trans (en rfl (en rfl s8))
  have s9 := (hg 9).trans (en rfl (en rfl s9))
  have s10 := (hg 10).trans (en rfl (en rfl s10))
  have s11 := (hg 11).trans (en rfl (en rfl s11))
  have s12 := (hg 12).trans (en rfl (en rfl s12))
  have s33 := (hg 33).trans (en rfl (en rfl s33))
  have s70 := (hg 70).trans (en rfl (en rfl s70))
  clear hg
  refine xc_ret ?_
  refine bodyR_1 rfl s6 ?_
  exact ⟨rfl, h.drop.drop.drop⟩
theorem joins_long (hv : Reads E R v .i32 zs) (hu : Reads E R u .i32 ys) (ht : Reads E R t .i32 xs) (ho : ChOk zs) (hp : ChOk ys) (hq : ChOk xs) (hs : 32 < zs.length + ys.length + xs.length) (h : SatL E w R) : Calls Try.prog 7 #[v, u, t] w (Ret fun u w' => u = .bool true ∧ SatL E w' R) := by
  obtain ⟨a, cap, rfl, _, _⟩ := hv.slice h
  obtain ⟨a2, cap2, rfl, _, _⟩ := hu.slice h
  obtain ⟨a3, cap3, rfl, _, _⟩ := ht.slice h
  have hnil := chOk_nil
  have hz := ho.len
  have hy := hp.len
  have hx := hq.len
  refine calls_x Try.func7 rfl Try.ntmps7 rfl ?_
  refine xc_gen (fun g hg => ?_)
  have s0 := (hg 0).trans arg0
  have s1 := (hg 1).trans arg1
  have s2 := (hg 2).trans arg2
  clear hg
  refine xc_seq (fun K hK1 => ?_)
  refine xc_region ?_
  refine x_val (r_assign ec) (nd_of rfl) rfl ?_
  refine xw_nil ?_
  refine hK1 _ _ ?_
  refine xc_gen (fun g hg => ?_)
  have s0 := (hg 0).trans (en rfl s0)
  have s1 := (hg 1).trans (en rfl s1)
  have s2 := (hg 2).trans (en rfl s2)
  have s6 := (hg 6).trans es
  clear hg
  refine xc_seq (fun K hK2 => ?_)
  refine xc_seq (fun K hK3 => ?_)
  refine xc_region ?_
  refine x_val (r_move s0) (nd_of rfl) rfl ?_
  refine x_val (r_len Try.underlying22 es) (nd_of rfl) rfl ?_
  refine x_val (r_gtr es ec (decide_eq_false (by omega))) (nd_of rfl) rfl ?_
  refine x_val (r_move es) (nd_of rfl) rfl ?_
  refine x_take (d := 24) rfl rfl es ?_
  refine x_val (r_move (en rfl (en rfl (en rfl (en rfl s1))))) (nd_of rfl) rfl ?_
  refine x_take (d := 24) rfl rfl (en rfl es) ?_
  refine x_val (r_len Try.underlying22 es) (nd_of rfl) rfl ?_
  refine x_take (d := 24) rfl rfl (en rfl (en rfl es)) ?_
  refine x_val (r_gtr es ec (decide_eq_false (by omega))) (nd_of rfl) rfl ?_
  refine x_val (r_pick_f (en rfl (en rfl (en rfl es))) es) (nd_of rfl) rfl ?_
  refine x_val (r_move es) (nd_of rfl) rfl ?_
  refine x_take (d := 29) rfl rfl es ?_
  refine x_val (r_move (en rfl (en rfl (en rfl (en rfl (en rfl (en rfl (en rfl (en rfl (en rfl s2)))))))))) (nd_of rfl) rfl ?_
  refine x_take (d := 29) rfl rfl (en rfl es) ?_
  refine x_val (r_len Try.underlying22 es) (nd_of rfl) rfl ?_
  refine x_take (d := 29) rfl rfl (en rfl (en rfl es)) ?_
  refine x_val (r_gtr es ec (decide_eq_false (by omega))) (nd_of rfl) rfl ?_
  refine x_val (r_pick_f (en rfl (en rfl (en rfl es))) es) (nd_of rfl) rfl ?_
  refine xw_nil ?_
  refine hK3 _ _ ?_
  refine xc_gen (fun g hg => ?_)
  have s0 := (hg 0).trans (en rfl (en rfl (en rfl (en rfl (en rfl (en rfl (en rfl (en rfl (en rfl (en rfl (en rfl (en rfl (en rfl s0)))))))))))))
  have s1 := (hg 1).trans (en rfl (en rfl (en rfl (en rfl (en rfl (en rfl (en rfl (en rfl (en rfl (en rfl (en rfl (en rfl (en rfl s1)))))))))))))
  have s2 := (hg 2).trans (en rfl (en rfl (en rfl (en rfl (en rfl (en rfl (en rfl (en rfl (en rfl (en rfl (en rfl (en rfl (en rfl s2)))))))))))))
  have s6 := (hg 6).trans (en rfl (en rfl (en rfl (en rfl (en rfl (en rfl (en rfl (en rfl (en rfl (en rfl (en rfl (en rfl (en rfl s6)))))))))))))
  have s33 := (hg 33).trans es
  clear hg
  refine xc_cond s33 (fun hc => by cases hc) (fun _ => ?_)
  refine xc_skip ?_
  refine hK2 _ _ ?_
  refine xc_seq (fun K hK4 => ?_)
  refine xc_region ?_
  refine x_val (r_move s0) (nd_of rfl) rfl ?_
  refine x_enter (r_call Try.call10 (.cons es .nil)) (nd_of rfl) rfl (of_ok hv ho h) ?_
  rintro _ w ⟨rfl, h⟩
  refine x_val (r_move es) (nd_of rfl) rfl ?_
  refine x_val (r_extract es gc0) (nd_of rfl) rfl ?_
  refine x_val (r_extract (en rfl es) gc1) (nd_of rfl) rfl ?_
  refine x_declA h Try.zeroValue26 Try.sizeOf26 rfl (en rfl (en rfl es)) (by first | assumption | exact Ok.node (by assumption) | exact ChOk.ok (by assumption)) rfl ?_
  intro b7 w h
  refine x_val (r_assign (en rfl es)) (nd_of rfl) rfl ?_
  refine xw_nil ?_
  refine hK4 _ _ ?_
  refine xc_gen (fun g hg => ?_)
  have s0 := (hg 0).trans (en rfl (en rfl (en rfl (en rfl (en rfl (en rfl (en rfl s0)))))))
  have s1 := (hg 1).trans (en rfl (en rfl (en rfl (en rfl (en rfl (en rfl (en rfl s1)))))))
  have s2 := (hg 2).trans (en rfl (en rfl (en rfl (en rfl (en rfl (en rfl (en rfl s2)))))))
  have s6 := (hg 6).trans (en rfl (en rfl (en rfl (en rfl (en rfl (en rfl (en rfl s6)))))))
  have s7 := (hg 7).trans (en rfl es)
  have s8 := (hg 8).trans es
  have s33 := (hg 33).trans (en rfl (en rfl (en rfl (en rfl (en rfl (en rfl (en rfl s33)))))))
  clear hg
  refine xc_seq (fun K hK5 => ?_)
  refine xc_region ?_
  refine x_val (r_move s1) (nd_of rfl) rfl ?_
  refine x_enter (r_call Try.call10 (.cons es .nil)) (nd_of rfl) rfl (of_ok hu.up hp h) ?_
  rintro _ w ⟨rfl, h⟩
  refine x_val (r_move es) (nd_of rfl) rfl ?_
  refine x_val (r_extract es gc0) (nd_of rfl) rfl ?_
  refine x_val (r_extract (en rfl es) gc1) (nd_of rfl) rfl ?_
  refine x_declA h Try.zeroValue26 Try.sizeOf26 rfl (en rfl (en rfl es)) (by first | assumption | exact Ok.node (by assumption) | exact ChOk.ok (by assumption)) rfl ?_
  intro b9 w h
  refine x_val (r_assign (en rfl es)) (nd_of rfl) rfl ?_
  refine xw_nil ?_
  refine hK5 _ _ ?_
  refine xc_gen (fun g hg => ?_)
  have s0 := (hg 0).trans (en rfl (en rfl (en rfl (en rfl (en rfl (en rfl (en rfl s0)))))))
  have s1 := (hg 1).trans (en rfl (en rfl (en rfl (en rfl (en rfl (en rfl (en rfl s1)))))))
  have s2 := (hg 2).trans (en rfl (en rfl (en rfl (en rfl (en rfl (en rfl (en rfl s2)))))))
  have s6 := (hg 6).trans (en rfl (en rfl (en rfl (en rfl (en rfl (en rfl (en rfl s6)))))))
  have s7 := (hg 7).trans (en rfl (en rfl (en rfl (en rfl (en rfl (en rfl (en rfl s7)))))))
  have s8 := (hg 8).trans (en rfl (en rfl (en rfl (en rfl (en rfl (en rfl (en rfl s8)))))))
  have s9 := (hg 9).trans (en rfl es)
  have s10 := (hg 10).trans es
  have s33 := (hg 33).trans (en rfl (en rfl (en rfl (en rfl (en rfl (en rfl (en rfl s33)))))))
  clear hg
  refine xc_seq (fun K hK6 => ?_)
  refine xc_region ?_
  refine x_val (r_move s2) (nd_of rfl) rfl ?_
  refine x_enter (r_call Try.call10 (.cons es .nil)) (nd_of rfl) rfl (of_ok ht.up.up hq h) ?_
  rintro _ w ⟨rfl, h⟩
  refine x_val (r_move es) (nd_of rfl) rfl ?_
  refine x_val (r_extract es gc0) (nd_of rfl) rfl ?_
  refine x_val (r_extract (en rfl es) gc1) (nd_of rfl) rfl ?_
  refine x_declA h Try.zeroValue26 Try.sizeOf26 rfl (en rfl (en rfl es)) (by first | assumption | exact Ok.node (by assumption) | exact ChOk.ok (by assumption)) rfl ?_
  intro b11 w h
  refine x_val (r_assign (en rfl es)) (nd_of rfl) rfl ?_
  refine xw_nil ?_
  refine hK6 _ _ ?_
  refine xc_gen (fun g hg => ?_)
  have s0 := (hg 0).trans (en rfl (en rfl (en rfl (en rfl (en rfl (en rfl (en rfl s0)))))))
  have s1 := (hg 1).trans (en rfl (en rfl (en rfl (en rfl (en rfl (en rfl (en rfl s1)))))))
  have s2 := (hg 2).trans (en rfl (en rfl (en rfl (en rfl (en rfl (en rfl (en rfl s2)))))))
  have s6 := (hg 6).trans (en rfl (en rfl (en rfl (en rfl (en rfl (en rfl (en rfl s6)))))))
  have s7 := (hg 7).trans (en rfl (en rfl (en rfl (en rfl (en rfl (en rfl (en rfl s7)))))))
  have s8 := (hg 8).trans (en rfl (en rfl (en rfl (en rfl (en rfl (en rfl (en rfl s8)))))))
  have s9 := (hg 9).trans (en rfl (en rfl (en rfl (en rfl (en rfl (en rfl (en rfl s9)))))))
  have s10 := (hg 10).trans (en rfl (en rfl (en rfl (en rfl (en rfl (en rfl (en rfl s10)))))))
  have s11 := (hg 11).trans (en rfl es)
  have s12 := (hg 12).trans es
  have s33 := (hg 33).trans (en rfl (en rfl (en rfl (en rfl (en rfl (en rfl (en rfl s33)))))))
  clear hg
  refine xc_seq (fun K hK7 => ?_)
  refine xc_seq (fun K hK8 => ?_)
  refine xc_region ?_
  refine x_val (r_move s8) (nd_of rfl) rfl ?_
  refine x_val (r_neq es ec (r := false) rfl) (nd_of rfl) rfl ?_
  refine x_val (r_move es) (nd_of rfl) rfl ?_
  refine x_take (d := 52) rfl rfl es ?_
  refine x_val (r_move (en rfl (en rfl (en rfl s10)))) (nd_of rfl) rfl ?_
  refine x_take (d := 52) rfl rfl (en rfl es) ?_
  refine x_val (r_neq es ec (r := false) rfl) (nd_of rfl) rfl ?_
  refine x_val (r_pick_f (en rfl (en rfl es)) es) (nd_of rfl) rfl ?_
  refine x_val (r_move es) (nd_of rfl) rfl ?_
  refine x_take (d := 56) rfl rfl es ?_
  refine x_val (r_move (en rfl (en rfl (en rfl (en rfl (en rfl (en rfl (en rfl s12)))))))) (nd_of rfl) rfl ?_
  refine x_take (d := 56) rfl rfl (en rfl es) ?_
  refine x_val (r_neq es ec (r := false) rfl) (nd_of rfl) rfl ?_
  refine x_val (r_pick_f (en rfl (en rfl es)) es) (nd_of rfl) rfl ?_
  refine x_val (r_move es) (nd_of rfl) rfl ?_
  refine x_take (d := 60) rfl rfl es ?_
  refine x_val (r_move (en rfl (en rfl (en rfl (en rfl (en rfl (en rfl (en rfl (en rfl (en rfl (en rfl (en rfl s0)))))))))))) (nd_of rfl) rfl ?_
  refine x_take (d := 60) rfl rfl (en rfl es) ?_
  refine x_val (r_len Try.underlying22 es) (nd_of rfl) rfl ?_
  refine x_take (d := 60) rfl rfl (en rfl (en rfl es)) ?_
  refine x_val (r_move (en rfl (en rfl (en rfl (en rfl (en rfl (en rfl (en rfl (en rfl (en rfl (en rfl (en rfl (en rfl (en rfl s1)))))))))))))) (nd_of rfl) rfl ?_
  refine x_take (d := 60) rfl rfl (en rfl (en rfl (en rfl es))) ?_
  refine x_val (r_len Try.underlying22 es) (nd_of rfl) rfl ?_
  refine x_take (d := 60) rfl rfl (en rfl (en rfl (en rfl (en rfl es)))) ?_
  refine x_val (r_add (en rfl (en rfl es)) es rfl (by unfold I64; omega)) (nd_of rfl) rfl ?_
  refine x_take (d := 60) rfl rfl (en rfl (en rfl (en rfl (en rfl (en rfl es))))) ?_
  refine x_val (r_move (en rfl (en rfl (en rfl (en rfl (en rfl (en rfl (en rfl (en rfl (en rfl (en rfl (en rfl (en rfl (en rfl (en rfl (en rfl (en rfl s2))))))))))))))))) (nd_of rfl) rfl ?_
  refine x_take (d := 60) rfl rfl (en rfl (en rfl (en rfl (en rfl (en rfl (en rfl es)))))) ?_
  refine x_val (r_len Try.underlying22 es) (nd_of rfl) rfl ?_
  refine x_take (d := 60) rfl rfl (en rfl (en rfl (en rfl (en rfl (en rfl (en rfl (en rfl es))))))) ?_
  refine x_val (r_add (en rfl (en rfl es)) es rfl (by unfold I64; omega)) (nd_of rfl) rfl ?_
  refine x_take (d := 60) rfl rfl (en rfl (en rfl (en rfl (en rfl (en rfl (en rfl (en rfl (en rfl es)))))))) ?_
  refine x_val (r_gtr es ec (decide_eq_true (by omega))) (nd_of rfl) rfl ?_
  refine x_val (r_pick_f (en rfl (en rfl (en rfl (en rfl (en rfl (en rfl (en rfl (en rfl (en rfl es))))))))) es) (nd_of rfl) rfl ?_
  refine xw_nil ?_
  refine hK8 _ _ ?_
  refine xc_gen (fun g hg => ?_)
  have s0 := (hg 0).trans (en rfl (en rfl (en rfl (en rfl (en rfl (en rfl (en rfl (en rfl (en rfl (en rfl (en rfl (en rfl (en rfl (en rfl (en rfl (en rfl (en rfl (en rfl (en rfl (en rfl (en rfl s0)))))))))))))))))))))
  have s1 := (hg 1).trans (en rfl (en rfl (en rfl (en rfl (en rfl (en rfl (en rfl (en rfl (en rfl (en rfl (en rfl (en rfl (en rfl (en rfl (en rfl (en rfl (en rfl (en rfl (en rfl (en rfl (en rfl s1)))))))))))))))))))))
  have s2 := (hg 2).trans (en rfl (en rfl (en rfl (en rfl (en rfl (en rfl (en rfl (en rfl (en rfl (en rfl (en rfl (en rfl (en rfl (en rfl (en rfl (en rfl (en rfl (en rfl (en rfl (en rfl (en rfl s2)))))))))))))))))))))
  have s6 := (hg 6).trans (en rfl (en rfl (en rfl (en rfl (en rfl (en rfl (en rfl (en rfl (en rfl (en rfl (en rfl (en rfl (en rfl (en rfl (en rfl (en rfl (en rfl (en rfl (en rfl (en rfl (en rfl s6)))))))))))))))))))))
  have s7 := (hg 7).trans (en rfl (en rfl (en rfl (en rfl (en rfl (en rfl (en rfl (en rfl (en rfl (en rfl (en rfl (en rfl (en rfl (en rfl (en rfl (en rfl (en rfl (en rfl (en rfl (en rfl (en rfl s7)))))))))))))))))))))
  have s8 := (hg 8).trans (en rfl (en rfl (en rfl (en rfl (en rfl (en rfl (en rfl (en rfl (en rfl (en rfl (en rfl (en rfl (en rfl (en rfl (en rfl (en rfl (en rfl (en rfl (en rfl (en rfl (en rfl s8)))))))))))))))))))))
  have s9 := (hg 9).trans (en rfl (en rfl (en rfl (en rfl (en rfl (en rfl (en rfl (en rfl (en rfl (en rfl (en rfl (en rfl (en rfl (en rfl (en rfl (en rfl (en rfl (en rfl (en rfl (en rfl (en rfl s9)))))))))))))))))))))
  have s10 := (hg 10).trans (en rfl (en rfl (en rfl (en rfl (en rfl (en rfl (en rfl (en rfl (en rfl (en rfl (en rfl (en rfl (en rfl (en rfl (en rfl (en rfl (en rfl (en rfl (en rfl (en rfl (en rfl s10)))))))))))))))))))))
  have s11 := (hg 11).trans (en rfl (en rfl (en rfl (en rfl (en rfl (en rfl (en rfl (en rfl (en rfl (en rfl (en rfl (en rfl (en rfl (en rfl (en rfl (en rfl (en rfl (en rfl (en rfl (en rfl (en rfl s11)))))))))))))))))))))
  have s12 := (hg 12).trans (en rfl (en rfl (en rfl (en rfl (en rfl (en rfl (en rfl (en rfl (en rfl (en rfl (en rfl (en rfl (en rfl (en rfl (en rfl (en rfl (en rfl (en rfl (en rfl (en rfl (en rfl s12)))))))))))))))))))))
  have s33 := (hg 33).trans (en rfl (en rfl (en rfl (en rfl (en rfl (en rfl (en rfl (en rfl (en rfl (en rfl (en rfl (en rfl (en rfl (en rfl (en rfl (en rfl (en rfl (en rfl (en rfl (en rfl (en rfl s33)))))))))))))))))))))
  have s70 := (hg 70).trans es
  clear hg
  refine xc_cond s70 (fun _ => ?_) (fun hc => by cases hc)
  refine xc_seq (fun K hK9 => ?_)
  refine xc_region ?_
  refine x_enter (r_call Try.call9 .nil) (nd_of rfl) rfl (known_ok h) ?_
  rintro _ w ⟨rfl, h⟩
  refine x_val (r_assign es) (nd_of rfl) rfl ?_
  refine xw_nil ?_
  refine hK9 _ _ ?_
  refine xc_gen (fun g hg => ?_)
  have s0 := (hg 0).trans (en rfl (en rfl s0))
  have s1 := (hg 1).trans (en rfl (en rfl s1))
  have s2 := (hg 2).trans (en rfl (en rfl s2))
  have s6 := (hg 6).trans es
  have s7 := (hg 7).trans (en rfl (en rfl s7))
  have s8 := (hg 8).trans (en rfl (en rfl s8))
  have s9 := (hg 9).trans (en rfl (en rfl s9))
  have s10 := (hg 10).trans (en rfl (en rfl s10))
  have s11 := (hg 11).trans (en rfl (en rfl s11))
  have s12 := (hg 12).trans (en rfl (en rfl s12))
  have s33 := (hg 33).trans (en rfl (en rfl s33))
  have s70 := (hg 70).trans (en rfl (en rfl s70))
  clear hg
  refine xc_ret ?_
  refine bodyR_1 rfl s6 ?_
  exact ⟨rfl, h.drop.drop.drop⟩
theorem joins_ok (hv : Reads E R v .i32 zs) (hu : Reads E R u .i32 ys) (ht : Reads E R t .i32 xs) (ho : ChOk zs) (hp : ChOk ys) (hq : ChOk xs) (hs : zs.length + ys.length + xs.length ≤ 32) (h : SatL E w R) : Calls Try.prog 7 #[v, u, t] w (Ret fun u w' => u = .bool true ∧ SatL E w' R) := by
  obtain ⟨a, cap, rfl, _, _⟩ := hv.slice h
  obtain ⟨a2, cap2, rfl, _, _⟩ := hu.slice h
  obtain ⟨a3, cap3, rfl, _, _⟩ := ht.slice h
  have hnil := chOk_nil
  have hz := ho.len
  have hy := hp.len
  have hx := hq.len
  have hzy := ho.app hp (by omega)
  have hyx := hp.app hq (by omega)
  have h1 := hzy.app hq (by rw [List.length_append]; omega)
  have h2 := ho.app hyx (by rw [List.length_append]; omega)
  have hc1 : (zs ++ ys ++ xs).count 10 = zs.count 10 + ys.count 10 + xs.count 10 := by rw [List.count_append, List.count_append]
  have hc2 : (zs ++ ys ++ xs).count 10 ≤ 32 := Nat.le_trans List.count_le_length h1.len
  refine calls_x Try.func7 rfl Try.ntmps7 rfl ?_
  refine xc_gen (fun g hg => ?_)
  have s0 := (hg 0).trans arg0
  have s1 := (hg 1).trans arg1
  have s2 := (hg 2).trans arg2
  clear hg
  refine xc_seq (fun K hK1 => ?_)
  refine xc_region ?_
  refine x_val (r_assign ec) (nd_of rfl) rfl ?_
  refine xw_nil ?_
  refine hK1 _ _ ?_
  refine xc_gen (fun g hg => ?_)
  have s0 := (hg 0).trans (en rfl s0)
  have s1 := (hg 1).trans (en rfl s1)
  have s2 := (hg 2).trans (en rfl s2)
  have s6 := (hg 6).trans es
  clear hg
  refine xc_seq (fun K hK2 => ?_)
  refine xc_seq (fun K hK3 => ?_)
  refine xc_region ?_
  refine x_val (r_move s0) (nd_of rfl) rfl ?_
  refine x_val (r_len Try.underlying22 es) (nd_of rfl) rfl ?_
  refine x_val (r_gtr es ec (decide_eq_false (by omega))) (nd_of rfl) rfl ?_
  refine x_val (r_move es) (nd_of rfl) rfl ?_
  refine x_take (d := 24) rfl rfl es ?_
  refine x_val (r_move (en rfl (en rfl (en rfl (en rfl s1))))) (nd_of rfl) rfl ?_
  refine x_take (d := 24) rfl rfl (en rfl es) ?_
  refine x_val (r_len Try.underlying22 es) (nd_of rfl) rfl ?_
  refine x_take (d := 24) rfl rfl (en rfl (en rfl es)) ?_
  refine x_val (r_gtr es ec (decide_eq_false (by omega))) (nd_of rfl) rfl ?_
  refine x_val (r_pick_f (en rfl (en rfl (en rfl es))) es) (nd_of rfl) rfl ?_
  refine x_val (r_move es) (nd_of rfl) rfl ?_
  refine x_take (d := 29) rfl rfl es ?_
  refine x_val (r_move (en rfl (en rfl (en rfl (en rfl (en rfl (en rfl (en rfl (en rfl (en rfl s2)))))))))) (nd_of rfl) rfl ?_
  refine x_take (d := 29) rfl rfl (en rfl es) ?_
  refine x_val (r_len Try.underlying22 es) (nd_of rfl) rfl ?_
  refine x_take (d := 29) rfl rfl (en rfl (en rfl es)) ?_
  refine x_val (r_gtr es ec (decide_eq_false (by omega))) (nd_of rfl) rfl ?_
  refine x_val (r_pick_f (en rfl (en rfl (en rfl es))) es) (nd_of rfl) rfl ?_
  refine xw_nil ?_
  refine hK3 _ _ ?_
  refine xc_gen (fun g hg => ?_)
  have s0 := (hg 0).trans (en rfl (en rfl (en rfl (en rfl (en rfl (en rfl (en rfl (en rfl (en rfl (en rfl (en rfl (en rfl (en rfl s0)))))))))))))
  have s1 := (hg 1).trans (en rfl (en rfl (en rfl (en rfl (en rfl (en rfl (en rfl (en rfl (en rfl (en rfl (en rfl (en rfl (en rfl s1)))))))))))))
  have s2 := (hg 2).trans (en rfl (en rfl (en rfl (en rfl (en rfl (en rfl (en rfl (en rfl (en rfl (en rfl (en rfl (en rfl (en rfl s2)))))))))))))
  have s6 := (hg 6).trans (en rfl (en rfl (en rfl (en rfl (en rfl (en rfl (en rfl (en rfl (en rfl (en rfl (en rfl (en rfl (en rfl s6)))))))))))))
  have s33 := (hg 33).trans es
  clear hg
  refine xc_cond s33 (fun hc => by cases hc) (fun _ => ?_)
  refine xc_skip ?_
  refine hK2 _ _ ?_
  refine xc_seq (fun K hK4 => ?_)
  refine xc_region ?_
  refine x_val (r_move s0) (nd_of rfl) rfl ?_
  refine x_enter (r_call Try.call10 (.cons es .nil)) (nd_of rfl) rfl (of_ok hv ho h) ?_
  rintro _ w ⟨rfl, h⟩
  refine x_val (r_move es) (nd_of rfl) rfl ?_
  refine x_val (r_extract es gc0) (nd_of rfl) rfl ?_
  refine x_val (r_extract (en rfl es) gc1) (nd_of rfl) rfl ?_
  refine x_declA h Try.zeroValue26 Try.sizeOf26 rfl (en rfl (en rfl es)) (by first | assumption | exact Ok.node (by assumption) | exact ChOk.ok (by assumption)) rfl ?_
  intro b7 w h
  refine x_val (r_assign (en rfl es)) (nd_of rfl) rfl ?_
  refine xw_nil ?_
  refine hK4 _ _ ?_
  refine xc_gen (fun g hg => ?_)
  have s0 := (hg 0).trans (en rfl (en rfl (en rfl (en rfl (en rfl (en rfl (en rfl s0)))))))
  have s1 := (hg 1).trans (en rfl (en rfl (en rfl (en rfl (en rfl (en rfl (en rfl s1)))))))
  have s2 := (hg 2).trans (en rfl (en rfl (en rfl (en rfl (en rfl (en rfl (en rfl s2)))))))
  have s6 := (hg 6).trans (en rfl (en rfl (en rfl (en rfl (en rfl (en rfl (en rfl s6)))))))
  have s7 := (hg 7).trans (en rfl es)
  have s8 := (hg 8).trans es
  have s33 := (hg 33).trans (en rfl (en rfl (en rfl (en rfl (en rfl (en rfl (en rfl s33)))))))
  clear hg
  refine xc_seq (fun K hK5 => ?_)
  refine xc_region ?_
  refine x_val (r_move s1) (nd_of rfl) rfl ?_
  refine x_enter (r_call Try.call10 (.cons es .nil)) (nd_of rfl) rfl (of_ok hu.up hp h) ?_
  rintro _ w ⟨rfl, h⟩
  refine x_val (r_move es) (nd_of rfl) rfl ?_
  refine x_val (r_extract es gc0) (nd_of rfl) rfl ?_
  refine x_val (r_extract (en rfl es) gc1) (nd_of rfl) rfl ?_
  refine x_declA h Try.zeroValue26 Try.sizeOf26 rfl (en rfl (en rfl es)) (by first | assumption | exact Ok.node (by assumption) | exact ChOk.ok (by assumption)) rfl ?_
  intro b9 w h
  refine x_val (r_assign (en rfl es)) (nd_of rfl) rfl ?_
  refine xw_nil ?_
  refine hK5 _ _ ?_
  refine xc_gen (fun g hg => ?_)
  have s0 := (hg 0).trans (en rfl (en rfl (en rfl (en rfl (en rfl (en rfl (en rfl s0)))))))
  have s1 := (hg 1).trans (en rfl (en rfl (en rfl (en rfl (en rfl (en rfl (en rfl s1)))))))
  have s2 := (hg 2).trans (en rfl (en rfl (en rfl (en rfl (en rfl (en rfl (en rfl s2)))))))
  have s6 := (hg 6).trans (en rfl (en rfl (en rfl (en rfl (en rfl (en rfl (en rfl s6)))))))
  have s7 := (hg 7).trans (en rfl (en rfl (en rfl (en rfl (en rfl (en rfl (en rfl s7)))))))
  have s8 := (hg 8).trans (en rfl (en rfl (en rfl (en rfl (en rfl (en rfl (en rfl s8)))))))
  have s9 := (hg 9).trans (en rfl es)
  have s10 := (hg 10).trans es
  have s33 := (hg 33).trans (en rfl (en rfl (en rfl (en rfl (en rfl (en rfl (en rfl s33)))))))
  clear hg
  refine xc_seq (fun K hK6 => ?_)
  refine xc_region ?_
  refine x_val (r_move s2) (nd_of rfl) rfl ?_
  refine x_enter (r_call Try.call10 (.cons es .nil)) (nd_of rfl) rfl (of_ok ht.up.up hq h) ?_
  rintro _ w ⟨rfl, h⟩
  refine x_val (r_move es) (nd_of rfl) rfl ?_
  refine x_val (r_extract es gc0) (nd_of rfl) rfl ?_
  refine x_val (r_extract (en rfl es) gc1) (nd_of rfl) rfl ?_
  refine x_declA h Try.zeroValue26 Try.sizeOf26 rfl (en rfl (en rfl es)) (by first | assumption | exact Ok.node (by assumption) | exact ChOk.ok (by assumption)) rfl ?_
  intro b11 w h
  refine x_val (r_assign (en rfl es)) (nd_of rfl) rfl ?_
  refine xw_nil ?_
  refine hK6 _ _ ?_
  refine xc_gen (fun g hg => ?_)
  have s0 := (hg 0).trans (en rfl (en rfl (en rfl (en rfl (en rfl (en rfl (en rfl s0)))))))
  have s1 := (hg 1).trans (en rfl (en rfl (en rfl (en rfl (en rfl (en rfl (en rfl s1)))))))
  have s2 := (hg 2).trans (en rfl (en rfl (en rfl (en rfl (en rfl (en rfl (en rfl s2)))))))
  have s6 := (hg 6).trans (en rfl (en rfl (en rfl (en rfl (en rfl (en rfl (en rfl s6)))))))
  have s7 := (hg 7).trans (en rfl (en rfl (en rfl (en rfl (en rfl (en rfl (en rfl s7)))))))
  have s8 := (hg 8).trans (en rfl (en rfl (en rfl (en rfl (en rfl (en rfl (en rfl s8)))))))
  have s9 := (hg 9).trans (en rfl (en rfl (en rfl (en rfl (en rfl (en rfl (en rfl s9)))))))
  have s10 := (hg 10).trans (en rfl (en rfl (en rfl (en rfl (en rfl (en rfl (en rfl s10)))))))
  have s11 := (hg 11).trans (en rfl es)
  have s12 := (hg 12).trans es
  have s33 := (hg 33).trans (en rfl (en rfl (en rfl (en rfl (en rfl (en rfl (en rfl s33)))))))
  clear hg
  refine xc_seq (fun K hK7 => ?_)
  refine xc_seq (fun K hK8 => ?_)
  refine xc_region ?_
  refine x_val (r_move s8) (nd_of rfl) rfl ?_
  refine x_val (r_neq es ec (r := false) rfl) (nd_of rfl) rfl ?_
  refine x_val (r_move es) (nd_of rfl) rfl ?_
  refine x_take (d := 52) rfl rfl es ?_
  refine x_val (r_move (en rfl (en rfl (en rfl s10)))) (nd_of rfl) rfl ?_
  refine x_take (d := 52) rfl rfl (en rfl es) ?_
  refine x_val (r_neq es ec (r := false) rfl) (nd_of rfl) rfl ?_
  refine x_val (r_pick_f (en rfl (en rfl es)) es) (nd_of rfl) rfl ?_
  refine x_val (r_move es) (nd_of rfl) rfl ?_
  refine x_take (d := 56) rfl rfl es ?_
  refine x_val (r_move (en rfl (en rfl (en rfl (en rfl (en rfl (en rfl (en rfl s12)))))))) (nd_of rfl) rfl ?_
  refine x_take (d := 56) rfl rfl (en rfl es) ?_
  refine x_val (r_neq es ec (r := false) rfl) (nd_of rfl) rfl ?_
  refine x_val (r_pick_f (en rfl (en rfl es)) es) (nd_of rfl) rfl ?_
  refine x_val (r_move es) (nd_of rfl) rfl ?_
  refine x_take (d := 60) rfl rfl es ?_
  refine x_val (r_move (en rfl (en rfl (en rfl (en rfl (en rfl (en rfl (en rfl (en rfl (en rfl (en rfl (en rfl s0)))))))))))) (nd_of rfl) rfl ?_
  refine x_take (d := 60) rfl rfl (en rfl es) ?_
  refine x_val (r_len Try.underlying22 es) (nd_of rfl) rfl ?_
  refine x_take (d := 60) rfl rfl (en rfl (en rfl es)) ?_
  refine x_val (r_move (en rfl (en rfl (en rfl (en rfl (en rfl (en rfl (en rfl (en rfl (en rfl (en rfl (en rfl (en rfl (en rfl s1)))))))))))))) (nd_of rfl) rfl ?_
  refine x_take (d := 60) rfl rfl (en rfl (en rfl (en rfl es))) ?_
  refine x_val (r_len Try.underlying22 es) (nd_of rfl) rfl ?_
  refine x_take (d := 60) rfl rfl (en rfl (en rfl (en rfl (en rfl es)))) ?_
  refine x_val (r_add (en rfl (en rfl es)) es rfl (by unfold I64; omega)) (nd_of rfl) rfl ?_
  refine x_take (d := 60) rfl rfl (en rfl (en rfl (en rfl (en rfl (en rfl es))))) ?_
  refine x_val (r_move (en rfl (en rfl (en rfl (en rfl (en rfl (en rfl (en rfl (en rfl (en rfl (en rfl (en rfl (en rfl (en rfl (en rfl (en rfl (en rfl s2))))))))))))))))) (nd_of rfl) rfl ?_
  refine x_take (d := 60) rfl rfl (en rfl (en rfl (en rfl (en rfl (en rfl (en rfl es)))))) ?_
  refine x_val (r_len Try.underlying22 es) (nd_of rfl) rfl ?_
  refine x_take (d := 60) rfl rfl (en rfl (en rfl (en rfl (en rfl (en rfl (en rfl (en rfl es))))))) ?_
  refine x_val (r_add (en rfl (en rfl es)) es rfl (by unfold I64; omega)) (nd_of rfl) rfl ?_
  refine x_take (d := 60) rfl rfl (en rfl (en rfl (en rfl (en rfl (en rfl (en rfl (en rfl (en rfl es)))))))) ?_
  refine x_val (r_gtr es ec (decide_eq_false (by omega))) (nd_of rfl) rfl ?_
  refine x_val (r_pick_f (en rfl (en rfl (en rfl (en rfl (en rfl (en rfl (en rfl (en rfl (en rfl es))))))))) es) (nd_of rfl) rfl ?_
  refine xw_nil ?_
  refine hK8 _ _ ?_
  refine xc_gen (fun g hg => ?_)
  have s0 := (hg 0).trans (en rfl (en rfl (en rfl (en rfl (en rfl (en rfl (en rfl (en rfl (en rfl (en rfl (en rfl (en rfl (en rfl (en rfl (en rfl (en rfl (en rfl (en rfl (en rfl (en rfl (en rfl s0)))))))))))))))))))))
  have s1 := (hg 1).trans (en rfl (en rfl (en rfl (en rfl (en rfl (en rfl (en rfl (en rfl (en rfl (en rfl (en rfl (en rfl (en rfl (en rfl (en rfl (en rfl (en rfl (en rfl (en rfl (en rfl (en rfl s1)))))))))))))))))))))
  have s2 := (hg 2).trans (en rfl (en rfl (en rfl (en rfl (en rfl (en rfl (en rfl (en rfl (en rfl (en rfl (en rfl (en rfl (en rfl (en rfl (en rfl (en rfl (en rfl (en rfl (en rfl (en rfl (en rfl s2)))))))))))))))))))))
  have s6 := (hg 6).trans (en rfl (en rfl (en rfl (en rfl (en rfl (en rfl (en rfl (en rfl (en rfl (en rfl (en rfl (en rfl (en rfl (en rfl (en rfl (en rfl (en rfl (en rfl (en rfl (en rfl (en rfl s6)))))))))))))))))))))
  have s7 := (hg 7).trans (en rfl (en rfl (en rfl (en rfl (en rfl (en rfl (en rfl (en rfl (en rfl (en rfl (en rfl (en rfl (en rfl (en rfl (en rfl (en rfl (en rfl (en rfl (en rfl (en rfl (en rfl s7)))))))))))))))))))))
  have s8 := (hg 8).trans (en rfl (en rfl (en rfl (en rfl (en rfl (en rfl (en rfl (en rfl (en rfl (en rfl (en rfl (en rfl (en rfl (en rfl (en rfl (en rfl (en rfl (en rfl (en rfl (en rfl (en rfl s8)))))))))))))))))))))
  have s9 := (hg 9).trans (en rfl (en rfl (en rfl (en rfl (en rfl (en rfl (en rfl (en rfl (en rfl (en rfl (en rfl (en rfl (en rfl (en rfl (en rfl (en rfl (en rfl (en rfl (en rfl (en rfl (en rfl s9)))))))))))))))))))))
  have s10 := (hg 10).trans (en rfl (en rfl (en rfl (en rfl (en rfl (en rfl (en rfl (en rfl (en rfl (en rfl (en rfl (en rfl (en rfl (en rfl (en rfl (en rfl (en rfl (en rfl (en rfl (en rfl (en rfl s10)))))))))))))))))))))
  have s11 := (hg 11).trans (en rfl (en rfl (en rfl (en rfl (en rfl (en rfl (en rfl (en rfl (en rfl (en rfl (en rfl (en rfl (en rfl (en rfl (en rfl (en rfl (en rfl (en rfl (en rfl (en rfl (en rfl s11)))))))))))))))))))))
  have s12 := (hg 12).trans (en rfl (en rfl (en rfl (en rfl (en rfl (en rfl (en rfl (en rfl (en rfl (en rfl (en rfl (en rfl (en rfl (en rfl (en rfl (en rfl (en rfl (en rfl (en rfl (en rfl (en rfl s12)))))))))))))))))))))
  have s33 := (hg 33).trans (en rfl (en rfl (en rfl (en rfl (en rfl (en rfl (en rfl (en rfl (en rfl (en rfl (en rfl (en rfl (en rfl (en rfl (en rfl (en rfl (en rfl (en rfl (en rfl (en rfl (en rfl s33)))))))))))))))))))))
  have s70 := (hg 70).trans es
  clear hg
  refine xc_cond s70 (fun hc => by cases hc) (fun _ => ?_)
  refine xc_skip ?_
  refine hK7 _ _ ?_
  refine xc_seq (fun K hK9 => ?_)
  refine xc_region ?_
  refine x_val (r_loadAgg h 2 rfl Try.isAgg26 Try.sizeOf26 s7 (Ok.le (by first | assumption | exact Ok.node (by assumption) | exact ChOk.ok (by assumption))) (ext_full (Ok.size (by first | assumption | exact Ok.node (by assumption) | exact ChOk.ok (by assumption))))) (nd_of rfl) rfl ?_
  refine x_val (r_loadAgg h 1 rfl Try.isAgg26 Try.sizeOf26 (en rfl s9) (Ok.le (by first | assumption | exact Ok.node (by assumption) | exact ChOk.ok (by assumption))) (ext_full (Ok.size (by first | assumption | exact Ok.node (by assumption) | exact ChOk.ok (by assumption))))) (nd_of rfl) rfl ?_
  refine x_enter (r_call Try.call20 (.cons (en rfl es) (.cons es .nil))) (nd_of rfl) rfl (join_ok ho hp (by omega) h) ?_
  rintro _ w ⟨rfl, h⟩
  refine x_val (r_move es) (nd_of rfl) rfl ?_
  refine x_val (r_extract es gc0) (nd_of rfl) rfl ?_
  refine x_val (r_extract (en rfl es) gc1) (nd_of rfl) rfl ?_
  refine x_declA h Try.zeroValue26 Try.sizeOf26 rfl (en rfl (en rfl es)) (by first | assumption | exact Ok.node (by assumption) | exact ChOk.ok (by assumption)) rfl ?_
  intro b13 w h
  refine x_val (r_assign (en rfl es)) (nd_of rfl) rfl ?_
  refine xw_nil ?_
  refine hK9 _ _ ?_
  refine xc_gen (fun g hg => ?_)
  have s0 := (hg 0).trans (en rfl (en rfl (en rfl (en rfl (en rfl (en rfl (en rfl (en rfl s0))))))))
  have s1 := (hg 1).trans (en rfl (en rfl (en rfl (en rfl (en rfl (en rfl (en rfl (en rfl s1))))))))
  have s2 := (hg 2).trans (en rfl (en rfl (en rfl (en rfl (en rfl (en rfl (en rfl (en rfl s2))))))))
  have s6 := (hg 6).trans (en rfl (en rfl (en rfl (en rfl (en rfl (en rfl (en rfl (en rfl s6))))))))
  have s7 := (hg 7).trans (en rfl (en rfl (en rfl (en rfl (en rfl (en rfl (en rfl (en rfl s7))))))))
  have s8 := (hg 8).trans (en rfl (en rfl (en rfl (en rfl (en rfl (en rfl (en rfl (en rfl s8))))))))
  have s9 := (hg 9).trans (en rfl (en rfl (en rfl (en rfl (en rfl (en rfl (en rfl (en rfl s9))))))))
  have s10 := (hg 10).trans (en rfl (en rfl (en rfl (en rfl (en rfl (en rfl (en rfl (en rfl s10))))))))
  have s11 := (hg 11).trans (en rfl (en rfl (en rfl (en rfl (en rfl (en rfl (en rfl (en rfl s11))))))))
  have s12 := (hg 12).trans (en rfl (en rfl (en rfl (en rfl (en rfl (en rfl (en rfl (en rfl s12))))))))
  have s13 := (hg 13).trans (en rfl es)
  have s14 := (hg 14).trans es
  have s33 := (hg 33).trans (en rfl (en rfl (en rfl (en rfl (en rfl (en rfl (en rfl (en rfl s33))))))))
  have s70 := (hg 70).trans (en rfl (en rfl (en rfl (en rfl (en rfl (en rfl (en rfl (en rfl s70))))))))
  clear hg
  refine xc_seq (fun K hK10 => ?_)
  refine xc_region ?_
  refine x_val (r_loadAgg h 2 rfl Try.isAgg26 Try.sizeOf26 s9 (Ok.le (by first | assumption | exact Ok.node (by assumption) | exact ChOk.ok (by assumption))) (ext_full (Ok.size (by first | assumption | exact Ok.node (by assumption) | exact ChOk.ok (by assumption))))) (nd_of rfl) rfl ?_
  refine x_val (r_loadAgg h 1 rfl Try.isAgg26 Try.sizeOf26 (en rfl s11) (Ok.le (by first | assumption | exact Ok.node (by assumption) | exact ChOk.ok (by assumption))) (ext_full (Ok.size (by first | assumption | exact Ok.node (by assumption) | exact ChOk.ok (by assumption))))) (nd_of rfl) rfl ?_
  refine x_enter (r_call Try.call20 (.cons (en rfl es) (.cons es .nil))) (nd_of rfl) rfl (join_ok hp hq (by omega) h) ?_
  rintro _ w ⟨rfl, h⟩
  refine x_val (r_move es) (nd_of rfl) rfl ?_
  refine x_val (r_extract es gc0) (nd_of rfl) rfl ?_
  refine x_val (r_extract (en rfl es) gc1) (nd_of rfl) rfl ?_
  refine x_declA h Try.zeroValue26 Try.sizeOf26 rfl (en rfl (en rfl es)) (by first | assumption | exact Ok.node (by assumption) | exact ChOk.ok (by assumption)) rfl ?_
  intro b15 w h
  refine x_val (r_assign (en rfl es)) (nd_of rfl) rfl ?_
  refine xw_nil ?_
  refine hK10 _ _ ?_
  refine xc_gen (fun g hg => ?_)
  have s0 := (hg 0).trans (en rfl (en rfl (en rfl (en rfl (en rfl (en rfl (en rfl (en rfl s0))))))))
  have s1 := (hg 1).trans (en rfl (en rfl (en rfl (en rfl (en rfl (en rfl (en rfl (en rfl s1))))))))
  have s2 := (hg 2).trans (en rfl (en rfl (en rfl (en rfl (en rfl (en rfl (en rfl (en rfl s2))))))))
  have s6 := (hg 6).trans (en rfl (en rfl (en rfl (en rfl (en rfl (en rfl (en rfl (en rfl s6))))))))
  have s7 := (hg 7).trans (en rfl (en rfl (en rfl (en rfl (en rfl (en rfl (en rfl (en rfl s7))))))))
  have s8 := (hg 8).trans (en rfl (en rfl (en rfl (en rfl (en rfl (en rfl (en rfl (en rfl s8))))))))
  have s9 := (hg 9).trans (en rfl (en rfl (en rfl (en rfl (en rfl (en rfl (en rfl (en rfl s9))))))))
  have s10 := (hg 10).trans (en rfl (en rfl (en rfl (en rfl (en rfl (en rfl (en rfl (en rfl s10))))))))
  have s11 := (hg 11).trans (en rfl (en rfl (en rfl (en rfl (en rfl (en rfl (en rfl (en rfl s11))))))))
  have s12 := (hg 12).trans (en rfl (en rfl (en rfl (en rfl (en rfl (en rfl (en rfl (en rfl s12))))))))
  have s13 := (hg 13).trans (en rfl (en rfl (en rfl (en rfl (en rfl (en rfl (en rfl (en rfl s13))))))))
  have s14 := (hg 14).trans (en rfl (en rfl (en rfl (en rfl (en rfl (en rfl (en rfl (en rfl s14))))))))
  have s15 := (hg 15).trans (en rfl es)
  have s16 := (hg 16).trans es
  have s33 := (hg 33).trans (en rfl (en rfl (en rfl (en rfl (en rfl (en rfl (en rfl (en rfl s33))))))))
  have s70 := (hg 70).trans (en rfl (en rfl (en rfl (en rfl (en rfl (en rfl (en rfl (en rfl s70))))))))
  clear hg
  refine xc_seq (fun K hK11 => ?_)
  refine xc_region ?_
  refine x_val (r_loadAgg h 1 rfl Try.isAgg26 Try.sizeOf26 s13 (Ok.le (by first | assumption | exact Ok.node (by assumption) | exact ChOk.ok (by assumption))) (ext_full (Ok.size (by first | assumption | exact Ok.node (by assumption) | exact ChOk.ok (by assumption))))) (nd_of rfl) rfl ?_
  refine x_val (r_loadAgg h 2 rfl Try.isAgg26 Try.sizeOf26 (en rfl s11) (Ok.le (by first | assumption | exact Ok.node (by assumption) | exact ChOk.ok (by assumption))) (ext_full (Ok.size (by first | assumption | exact Ok.node (by assumption) | exact ChOk.ok (by assumption))))) (nd_of rfl) rfl ?_
  refine x_enter (r_call Try.call20 (.cons (en rfl es) (.cons es .nil))) (nd_of rfl) rfl (join_ok hzy hq (by rw [List.length_append]; omega) h) ?_
  rintro _ w ⟨rfl, h⟩
  refine x_val (r_move es) (nd_of rfl) rfl ?_
  refine x_val (r_extract es gc0) (nd_of rfl) rfl ?_
  refine x_val (r_extract (en rfl es) gc1) (nd_of rfl) rfl ?_
  refine x_declA h Try.zeroValue26 Try.sizeOf26 rfl (en rfl (en rfl es)) (by first | assumption | exact Ok.node (by assumption) | exact ChOk.ok (by assumption)) rfl ?_
  intro b17 w h
  refine x_val (r_assign (en rfl es)) (nd_of rfl) rfl ?_
  refine xw_nil ?_
  refine hK11 _ _ ?_
  refine xc_gen (fun g hg => ?_)
  have s0 := (hg 0).trans (en rfl (en rfl (en rfl (en rfl (en rfl (en rfl (en rfl (en rfl s0))))))))
  have s1 := (hg 1).trans (en rfl (en rfl (en rfl (en rfl (en rfl (en rfl (en rfl (en rfl s1))))))))
  have s2 := (hg 2).trans (en rfl (en rfl (en rfl (en rfl (en rfl (en rfl (en rfl (en rfl s2))))))))
  have s6 := (hg 6).trans (en rfl (en rfl (en rfl (en rfl (en rfl (en rfl (en rfl (en rfl s6))))))))
  have s7 := (hg 7).trans (en rfl (en rfl (en rfl (en rfl (en rfl (en rfl (en rfl (en rfl s7))))))))
  have s8 := (hg 8).trans (en rfl (en rfl (en rfl (en rfl (en rfl (en rfl (en rfl (en rfl s8))))))))
  have s9 := (hg 9).trans (en rfl (en rfl (en rfl (en rfl (en rfl (en rfl (en rfl (en rfl s9))))))))
  have s10 := (hg 10).trans (en rfl (en rfl (en rfl (en rfl (en rfl (en rfl (en rfl (en rfl s10))))))))
  have s11 := (hg 11).trans (en rfl (en rfl (en rfl (en rfl (en rfl (en rfl (en rfl (en rfl s11))))))))
  have s12 := (hg 12).trans (en rfl (en rfl (en rfl (en rfl (en rfl (en rfl (en rfl (en rfl s12))))))))
  have s13 := (hg 13).trans (en rfl (en rfl (en rfl (en rfl (en rfl (en rfl (en rfl (en rfl s13))))))))
  have s14 := (hg 14).trans (en rfl (en rfl (en rfl (en rfl (en rfl (en rfl (en rfl (en rfl s14))))))))
  have s15 := (hg 15).trans (en rfl (en rfl (en rfl (en rfl (en rfl (en rfl (en rfl (en rfl s15))))))))
  have s16 := (hg 16).trans (en rfl (en rfl (en rfl (en rfl (en rfl (en rfl (en rfl (en rfl s16))))))))
  have s17 := (hg 17).trans (en rfl es)
  have s18 := (hg 18).trans es
  have s33 := (hg 33).trans (en rfl (en rfl (en rfl (en rfl (en rfl (en rfl (en rfl (en rfl s33))))))))
  have s70 := (hg 70).trans (en rfl (en rfl (en rfl (en rfl (en rfl (en rfl (en rfl (en rfl s70))))))))
  clear hg
  refine xc_seq (fun K hK12 => ?_)
  refine xc_region ?_
  refine x_val (r_loadAgg h 5 rfl Try.isAgg26 Try.sizeOf26 s7 (Ok.le (by first | assumption | exact Ok.node (by assumption) | exact ChOk.ok (by assumption))) (ext_full (Ok.size (by first | assumption | exact Ok.node (by assumption) | exact ChOk.ok (by assumption))))) (nd_of rfl) rfl ?_
  refine x_val (r_loadAgg h 1 rfl Try.isAgg26 Try.sizeOf26 (en rfl s15) (Ok.le (by first | assumption | exact Ok.node (by assumption) | exact ChOk.ok (by assumption))) (ext_full (Ok.size (by first | assumption | exact Ok.node (by assumption) | exact ChOk.ok (by assumption))))) (nd_of rfl) rfl ?_
  refine x_enter (r_call Try.call20 (.cons (en rfl es) (.cons es .nil))) (nd_of rfl) rfl (join_ok ho hyx (by rw [List.length_append]; omega) h) ?_
  rintro _ w ⟨rfl, h⟩
  refine x_val (r_move es) (nd_of rfl) rfl ?_
  refine x_val (r_extract es gc0) (nd_of rfl) rfl ?_
  refine x_val (r_extract (en rfl es) gc1) (nd_of rfl) rfl ?_
  refine x_declA h Try.zeroValue26 Try.sizeOf26 rfl (en rfl (en rfl es)) (by first | assumption | exact Ok.node (by assumption) | exact ChOk.ok (by assumption)) rfl ?_
  intro b19 w h
  refine x_val (r_assign (en rfl es)) (nd_of rfl) rfl ?_
  refine xw_nil ?_
  refine hK12 _ _ ?_
  refine xc_gen (fun g hg => ?_)
  have s0 := (hg 0).trans (en rfl (en rfl (en rfl (en rfl (en rfl (en rfl (en rfl (en rfl s0))))))))
  have s1 := (hg 1).trans (en rfl (en rfl (en rfl (en rfl (en rfl (en rfl (en rfl (en rfl s1))))))))
  have s2 := (hg 2).trans (en rfl (en rfl (en rfl (en rfl (en rfl (en rfl (en rfl (en rfl s2))))))))
  have s6 := (hg 6).trans (en rfl (en rfl (en rfl (en rfl (en rfl (en rfl (en rfl (en rfl s6))))))))
  have s7 := (hg 7).trans (en rfl (en rfl (en rfl (en rfl (en rfl (en rfl (en rfl (en rfl s7))))))))
  have s8 := (hg 8).trans (en rfl (en rfl (en rfl (en rfl (en rfl (en rfl (en rfl (en rfl s8))))))))
  have s9 := (hg 9).trans (en rfl (en rfl (en rfl (en rfl (en rfl (en rfl (en rfl (en rfl s9))))))))
  have s10 := (hg 10).trans (en rfl (en rfl (en rfl (en rfl (en rfl (en rfl (en rfl (en rfl s10))))))))
  have s11 := (hg 11).trans (en rfl (en rfl (en rfl (en rfl (en rfl (en rfl (en rfl (en rfl s11))))))))
  have s12 := (hg 12).trans (en rfl (en rfl (en rfl (en rfl (en rfl (en rfl (en rfl (en rfl s12))))))))
  have s13 := (hg 13).trans (en rfl (en rfl (en rfl (en rfl (en rfl (en rfl (en rfl (en rfl s13))))))))
  have s14 := (hg 14).trans (en rfl (en rfl (en rfl (en rfl (en rfl (en rfl (en rfl (en rfl s14))))))))
  have s15 := (hg 15).trans (en rfl (en rfl (en rfl (en rfl (en rfl (en rfl (en rfl (en rfl s15))))))))
  have s16 := (hg 16).trans (en rfl (en rfl (en rfl (en rfl (en rfl (en rfl (en rfl (en rfl s16))))))))
  have s17 := (hg 17).trans (en rfl (en rfl (en rfl (en rfl (en rfl (en rfl (en rfl (en rfl s17))))))))
  have s18 := (hg 18).trans (en rfl (en rfl (en rfl (en rfl (en rfl (en rfl (en rfl (en rfl s18))))))))
  have s19 := (hg 19).trans (en rfl es)
  have s20 := (hg 20).trans es
  have s33 := (hg 33).trans (en rfl (en rfl (en rfl (en rfl (en rfl (en rfl (en rfl (en rfl s33))))))))
  have s70 := (hg 70).trans (en rfl (en rfl (en rfl (en rfl (en rfl (en rfl (en rfl (en rfl s70))))))))
  clear hg
  refine xc_seq (fun K hK13 => ?_)
  refine xc_plan 36 [(0, 2), (1, 2), (2, 2), (3, 2), (4, 2), (5, 2), (6, 2), (7, 2), (8, 2), (9, 2), (10, 2), (11, 2), (12, 2), (13, 2), (14, 2), (15, 1), (16, 1), (17, 2), (18, 2), (19, 2), (20, 1), (22, 1), (24, 1), (27, 1), (21, 0), (23, 0), (25, 0), (26, 2), (28, 0), (29, 2), (30, 2), (31, 2), (32, 2), (33, 0), (34, 2), (35, 2)] (by kernel_rfl) rfl (by kernel_rfl) h ?_
  have h := h.drew
  refine xp_read (i := 0) rfl (fun W => r_move s14) rfl (fun _ _ _ hh => by first | exact bodyR_np hh | exact hh) ?_
  refine xp_read (i := 1) rfl (fun W => r_eql es ec (r := true) rfl) rfl (fun _ _ _ hh => by first | exact bodyR_np hh | exact hh) ?_
  refine xp_read (i := 2) rfl (fun W => r_move es) rfl (fun _ _ _ hh => by first | exact bodyR_np hh | exact hh) ?_
  refine xp_readG (i := 3) (d := 98) rfl rfl rfl es (fun W => r_move (en rfl (en rfl (en rfl s16)))) rfl (fun _ _ _ hh => by first | exact bodyR_np hh | exact hh) ?_
  refine xp_readG (i := 4) (d := 98) rfl rfl rfl (en rfl es) (fun W => r_eql es ec (r := true) rfl) rfl (fun _ _ _ hh => by first | exact bodyR_np hh | exact hh) ?_
  refine xp_read (i := 5) rfl (fun W => r_pick_t (en rfl (en rfl es)) es) rfl (fun _ _ _ hh => by first | exact bodyR_np hh | exact hh) ?_
  refine xp_read (i := 6) rfl (fun W => r_move es) rfl (fun _ _ _ hh => by first | exact bodyR_np hh | exact hh) ?_
  refine xp_readG (i := 7) (d := 102) rfl rfl rfl es (fun W => r_move (en rfl (en rfl (en rfl (en rfl (en rfl (en rfl (en rfl s18)))))))) rfl (fun _ _ _ hh => by first | exact bodyR_np hh | exact hh) ?_
  refine xp_readG (i := 8) (d := 102) rfl rfl rfl (en rfl es) (fun W => r_eql es ec (r := true) rfl) rfl (fun _ _ _ hh => by first | exact bodyR_np hh | exact hh) ?_
  refine xp_read (i := 9) rfl (fun W => r_pick_t (en rfl (en rfl es)) es) rfl (fun _ _ _ hh => by first | exact bodyR_np hh | exact hh) ?_
  refine xp_read (i := 10) rfl (fun W => r_move es) rfl (fun _ _ _ hh => by first | exact bodyR_np hh | exact hh) ?_
  refine xp_readG (i := 11) (d := 106) rfl rfl rfl es (fun W => r_move (en rfl (en rfl (en rfl (en rfl (en rfl (en rfl (en rfl (en rfl (en rfl (en rfl (en rfl s20)))))))))))) rfl (fun _ _ _ hh => by first | exact bodyR_np hh | exact hh) ?_
  refine xp_readG (i := 12) (d := 106) rfl rfl rfl (en rfl es) (fun W => r_eql es ec (r := true) rfl) rfl (fun _ _ _ hh => by first | exact bodyR_np hh | exact hh) ?_
  refine xp_read (i := 13) rfl (fun W => r_pick_t (en rfl (en rfl es)) es) rfl (fun _ _ _ hh => by first | exact bodyR_np hh | exact hh) ?_
  refine xp_read (i := 14) rfl (fun W => r_move es) rfl (fun _ _ _ hh => by first | exact bodyR_np hh | exact hh) ?_
  refine xp_loadG (i := 15) (d := 110) rfl rfl rfl es (fun W hW => r_loadAgg hW 1 rfl Try.isAgg26 Try.sizeOf26 (en rfl (en rfl (en rfl (en rfl (en rfl (en rfl (en rfl (en rfl (en rfl (en rfl (en rfl (en rfl (en rfl (en rfl (en rfl s17))))))))))))))) (Ok.le (by first | assumption | exact Ok.node (by assumption) | exact ChOk.ok (by assumption))) (ext_full (Ok.size (by first | assumption | exact Ok.node (by assumption) | exact ChOk.ok (by assumption))))) rfl (fun _ _ _ hh => by first | exact bodyR_np hh | exact hh) ?_
  refine xp_loadG (i := 16) (d := 110) rfl rfl rfl (en rfl es) (fun W hW => r_loadAgg hW 0 rfl Try.isAgg26 Try.sizeOf26 (en rfl (en rfl (en rfl (en rfl (en rfl (en rfl (en rfl (en rfl (en rfl (en rfl (en rfl (en rfl (en rfl (en rfl (en rfl (en rfl s19)))))))))))))))) (Ok.le (by first | assumption | exact Ok.node (by assumption) | exact ChOk.ok (by assumption))) (ext_full (Ok.size (by first | assumption | exact Ok.node (by assumption) | exact ChOk.ok (by assumption))))) rfl (fun _ _ _ hh => by first | exact bodyR_np hh | exact hh) ?_
  refine xp_readG (i := 17) (d := 110) rfl rfl rfl (en rfl (en rfl es)) (fun W => r_eqCh (r := true) h1 h2 (en rfl es) es Try.underlying26 Try.underlying24 Try.underlying21 Try.underlying3 (by kernel_rfl) (by kernel_rfl) (by kernel_rfl) (by kernel_rfl) rfl rfl (by decide) (by decide) (by kernel_rfl) (by kernel_rfl) (decide_eq_true (List.append_assoc zs ys xs))) rfl (fun _ _ _ hh => by first | exact bodyR_np hh | exact hh) ?_
  refine xp_read (i := 18) rfl (fun W => r_pick_t (en rfl (en rfl (en rfl es))) es) rfl (fun _ _ _ hh => by first | exact bodyR_np hh | exact hh) ?_
  refine xp_read (i := 19) rfl (fun W => r_move es) rfl (fun _ _ _ hh => by first | exact bodyR_np hh | exact hh) ?_
  refine xp_loadG (i := 20) (d := 115) rfl rfl rfl es (fun W hW => r_loadAgg hW 1 rfl Try.isAgg26 Try.sizeOf26 (en rfl (en rfl (en rfl (en rfl (en rfl (en rfl (en rfl (en rfl (en rfl (en rfl (en rfl (en rfl (en rfl (en rfl (en rfl (en rfl (en rfl (en rfl (en rfl (en rfl s17)))))))))))))))))))) (Ok.le (by first | assumption | exact Ok.node (by assumption) | exact ChOk.ok (by assumption))) (ext_full (Ok.size (by first | assumption | exact Ok.node (by assumption) | exact ChOk.ok (by assumption))))) rfl (fun _ _ _ hh => by first | exact bodyR_np hh | exact hh) ?_
  refine xp_loadG (i := 22) (d := 115) rfl rfl rfl (en rfl es) (fun W hW => r_loadAgg hW 6 rfl Try.isAgg26 Try.sizeOf26 (en rfl (en rfl (en rfl (en rfl (en rfl (en rfl (en rfl (en rfl (en rfl (en rfl (en rfl (en rfl (en rfl (en rfl (en rfl (en rfl (en rfl (en rfl (en rfl (en rfl (en rfl s7))))))))))))))))))))) (Ok.le (by first | assumption | exact Ok.node (by assumption) | exact ChOk.ok (by assumption))) (ext_full (Ok.size (by first | assumption | exact Ok.node (by assumption) | exact ChOk.ok (by assumption))))) rfl (fun _ _ _ hh => by first | exact bodyR_np hh | exact hh) ?_
  refine xp_loadG (i := 24) (d := 115) rfl rfl rfl (en rfl (en rfl es)) (fun W hW => r_loadAgg hW 5 rfl Try.isAgg26 Try.sizeOf26 (en rfl (en rfl (en rfl (en rfl (en rfl (en rfl (en rfl (en rfl (en rfl (en rfl (en rfl (en rfl (en rfl (en rfl (en rfl (en rfl (en rfl (en rfl (en rfl (en rfl (en rfl (en rfl s9)))))))))))))))))))))) (Ok.le (by first | assumption | exact Ok.node (by assumption) | exact ChOk.ok (by assumption))) (ext_full (Ok.size (by first | assumption | exact Ok.node (by assumption) | exact ChOk.ok (by assumption))))) rfl (fun _ _ _ hh => by first | exact bodyR_np hh | exact hh) ?_
  refine xp_loadG (i := 27) (d := 115) rfl rfl rfl (en rfl (en rfl (en rfl es))) (fun W hW => r_loadAgg hW 4 rfl Try.isAgg26 Try.sizeOf26 (en rfl (en rfl (en rfl (en rfl (en rfl (en rfl (en rfl (en rfl (en rfl (en rfl (en rfl (en rfl (en rfl (en rfl (en rfl (en rfl (en rfl (en rfl (en rfl (en rfl (en rfl (en rfl (en rfl s11))))))))))))))))))))))) (Ok.le (by first | assumption | exact Ok.node (by assumption) | exact ChOk.ok (by assumption))) (ext_full (Ok.size (by first | assumption | exact Ok.node (by assumption) | exact ChOk.ok (by assumption))))) rfl (fun _ _ _ hh => by first | exact bodyR_np hh | exact hh) ?_
  refine xp_enterG (i := 21) (e := 115) rfl rfl rfl (en rfl (en rfl (en rfl (en rfl es)))) (r_call Try.call14 (.cons (en rfl (en rfl (en rfl es))) .nil)) rfl (newlines_ok h1 h) ?_
  rintro _ w ⟨rfl, h⟩
  refine ⟨(fun _ => h), ?_⟩
  refine xp_enterG (i := 23) (e := 115) rfl rfl rfl (en rfl (en rfl (en rfl (en rfl (en rfl es))))) (r_call Try.call14 (.cons (en rfl (en rfl (en rfl es))) .nil)) rfl (newlines_ok ho h) ?_
  rintro _ w ⟨rfl, h⟩
  refine ⟨(fun _ => h), ?_⟩
  refine xp_enterG (i := 25) (e := 115) rfl rfl rfl (en rfl (en rfl (en rfl (en rfl (en rfl (en rfl es)))))) (r_call Try.call14 (.cons (en rfl (en rfl (en rfl es))) .nil)) rfl (newlines_ok hp h) ?_
  rintro _ w ⟨rfl, h⟩
  refine ⟨(fun _ => h), ?_⟩
  refine xp_readG (i := 26) (d := 115) rfl rfl rfl (en rfl (en rfl (en rfl (en rfl (en rfl (en rfl (en rfl es))))))) (fun W => r_add (en rfl es) es rfl (by unfold I64; omega)) rfl (fun _ _ _ hh => by first | exact bodyR_np hh | exact hh) ?_
  refine xp_enterG (i := 28) (e := 115) rfl rfl rfl (en rfl (en rfl (en rfl (en rfl (en rfl (en rfl (en rfl (en rfl es)))))))) (r_call Try.call14 (.cons (en rfl (en rfl (en rfl (en rfl es)))) .nil)) rfl (newlines_ok hq h) ?_
  rintro _ w ⟨rfl, h⟩
  refine ⟨(fun _ => h), ?_⟩
  refine xp_readG (i := 29) (d := 115) rfl rfl rfl (en rfl (en rfl (en rfl (en rfl (en rfl (en rfl (en rfl (en rfl (en rfl es))))))))) (fun W => r_add (en rfl es) es rfl (by unfold I64; omega)) rfl (fun _ _ _ hh => by first | exact bodyR_np hh | exact hh) ?_
  refine xp_readG (i := 30) (d := 115) rfl rfl rfl (en rfl (en rfl (en rfl (en rfl (en rfl (en rfl (en rfl (en rfl (en rfl (en rfl es)))))))))) (fun W => r_eql (en rfl (en rfl (en rfl (en rfl (en rfl es))))) es (decide_eq_true (by omega))) rfl (fun _ _ _ hh => by first | exact bodyR_np hh | exact hh) ?_
  refine xp_read (i := 31) rfl (fun W => r_pick_t (en rfl (en rfl (en rfl (en rfl (en rfl (en rfl (en rfl (en rfl (en rfl (en rfl (en rfl es))))))))))) es) rfl (fun _ _ _ hh => by first | exact bodyR_np hh | exact hh) ?_
  refine xp_read (i := 32) rfl (fun W => r_move es) rfl (fun _ _ _ hh => by first | exact bodyR_np hh | exact hh) ?_
  refine xp_enterG (i := 33) (e := 128) rfl rfl rfl es (r_call Try.call9 .nil) rfl (known_ok h) ?_
  rintro _ w ⟨rfl, h⟩
  refine ⟨(fun _ => h), ?_⟩
  refine xp_read (i := 34) rfl (fun W => r_pick_t (en rfl es) es) rfl (fun _ _ _ hh => by first | exact bodyR_np hh | exact hh) ?_
  refine xp_read (i := 35) rfl (fun W => r_assign es) rfl (fun _ _ _ hh => by first | exact bodyR_np hh | exact hh) ?_
  refine xp_nil ?_
  refine hK13 _ _ ?_
  refine xc_gen (fun g hg => ?_)
  have s0 := (hg 0).trans (en rfl (en rfl (en rfl (en rfl (en rfl (en rfl (en rfl (en rfl (en rfl (en rfl (en rfl (en rfl (en rfl (en rfl (en rfl (en rfl (en rfl (en rfl (en rfl (en rfl (en rfl (en rfl (en rfl (en rfl (en rfl (en rfl (en rfl (en rfl (en rfl (en rfl (en rfl (en rfl (en rfl (en rfl (en rfl (en rfl s0))))))))))))))))))))))))))))))))))))
  have s1 := (hg 1).trans (en rfl (en rfl (en rfl (en rfl (en rfl (en rfl (en rfl (en rfl (en rfl (en rfl (en rfl (en rfl (en rfl (en rfl (en rfl (en rfl (en rfl (en rfl (en rfl (en rfl (en rfl (en rfl (en rfl (en rfl (en rfl (en rfl (en rfl (en rfl (en rfl (en rfl (en rfl (en rfl (en rfl (en rfl (en rfl (en rfl s1))))))))))))))))))))))))))))))))))))
  have s2 := (hg 2).trans (en rfl (en rfl (en rfl (en rfl (en rfl (en rfl (en rfl (en rfl (en rfl (en rfl (en rfl (en rfl (en rfl (en rfl (en rfl (en rfl (en rfl (en rfl (en rfl (en rfl (en rfl (en rfl (en rfl (en rfl (en rfl (en rfl (en rfl (en rfl (en rfl (en rfl (en rfl (en rfl (en rfl (en rfl (en rfl (en rfl s2))))))))))))))))))))))))))))))))))))
  have s6 := (hg 6).trans es
  have s7 := (hg 7).trans (en rfl (en rfl (en rfl (en rfl (en rfl (en rfl (en rfl (en rfl (en rfl (en rfl (en rfl (en rfl (en rfl (en rfl (en rfl (en rfl (en rfl (en rfl (en rfl (en rfl (en rfl (en rfl (en rfl (en rfl (en rfl (en rfl (en rfl (en rfl (en rfl (en rfl (en rfl (en rfl (en rfl (en rfl (en rfl (en rfl s7))))))))))))))))))))))))))))))))))))
  have s8 := (hg 8).trans (en rfl (en rfl (en rfl (en rfl (en rfl (en rfl (en rfl (en rfl (en rfl (en rfl (en rfl (en rfl (en rfl (en rfl (en rfl (en rfl (en rfl (en rfl (en rfl (en rfl (en rfl (en rfl (en rfl (en rfl (en rfl (en rfl (en rfl (en rfl (en rfl (en rfl (en rfl (en rfl (en rfl (en rfl (en rfl (en rfl s8))))))))))))))))))))))))))))))))))))
  have s9 := (hg 9).trans (en rfl (en rfl (en rfl (en rfl (en rfl (en rfl (en rfl (en rfl (en rfl (en rfl (en rfl (en rfl (en rfl (en rfl (en rfl (en rfl (en rfl (en rfl (en rfl (en rfl (en rfl (en rfl (en rfl (en rfl (en rfl (en rfl (en rfl (en rfl (en rfl (en rfl (en rfl (en rfl (en rfl (en rfl (en rfl (en rfl s9))))))))))))))))))))))))))))))))))))
  have s10 := (hg 10).trans (en rfl (en rfl (en rfl (en rfl (en rfl (en rfl (en rfl (en rfl (en rfl (en rfl (en rfl (en rfl (en rfl (en rfl (en rfl (en rfl (en rfl (en rfl (en rfl (en rfl (en rfl (en rfl (en rfl (en rfl (en rfl (en rfl (en rfl (en rfl (en rfl (en rfl (en rfl (en rfl (en rfl (en rfl (en rfl (en rfl s10))))))))))))))))))))))))))))))))))))
  have s11 := (hg 11).trans (en rfl (en rfl (en rfl (en rfl (en rfl (en rfl (en rfl (en rfl (en rfl (en rfl (en rfl (en rfl (en rfl (en rfl (en rfl (en rfl (en rfl (en rfl (en rfl (en rfl (en rfl (en rfl (en rfl (en rfl (en rfl (en rfl (en rfl (en rfl (en rfl (en rfl (en rfl (en rfl (en rfl (en rfl (en rfl (en rfl s11))))))))))))))))))))))))))))))))))))
  have s12 := (hg 12).trans (en rfl (en rfl (en rfl (en rfl (en rfl (en rfl (en rfl (en rfl (en rfl (en rfl (en rfl (en rfl (en rfl (en rfl (en rfl (en rfl (en rfl (en rfl (en rfl (en rfl (en rfl (en rfl (en rfl (en rfl (en rfl (en rfl (en rfl (en rfl (en rfl (en rfl (en rfl (en rfl (en rfl (en rfl (en rfl (en rfl s12))))))))))))))))))))))))))))))))))))
  have s13 := (hg 13).trans (en rfl (en rfl (en rfl (en rfl (en rfl (en rfl (en rfl (en rfl (en rfl (en rfl (en rfl (en rfl (en rfl (en rfl (en rfl (en rfl (en rfl (en rfl (en rfl (en rfl (en rfl (en rfl (en rfl (en rfl (en rfl (en rfl (en rfl (en rfl (en rfl (en rfl (en rfl (en rfl (en rfl (en rfl (en rfl (en rfl s13))))))))))))))))))))))))))))))))))))
  have s14 := (hg 14).trans (en rfl (en rfl (en rfl (en rfl (en rfl (en rfl (en rfl (en rfl (en rfl (en rfl (en rfl (en rfl (en rfl (en rfl (en rfl (en rfl (en rfl (en rfl (en rfl (en rfl (en rfl (en rfl (en rfl (en rfl (en rfl (en rfl (en rfl (en rfl (en rfl (en rfl (en rfl (en rfl (en rfl (en rfl (en rfl (en rfl s14))))))))))))))))))))))))))))))))))))
  have s15 := (hg 15).trans (en rfl (en rfl (en rfl (en rfl (en rfl (en rfl (en rfl (en rfl (en rfl (en rfl (en rfl (en rfl (en rfl (en rfl (en rfl (en rfl (en rfl (en rfl (en rfl (en rfl (en rfl (en rfl (en rfl (en rfl (en rfl (en rfl (en rfl (en rfl (en rfl (en rfl (en rfl (en rfl (en rfl (en rfl (en rfl (en rfl s15))))))))))))))))))))))))))))))))))))
  have s16 := (hg 16).trans (en rfl (en rfl (en rfl (en rfl (en rfl (en rfl (en rfl (en rfl (en rfl (en rfl (en rfl (en rfl (en rfl (en rfl (en rfl (en rfl (en rfl (en rfl (en rfl (en rfl (en rfl (en rfl (en rfl (en rfl (en rfl (en rfl (en rfl (en rfl (en rfl (en rfl (en rfl (en rfl (en rfl (en rfl (en rfl (en rfl s16))))))))))))))))))))))))))))))))))))
  have s17 := (hg 17).trans (en rfl (en rfl (en rfl (en rfl (en rfl (en rfl (en rfl (en rfl (en rfl (en rfl (en rfl (en rfl (en rfl (en rfl (en rfl (en rfl (en rfl (en rfl (en rfl (en rfl (en rfl (en rfl (en rfl (en rfl (en rfl (en rfl (en rfl (en rfl (en rfl (en rfl (en rfl (en rfl (en rfl (en rfl (en rfl (en rfl s17))))))))))))))))))))))))))))))))))))
  have s18 := (hg 18).trans (en rfl (en rfl (en rfl (en rfl (en rfl (en rfl (en rfl (en rfl (en rfl (en rfl (en rfl (en rfl (en rfl (en rfl (en rfl (en rfl (en rfl (en rfl (en rfl (en rfl (en rfl (en rfl (en rfl (en rfl (en rfl (en rfl (en rfl (en rfl (en rfl (en rfl (en rfl (en rfl (en rfl (en rfl (en rfl (en rfl s18))))))))))))))))))))))))))))))))))))
  have s19 := (hg 19).trans (en rfl (en rfl (en rfl (en rfl (en rfl (en rfl (en rfl (en rfl (en rfl (en rfl (en rfl (en rfl (en rfl (en rfl (en rfl (en rfl (en rfl (en rfl (en rfl (en rfl (en rfl (en rfl (en rfl (en rfl (en rfl (en rfl (en rfl (en rfl (en rfl (en rfl (en rfl (en rfl (en rfl (en rfl (en rfl (en rfl s19))))))))))))))))))))))))))))))))))))
  have s20 := (hg 20).trans (en rfl (en rfl (en rfl (en rfl (en rfl (en rfl (en rfl (en rfl (en rfl (en rfl (en rfl (en rfl (en rfl (en rfl (en rfl (en rfl (en rfl (en rfl (en rfl (en rfl (en rfl (en rfl (en rfl (en rfl (en rfl (en rfl (en rfl (en rfl (en rfl (en rfl (en rfl (en rfl (en rfl (en rfl (en rfl (en rfl s20))))))))))))))))))))))))))))))))))))
  have s33 := (hg 33).trans (en rfl (en rfl (en rfl (en rfl (en rfl (en rfl (en rfl (en rfl (en rfl (en rfl (en rfl (en rfl (en rfl (en rfl (en rfl (en rfl (en rfl (en rfl (en rfl (en rfl (en rfl (en rfl (en rfl (en rfl (en rfl (en rfl (en rfl (en rfl (en rfl (en rfl (en rfl (en rfl (en rfl (en rfl (en rfl (en rfl s33))))))))))))))))))))))))))))))))))))
  have s70 := (hg 70).trans (en rfl (en rfl (en rfl (en rfl (en rfl (en rfl (en rfl (en rfl (en rfl (en rfl (en rfl (en rfl (en rfl (en rfl (en rfl (en rfl (en rfl (en rfl (en rfl (en rfl (en rfl (en rfl (en rfl (en rfl (en rfl (en rfl (en rfl (en rfl (en rfl (en rfl (en rfl (en rfl (en rfl (en rfl (en rfl (en rfl s70))))))))))))))))))))))))))))))))))))
  clear hg
  refine xc_ret ?_
  refine bodyR_1 rfl s6 ?_
  exact ⟨rfl, h.drop.drop.drop.drop.drop.drop.drop⟩
theorem joins_all (hv : Reads E R v .i32 zs) (hu : Reads E R u .i32 ys) (ht : Reads E R t .i32 xs) (h : SatL E w R) : Calls Try.prog 7 #[v, u, t] w (Ret fun u w' => u = .bool true ∧ SatL E w' R) := by
  by_cases h1 : 100 < zs.length
  · exact joins_big1 hv h1 h
  by_cases h2 : 100 < ys.length
  · exact joins_big2 hv hu (by omega) h2 h
  by_cases h3 : 100 < xs.length
  · exact joins_big3 hv hu ht (by omega) (by omega) h3 h
  by_cases ho : ChOk zs
  · by_cases hp : ChOk ys
    · by_cases hq : ChOk xs
      · by_cases hs : 32 < zs.length + ys.length + xs.length
        · exact joins_long hv hu ht ho hp hq hs h
        · exact joins_ok hv hu ht ho hp hq (by omega) h
      · exact joins_not3 hv hu ht ho hp (by omega) hq h
    · exact joins_not2 hv hu ht ho (by omega) (by omega) hp h
  · exact joins_not1 hv hu ht (by omega) (by omega) (by omega) ho h
end
end Go.Proofs.Ytimieinmphhmmaa
