/-
ChunkSame: the walk.
-/
import Derived.Test.YtimieinmphhmmaaH4
namespace Go.Proofs.Ytimieinmphhmmaa
open Go Go.RowKit
section
variable {E : Env} {R L : List SProp} {w : World} {zs ys : List Int} {v u : Value} {r : Int}
theorem same_big (hv : Reads E R v .i32 zs) (hb : 1000 < zs.length) (h : SatL E w R) : Calls Try.prog 3 #[v, u] w (Ret fun u w' => u = .bool true ∧ SatL E w' R) := by
  obtain ⟨a, cap, rfl, _, _⟩ := hv.slice h
  refine calls_x Try.func3 rfl Try.ntmps3 rfl ?_
  refine xc_gen (fun g hg => ?_)
  have s0 := (hg 0).trans arg0
  have s1 := (hg 1).trans arg1
  clear hg
  refine xc_seq (fun K hK1 => ?_)
  refine xc_region ?_
  refine x_val (r_assign ec) (nd_of rfl) rfl ?_
  refine xw_nil ?_
  refine hK1 _ _ ?_
  refine xc_gen (fun g hg => ?_)
  have s0 := (hg 0).trans (en rfl s0)
  have s1 := (hg 1).trans (en rfl s1)
  have s4 := (hg 4).trans es
  clear hg
  refine xc_seq (fun K hK2 => ?_)
  refine xc_seq (fun K hK3 => ?_)
  refine xc_region ?_
  refine x_val (r_move s0) (nd_of rfl) rfl ?_
  refine x_val (r_len Try.underlying22 es) (nd_of rfl) rfl ?_
  refine x_val (r_gtr es ec (decide_eq_true (by omega))) (nd_of rfl) rfl ?_
  refine x_val (r_move es) (nd_of rfl) rfl ?_
  refine x_pass (d := 14) rfl rfl es rfl ?_
  refine x_pass (d := 14) rfl rfl (en rfl es) rfl ?_
  refine x_pass (d := 14) rfl rfl (en rfl (en rfl es)) rfl ?_
  refine x_val (r_pick_t (en rfl (en rfl (en rfl es))) ec) (nd_of rfl) rfl ?_
  refine xw_nil ?_
  refine hK3 _ _ ?_
  refine xc_gen (fun g hg => ?_)
  have s0 := (hg 0).trans (en rfl (en rfl (en rfl (en rfl (en rfl (en rfl (en rfl (en rfl s0))))))))
  have s1 := (hg 1).trans (en rfl (en rfl (en rfl (en rfl (en rfl (en rfl (en rfl (en rfl s1))))))))
  have s4 := (hg 4).trans (en rfl (en rfl (en rfl (en rfl (en rfl (en rfl (en rfl (en rfl s4))))))))
  have s18 := (hg 18).trans es
  clear hg
  refine xc_cond s18 (fun _ => ?_) (fun hc => by cases hc)
  refine xc_seq (fun K hK4 => ?_)
  refine xc_region ?_
  refine x_enter (r_call Try.call9 .nil) (nd_of rfl) rfl (known_ok h) ?_
  rintro _ w ⟨rfl, h⟩
  refine x_val (r_assign es) (nd_of rfl) rfl ?_
  refine xw_nil ?_
  refine hK4 _ _ ?_
  refine xc_gen (fun g hg => ?_)
  have s0 := (hg 0).trans (en rfl (en rfl s0))
  have s1 := (hg 1).trans (en rfl (en rfl s1))
  have s4 := (hg 4).trans es
  have s18 := (hg 18).trans (en rfl (en rfl s18))
  clear hg
  refine xc_ret ?_
  refine bodyR_1 rfl s4 ?_
  exact ⟨rfl, h⟩
theorem same_big2 (hv : Reads E R v .i32 zs) (hu : Reads E R u .i32 ys) (hz : zs.length ≤ 1000) (hb : 1000 < ys.length) (h : SatL E w R) : Calls Try.prog 3 #[v, u] w (Ret fun u w' => u = .bool true ∧ SatL E w' R) := by
  obtain ⟨a, cap, rfl, _, _⟩ := hv.slice h
  obtain ⟨a2, cap2, rfl, _, _⟩ := hu.slice h
  refine calls_x Try.func3 rfl Try.ntmps3 rfl ?_
  refine xc_gen (fun g hg => ?_)
  have s0 := (hg 0).trans arg0
  have s1 := (hg 1).trans arg1
  clear hg
  refine xc_seq (fun K hK1 => ?_)
  refine xc_region ?_
  refine x_val (r_assign ec) (nd_of rfl) rfl ?_
  refine xw_nil ?_
  refine hK1 _ _ ?_
  refine xc_gen (fun g hg => ?_)
  have s0 := (hg 0).trans (en rfl s0)
  have s1 := (hg 1).trans (en rfl s1)
  have s4 := (hg 4).trans es
  clear hg
  refine xc_seq (fun K hK2 => ?_)
  refine xc_seq (fun K hK3 => ?_)
  refine xc_region ?_
  refine x_val (r_move s0) (nd_of rfl) rfl ?_
  refine x_val (r_len Try.underlying22 es) (nd_of rfl) rfl ?_
  refine x_val (r_gtr es ec (decide_eq_false (by omega))) (nd_of rfl) rfl ?_
  refine x_val (r_move es) (nd_of rfl) rfl ?_
  refine x_take (d := 14) rfl rfl es ?_
  refine x_val (r_move (en rfl (en rfl (en rfl (en rfl s1))))) (nd_of rfl) rfl ?_
  refine x_take (d := 14) rfl rfl (en rfl es) ?_
  refine x_val (r_len Try.underlying22 es) (nd_of rfl) rfl ?_
  refine x_take (d := 14) rfl rfl (en rfl (en rfl es)) ?_
  refine x_val (r_gtr es ec (decide_eq_true (by omega))) (nd_of rfl) rfl ?_
  refine x_val (r_pick_f (en rfl (en rfl (en rfl es))) es) (nd_of rfl) rfl ?_
  refine xw_nil ?_
  refine hK3 _ _ ?_
  refine xc_gen (fun g hg => ?_)
  have s0 := (hg 0).trans (en rfl (en rfl (en rfl (en rfl (en rfl (en rfl (en rfl (en rfl s0))))))))
  have s1 := (hg 1).trans (en rfl (en rfl (en rfl (en rfl (en rfl (en rfl (en rfl (en rfl s1))))))))
  have s4 := (hg 4).trans (en rfl (en rfl (en rfl (en rfl (en rfl (en rfl (en rfl (en rfl s4))))))))
  have s18 := (hg 18).trans es
  clear hg
  refine xc_cond s18 (fun _ => ?_) (fun hc => by cases hc)
  refine xc_seq (fun K hK4 => ?_)
  refine xc_region ?_
  refine x_enter (r_call Try.call9 .nil) (nd_of rfl) rfl (known_ok h) ?_
  rintro _ w ⟨rfl, h⟩
  refine x_val (r_assign es) (nd_of rfl) rfl ?_
  refine xw_nil ?_
  refine hK4 _ _ ?_
  refine xc_gen (fun g hg => ?_)
  have s0 := (hg 0).trans (en rfl (en rfl s0))
  have s1 := (hg 1).trans (en rfl (en rfl s1))
  have s4 := (hg 4).trans es
  have s18 := (hg 18).trans (en rfl (en rfl s18))
  clear hg
  refine xc_ret ?_
  refine bodyR_1 rfl s4 ?_
  exact ⟨rfl, h⟩
theorem same_not (hv : Reads E R v .i32 zs) (hu : Reads E R u .i32 ys) (hz : zs.length ≤ 1000) (hy : ys.length ≤ 1000) (hn : ¬ ChOk zs) (h : SatL E w R) : Calls Try.prog 3 #[v, u] w (Ret fun u w' => u = .bool true ∧ SatL E w' R) := by
  obtain ⟨a, cap, rfl, _, _⟩ := hv.slice h
  obtain ⟨a2, cap2, rfl, _, _⟩ := hu.slice h
  have hnil := chOk_nil
  refine calls_x Try.func3 rfl Try.ntmps3 rfl ?_
  refine xc_gen (fun g hg => ?_)
  have s0 := (hg 0).trans arg0
  have s1 := (hg 1).trans arg1
  clear hg
  refine xc_seq (fun K hK1 => ?_)
  refine xc_region ?_
  refine x_val (r_assign ec) (nd_of rfl) rfl ?_
  refine xw_nil ?_
  refine hK1 _ _ ?_
  refine xc_gen (fun g hg => ?_)
  have s0 := (hg 0).trans (en rfl s0)
  have s1 := (hg 1).trans (en rfl s1)
  have s4 := (hg 4).trans es
  clear hg
  refine xc_seq (fun K hK2 => ?_)
  refine xc_seq (fun K hK3 => ?_)
  refine xc_region ?_
  refine x_val (r_move s0) (nd_of rfl) rfl ?_
  refine x_val (r_len Try.underlying22 es) (nd_of rfl) rfl ?_
  refine x_val (r_gtr es ec (decide_eq_false (by omega))) (nd_of rfl) rfl ?_
  refine x_val (r_move es) (nd_of rfl) rfl ?_
  refine x_take (d := 14) rfl rfl es ?_
  refine x_val (r_move (en rfl (en rfl (en rfl (en rfl s1))))) (nd_of rfl) rfl ?_
  refine x_take (d := 14) rfl rfl (en rfl es) ?_
  refine x_val (r_len Try.underlying22 es) (nd_of rfl) rfl ?_
  refine x_take (d := 14) rfl rfl (en rfl (en rfl es)) ?_
  refine x_val (r_gtr es ec (decide_eq_false (by omega))) (nd_of rfl) rfl ?_
  refine x_val (r_pick_f (en rfl (en rfl (en rfl es))) es) (nd_of rfl) rfl ?_
  refine xw_nil ?_
  refine hK3 _ _ ?_
  refine xc_gen (fun g hg => ?_)
  have s0 := (hg 0).trans (en rfl (en rfl (en rfl (en rfl (en rfl (en rfl (en rfl (en rfl s0))))))))
  have s1 := (hg 1).trans (en rfl (en rfl (en rfl (en rfl (en rfl (en rfl (en rfl (en rfl s1))))))))
  have s4 := (hg 4).trans (en rfl (en rfl (en rfl (en rfl (en rfl (en rfl (en rfl (en rfl s4))))))))
  have s18 := (hg 18).trans es
  clear hg
  refine xc_cond s18 (fun hc => by cases hc) (fun _ => ?_)
  refine xc_skip ?_
  refine hK2 _ _ ?_
  refine xc_seq (fun K hK4 => ?_)
  refine xc_region ?_
  refine x_val (r_move s0) (nd_of rfl) rfl ?_
  refine x_enter (r_call Try.call10 (.cons es .nil)) (nd_of rfl) rfl (of_not hv hn h) ?_
  rintro _ w ⟨⟨e, he, rfl⟩, h⟩
  refine x_val (r_move es) (nd_of rfl) rfl ?_
  refine x_val (r_extract es gc0) (nd_of rfl) rfl ?_
  refine x_val (r_extract (en rfl es) gc1) (nd_of rfl) rfl ?_
  refine x_declA h Try.zeroValue26 Try.sizeOf26 rfl (en rfl (en rfl es)) (by first | assumption | exact Ok.node (by assumption) | exact ChOk.ok (by assumption)) rfl ?_
  intro b5 w h
  refine x_val (r_assign (en rfl es)) (nd_of rfl) rfl ?_
  refine xw_nil ?_
  refine hK4 _ _ ?_
  refine xc_gen (fun g hg => ?_)
  have s0 := (hg 0).trans (en rfl (en rfl (en rfl (en rfl (en rfl (en rfl (en rfl s0)))))))
  have s1 := (hg 1).trans (en rfl (en rfl (en rfl (en rfl (en rfl (en rfl (en rfl s1)))))))
  have s4 := (hg 4).trans (en rfl (en rfl (en rfl (en rfl (en rfl (en rfl (en rfl s4)))))))
  have s5 := (hg 5).trans (en rfl es)
  have s6 := (hg 6).trans es
  have s18 := (hg 18).trans (en rfl (en rfl (en rfl (en rfl (en rfl (en rfl (en rfl s18)))))))
  clear hg
  refine xc_seq (fun K hK5 => ?_)
  refine xc_region ?_
  refine x_val (r_move s1) (nd_of rfl) rfl ?_
  refine x_enter (r_call Try.call10 (.cons es .nil)) (nd_of rfl) rfl (of_any hu.up h) ?_
  rintro _ w ⟨⟨e2, l2, hl2, rfl⟩, h⟩
  refine x_val (r_move es) (nd_of rfl) rfl ?_
  refine x_val (r_extract es gc0) (nd_of rfl) rfl ?_
  refine x_val (r_extract (en rfl es) gc1) (nd_of rfl) rfl ?_
  refine x_declA h Try.zeroValue26 Try.sizeOf26 rfl (en rfl (en rfl es)) (by first | assumption | exact Ok.node (by assumption) | exact ChOk.ok (by assumption)) rfl ?_
  intro b7 w h
  refine x_val (r_assign (en rfl es)) (nd_of rfl) rfl ?_
  refine xw_nil ?_
  refine hK5 _ _ ?_
  refine xc_gen (fun g hg => ?_)
  have s0 := (hg 0).trans (en rfl (en rfl (en rfl (en rfl (en rfl (en rfl (en rfl s0)))))))
  have s1 := (hg 1).trans (en rfl (en rfl (en rfl (en rfl (en rfl (en rfl (en rfl s1)))))))
  have s4 := (hg 4).trans (en rfl (en rfl (en rfl (en rfl (en rfl (en rfl (en rfl s4)))))))
  have s5 := (hg 5).trans (en rfl (en rfl (en rfl (en rfl (en rfl (en rfl (en rfl s5)))))))
  have s6 := (hg 6).trans (en rfl (en rfl (en rfl (en rfl (en rfl (en rfl (en rfl s6)))))))
  have s7 := (hg 7).trans (en rfl es)
  have s8 := (hg 8).trans es
  have s18 := (hg 18).trans (en rfl (en rfl (en rfl (en rfl (en rfl (en rfl (en rfl s18)))))))
  clear hg
  refine xc_seq (fun K hK6 => ?_)
  refine xc_seq (fun K hK7 => ?_)
  refine xc_region ?_
  refine x_val (r_move s6) (nd_of rfl) rfl ?_
  refine x_val (r_neq es ec (decide_eq_true (by omega))) (nd_of rfl) rfl ?_
  refine x_val (r_move es) (nd_of rfl) rfl ?_
  refine x_pass (d := 32) rfl rfl es rfl ?_
  refine x_pass (d := 32) rfl rfl (en rfl es) rfl ?_
  refine x_val (r_pick_t (en rfl (en rfl es)) ec) (nd_of rfl) rfl ?_
  refine xw_nil ?_
  refine hK7 _ _ ?_
  refine xc_gen (fun g hg => ?_)
  have s0 := (hg 0).trans (en rfl (en rfl (en rfl (en rfl (en rfl (en rfl s0))))))
  have s1 := (hg 1).trans (en rfl (en rfl (en rfl (en rfl (en rfl (en rfl s1))))))
  have s4 := (hg 4).trans (en rfl (en rfl (en rfl (en rfl (en rfl (en rfl s4))))))
  have s5 := (hg 5).trans (en rfl (en rfl (en rfl (en rfl (en rfl (en rfl s5))))))
  have s6 := (hg 6).trans (en rfl (en rfl (en rfl (en rfl (en rfl (en rfl s6))))))
  have s7 := (hg 7).trans (en rfl (en rfl (en rfl (en rfl (en rfl (en rfl s7))))))
  have s8 := (hg 8).trans (en rfl (en rfl (en rfl (en rfl (en rfl (en rfl s8))))))
  have s18 := (hg 18).trans (en rfl (en rfl (en rfl (en rfl (en rfl (en rfl s18))))))
  have s35 := (hg 35).trans es
  clear hg
  refine xc_cond s35 (fun _ => ?_) (fun hc => by cases hc)
  refine xc_seq (fun K hK8 => ?_)
  refine xc_region ?_
  refine x_enter (r_call Try.call9 .nil) (nd_of rfl) rfl (known_ok h) ?_
  rintro _ w ⟨rfl, h⟩
  refine x_val (r_assign es) (nd_of rfl) rfl ?_
  refine xw_nil ?_
  refine hK8 _ _ ?_
  refine xc_gen (fun g hg => ?_)
  have s0 := (hg 0).trans (en rfl (en rfl s0))
  have s1 := (hg 1).trans (en rfl (en rfl s1))
  have s4 := (hg 4).trans es
  have s5 := (hg 5).trans (en rfl (en rfl s5))
  have s6 := (hg 6).trans (en rfl (en rfl s6))
  have s7 := (hg 7).trans (en rfl (en rfl s7))
  have s8 := (hg 8).trans (en rfl (en rfl s8))
  have s18 := (hg 18).trans (en rfl (en rfl s18))
  have s35 := (hg 35).trans (en rfl (en rfl s35))
  clear hg
  refine xc_ret ?_
  refine bodyR_1 rfl s4 ?_
  exact ⟨rfl, h.drop.drop⟩
theorem same_not2 (hv : Reads E R v .i32 zs) (hu : Reads E R u .i32 ys) (hz : zs.length ≤ 1000) (hy : ys.length ≤ 1000) (ho : ChOk zs) (hn : ¬ ChOk ys) (h : SatL E w R) : Calls Try.prog 3 #[v, u] w (Ret fun u w' => u = .bool true ∧ SatL E w' R) := by
  obtain ⟨a, cap, rfl, _, _⟩ := hv.slice h
  obtain ⟨a2, cap2, rfl, _, _⟩ := hu.slice h
  have hnil := chOk_nil
  refine calls_x Try.func3 rfl Try.ntmps3 rfl ?_
  refine xc_gen (fun g hg => ?_)
  have s0 := (hg 0).trans arg0
  have s1 := (hg 1).trans arg1
  clear hg
  refine xc_seq (fun K hK1 => ?_)
  refine xc_region ?_
  refine x_val (r_assign ec) (nd_of rfl) rfl ?_
  refine xw_nil ?_
  refine hK1 _ _ ?_
  refine xc_gen (fun g hg => ?_)
  have s0 := (hg 0).trans (en rfl s0)
  have s1 := (hg 1).trans (en rfl s1)
  have s4 := (hg 4).trans es
  clear hg
  refine xc_seq (fun K hK2 => ?_)
  refine xc_seq (fun K hK3 => ?_)
  refine xc_region ?_
  refine x_val (r_move s0) (nd_of rfl) rfl ?_
  refine x_val (r_len Try.underlying22 es) (nd_of rfl) rfl ?_
  refine x_val (r_gtr es ec (decide_eq_false (by omega))) (nd_of rfl) rfl ?_
  refine x_val (r_move es) (nd_of rfl) rfl ?_
  refine x_take (d := 14) rfl rfl es ?_
  refine x_val (r_move (en rfl (en rfl (en rfl (en rfl s1))))) (nd_of rfl) rfl ?_
  refine x_take (d := 14) rfl rfl (en rfl es) ?_
  refine x_val (r_len Try.underlying22 es) (nd_of rfl) rfl ?_
  refine x_take (d := 14) rfl rfl (en rfl (en rfl es)) ?_
  refine x_val (r_gtr es ec (decide_eq_false (by omega))) (nd_of rfl) rfl ?_
  refine x_val (r_pick_f (en rfl (en rfl (en rfl es))) es) (nd_of rfl) rfl ?_
  refine xw_nil ?_
  refine hK3 _ _ ?_
  refine xc_gen (fun g hg => ?_)
  have s0 := (hg 0).trans (en rfl (en rfl (en rfl (en rfl (en rfl (en rfl (en rfl (en rfl s0))))))))
  have s1 := (hg 1).trans (en rfl (en rfl (en rfl (en rfl (en rfl (en rfl (en rfl (en rfl s1))))))))
  have s4 := (hg 4).trans (en rfl (en rfl (en rfl (en rfl (en rfl (en rfl (en rfl (en rfl s4))))))))
  have s18 := (hg 18).trans es
  clear hg
  refine xc_cond s18 (fun hc => by cases hc) (fun _ => ?_)
  refine xc_skip ?_
  refine hK2 _ _ ?_
  refine xc_seq (fun K hK4 => ?_)
  refine xc_region ?_
  refine x_val (r_move s0) (nd_of rfl) rfl ?_
  refine x_enter (r_call Try.call10 (.cons es .nil)) (nd_of rfl) rfl (of_ok hv ho h) ?_
  rintro _ w ⟨rfl, h⟩
  refine x_val (r_move es) (nd_of rfl) rfl ?_
  refine x_val (r_extract es gc0) (nd_of rfl) rfl ?_
  refine x_val (r_extract (en rfl es) gc1) (nd_of rfl) rfl ?_
  refine x_declA h Try.zeroValue26 Try.sizeOf26 rfl (en rfl (en rfl es)) (by first | assumption | exact Ok.node (by assumption) | exact ChOk.ok (by assumption)) rfl ?_
  intro b5 w h
  refine x_val (r_assign (en rfl es)) (nd_of rfl) rfl ?_
  refine xw_nil ?_
  refine hK4 _ _ ?_
  refine xc_gen (fun g hg => ?_)
  have s0 := (hg 0).trans (en rfl (en rfl (en rfl (en rfl (en rfl (en rfl (en rfl s0)))))))
  have s1 := (hg 1).trans (en rfl (en rfl (en rfl (en rfl (en rfl (en rfl (en rfl s1)))))))
  have s4 := (hg 4).trans (en rfl (en rfl (en rfl (en rfl (en rfl (en rfl (en rfl s4)))))))
  have s5 := (hg 5).trans (en rfl es)
  have s6 := (hg 6).trans es
  have s18 := (hg 18).trans (en rfl (en rfl (en rfl (en rfl (en rfl (en rfl (en rfl s18)))))))
  clear hg
  refine xc_seq (fun K hK5 => ?_)
  refine xc_region ?_
  refine x_val (r_move s1) (nd_of rfl) rfl ?_
  refine x_enter (r_call Try.call10 (.cons es .nil)) (nd_of rfl) rfl (of_not hu.up hn h) ?_
  rintro _ w ⟨⟨e, he, rfl⟩, h⟩
  refine x_val (r_move es) (nd_of rfl) rfl ?_
  refine x_val (r_extract es gc0) (nd_of rfl) rfl ?_
  refine x_val (r_extract (en rfl es) gc1) (nd_of rfl) rfl ?_
  refine x_declA h Try.zeroValue26 Try.sizeOf26 rfl (en rfl (en rfl es)) (by first | assumption | exact Ok.node (by assumption) | exact ChOk.ok (by assumption)) rfl ?_
  intro b7 w h
  refine x_val (r_assign (en rfl es)) (nd_of rfl) rfl ?_
  refine xw_nil ?_
  refine hK5 _ _ ?_
  refine xc_gen (fun g hg => ?_)
  have s0 := (hg 0).trans (en rfl (en rfl (en rfl (en rfl (en rfl (en rfl (en rfl s0)))))))
  have s1 := (hg 1).trans (en rfl (en rfl (en rfl (en rfl (en rfl (en rfl (en rfl s1)))))))
  have s4 := (hg 4).trans (en rfl (en rfl (en rfl (en rfl (en rfl (en rfl (en rfl s4)))))))
  have s5 := (hg 5).trans (en rfl (en rfl (en rfl (en rfl (en rfl (en rfl (en rfl s5)))))))
  have s6 := (hg 6).trans (en rfl (en rfl (en rfl (en rfl (en rfl (en rfl (en rfl s6)))))))
  have s7 := (hg 7).trans (en rfl es)
  have s8 := (hg 8).trans es
  have s18 := (hg 18).trans (en rfl (en rfl (en rfl (en rfl (en rfl (en rfl (en rfl s18)))))))
  clear hg
  refine xc_seq (fun K hK6 => ?_)
  refine xc_seq (fun K hK7 => ?_)
  refine xc_region ?_
  refine x_val (r_move s6) (nd_of rfl) rfl ?_
  refine x_val (r_neq es ec (r := false) rfl) (nd_of rfl) rfl ?_
  refine x_val (r_move es) (nd_of rfl) rfl ?_
  refine x_take (d := 32) rfl rfl es ?_
  refine x_val (r_move (en rfl (en rfl (en rfl s8)))) (nd_of rfl) rfl ?_
  refine x_take (d := 32) rfl rfl (en rfl es) ?_
  refine x_val (r_neq es ec (decide_eq_true (by omega))) (nd_of rfl) rfl ?_
  refine x_val (r_pick_f (en rfl (en rfl es)) es) (nd_of rfl) rfl ?_
  refine xw_nil ?_
  refine hK7 _ _ ?_
  refine xc_gen (fun g hg => ?_)
  have s0 := (hg 0).trans (en rfl (en rfl (en rfl (en rfl (en rfl (en rfl s0))))))
  have s1 := (hg 1).trans (en rfl (en rfl (en rfl (en rfl (en rfl (en rfl s1))))))
  have s4 := (hg 4).trans (en rfl (en rfl (en rfl (en rfl (en rfl (en rfl s4))))))
  have s5 := (hg 5).trans (en rfl (en rfl (en rfl (en rfl (en rfl (en rfl s5))))))
  have s6 := (hg 6).trans (en rfl (en rfl (en rfl (en rfl (en rfl (en rfl s6))))))
  have s7 := (hg 7).trans (en rfl (en rfl (en rfl (en rfl (en rfl (en rfl s7))))))
  have s8 := (hg 8).trans (en rfl (en rfl (en rfl (en rfl (en rfl (en rfl s8))))))
  have s18 := (hg 18).trans (en rfl (en rfl (en rfl (en rfl (en rfl (en rfl s18))))))
  have s35 := (hg 35).trans es
  clear hg
  refine xc_cond s35 (fun _ => ?_) (fun hc => by cases hc)
  refine xc_seq (fun K hK8 => ?_)
  refine xc_region ?_
  refine x_enter (r_call Try.call9 .nil) (nd_of rfl) rfl (known_ok h) ?_
  rintro _ w ⟨rfl, h⟩
  refine x_val (r_assign es) (nd_of rfl) rfl ?_
  refine xw_nil ?_
  refine hK8 _ _ ?_
  refine xc_gen (fun g hg => ?_)
  have s0 := (hg 0).trans (en rfl (en rfl s0))
  have s1 := (hg 1).trans (en rfl (en rfl s1))
  have s4 := (hg 4).trans es
  have s5 := (hg 5).trans (en rfl (en rfl s5))
  have s6 := (hg 6).trans (en rfl (en rfl s6))
  have s7 := (hg 7).trans (en rfl (en rfl s7))
  have s8 := (hg 8).trans (en rfl (en rfl s8))
  have s18 := (hg 18).trans (en rfl (en rfl s18))
  have s35 := (hg 35).trans (en rfl (en rfl s35))
  clear hg
  refine xc_ret ?_
  refine bodyR_1 rfl s4 ?_
  exact ⟨rfl, h.drop.drop⟩
theorem take_step {i : Nat} {r1 r2 : Int} (h1 : zs[i]? = some r1) (h2 : ys[i]? = some r2) : zs.take (i + 1) = ys.take (i + 1) ↔ zs.take i = ys.take i ∧ r1 = r2 := by
  have l1 := (List.getElem?_eq_some_iff.1 h1).1
  have l2 := (List.getElem?_eq_some_iff.1 h2).1
  rw [List.take_add_one, List.take_add_one, h1, h2]
  constructor
  · intro h
    have := List.append_inj h (by simp; omega)
    exact ⟨this.1, by simpa using this.2⟩
  · rintro ⟨h, rfl⟩; rw [h]
theorem same_ok (hv : Reads E R v .i32 zs) (hu : Reads E R u .i32 ys) (ho : ChOk zs) (hp : ChOk ys) (h : SatL E w R) : Calls Try.prog 3 #[v, u] w (Ret fun u w' => u = .bool true ∧ SatL E w' R) := by
  obtain ⟨a, cap, rfl, _, _⟩ := hv.slice h
  obtain ⟨a2, cap2, rfl, _, _⟩ := hu.slice h
  have hz := ho.len
  have hy := hp.len
  refine calls_x Try.func3 rfl Try.ntmps3 rfl ?_
  refine xc_gen (fun g hg => ?_)
  have s0 := (hg 0).trans arg0
  have s1 := (hg 1).trans arg1
  clear hg
  refine xc_seq (fun K hK1 => ?_)
  refine xc_region ?_
  refine x_val (r_assign ec) (nd_of rfl) rfl ?_
  refine xw_nil ?_
  refine hK1 _ _ ?_
  refine xc_gen (fun g hg => ?_)
  have s0 := (hg 0).trans (en rfl s0)
  have s1 := (hg 1).trans (en rfl s1)
  have s4 := (hg 4).trans es
  clear hg
  refine xc_seq (fun K hK2 => ?_)
  refine xc_seq (fun K hK3 => ?_)
  refine xc_region ?_
  refine x_val (r_move s0) (nd_of rfl) rfl ?_
  refine x_val (r_len Try.underlying22 es) (nd_of rfl) rfl ?_
  refine x_val (r_gtr es ec (decide_eq_false (by omega))) (nd_of rfl) rfl ?_
  refine x_val (r_move es) (nd_of rfl) rfl ?_
  refine x_take (d := 14) rfl rfl es ?_
  refine x_val (r_move (en rfl (en rfl (en rfl (en rfl s1))))) (nd_of rfl) rfl ?_
  refine x_take (d := 14) rfl rfl (en rfl es) ?_
  refine x_val (r_len Try.underlying22 es) (nd_of rfl) rfl ?_
  refine x_take (d := 14) rfl rfl (en rfl (en rfl es)) ?_
  refine x_val (r_gtr es ec (decide_eq_false (by omega))) (nd_of rfl) rfl ?_
  refine x_val (r_pick_f (en rfl (en rfl (en rfl es))) es) (nd_of rfl) rfl ?_
  refine xw_nil ?_
  refine hK3 _ _ ?_
  refine xc_gen (fun g hg => ?_)
  have s0 := (hg 0).trans (en rfl (en rfl (en rfl (en rfl (en rfl (en rfl (en rfl (en rfl s0))))))))
  have s1 := (hg 1).trans (en rfl (en rfl (en rfl (en rfl (en rfl (en rfl (en rfl (en rfl s1))))))))
  have s4 := (hg 4).trans (en rfl (en rfl (en rfl (en rfl (en rfl (en rfl (en rfl (en rfl s4))))))))
  have s18 := (hg 18).trans es
  clear hg
  refine xc_cond s18 (fun hc => by cases hc) (fun _ => ?_)
  refine xc_skip ?_
  refine hK2 _ _ ?_
  refine xc_seq (fun K hK4 => ?_)
  refine xc_region ?_
  refine x_val (r_move s0) (nd_of rfl) rfl ?_
  refine x_enter (r_call Try.call10 (.cons es .nil)) (nd_of rfl) rfl (of_ok hv ho h) ?_
  rintro _ w ⟨rfl, h⟩
  refine x_val (r_move es) (nd_of rfl) rfl ?_
  refine x_val (r_extract es gc0) (nd_of rfl) rfl ?_
  refine x_val (r_extract (en rfl es) gc1) (nd_of rfl) rfl ?_
  refine x_declA h Try.zeroValue26 Try.sizeOf26 rfl (en rfl (en rfl es)) (by first | assumption | exact Ok.node (by assumption) | exact ChOk.ok (by assumption)) rfl ?_
  intro b5 w h
  refine x_val (r_assign (en rfl es)) (nd_of rfl) rfl ?_
  refine xw_nil ?_
  refine hK4 _ _ ?_
  refine xc_gen (fun g hg => ?_)
  have s0 := (hg 0).trans (en rfl (en rfl (en rfl (en rfl (en rfl (en rfl (en rfl s0)))))))
  have s1 := (hg 1).trans (en rfl (en rfl (en rfl (en rfl (en rfl (en rfl (en rfl s1)))))))
  have s4 := (hg 4).trans (en rfl (en rfl (en rfl (en rfl (en rfl (en rfl (en rfl s4)))))))
  have s5 := (hg 5).trans (en rfl es)
  have s6 := (hg 6).trans es
  have s18 := (hg 18).trans (en rfl (en rfl (en rfl (en rfl (en rfl (en rfl (en rfl s18)))))))
  clear hg
  refine xc_seq (fun K hK5 => ?_)
  refine xc_region ?_
  refine x_val (r_move s1) (nd_of rfl) rfl ?_
  refine x_enter (r_call Try.call10 (.cons es .nil)) (nd_of rfl) rfl (of_ok hu.up hp h) ?_
  rintro _ w ⟨rfl, h⟩
  refine x_val (r_move es) (nd_of rfl) rfl ?_
  refine x_val (r_extract es gc0) (nd_of rfl) rfl ?_
  refine x_val (r_extract (en rfl es) gc1) (nd_of rfl) rfl ?_
  refine x_declA h Try.zeroValue26 Try.sizeOf26 rfl (en rfl (en rfl es)) (by first | assumption | exact Ok.node (by assumption) | exact ChOk.ok (by assumption)) rfl ?_
  intro b7 w h
  refine x_val (r_assign (en rfl es)) (nd_of rfl) rfl ?_
  refine xw_nil ?_
  refine hK5 _ _ ?_
  refine xc_gen (fun g hg => ?_)
  have s0 := (hg 0).trans (en rfl (en rfl (en rfl (en rfl (en rfl (en rfl (en rfl s0)))))))
  have s1 := (hg 1).trans (en rfl (en rfl (en rfl (en rfl (en rfl (en rfl (en rfl s1)))))))
  have s4 := (hg 4).trans (en rfl (en rfl (en rfl (en rfl (en rfl (en rfl (en rfl s4)))))))
  have s5 := (hg 5).trans (en rfl (en rfl (en rfl (en rfl (en rfl (en rfl (en rfl s5)))))))
  have s6 := (hg 6).trans (en rfl (en rfl (en rfl (en rfl (en rfl (en rfl (en rfl s6)))))))
  have s7 := (hg 7).trans (en rfl es)
  have s8 := (hg 8).trans es
  have s18 := (hg 18).trans (en rfl (en rfl (en rfl (en rfl (en rfl (en rfl (en rfl s18)))))))
  clear hg
  refine xc_seq (fun K hK6 => ?_)
  refine xc_seq (fun K hK7 => ?_)
  refine xc_region ?_
  refine x_val (r_move s6) (nd_of rfl) rfl ?_
  refine x_val (r_neq es ec (r := false) rfl) (nd_of rfl) rfl ?_
  refine x_val (r_move es) (nd_of rfl) rfl ?_
  refine x_take (d := 32) rfl rfl es ?_
  refine x_val (r_move (en rfl (en rfl (en rfl s8)))) (nd_of rfl) rfl ?_
  refine x_take (d := 32) rfl rfl (en rfl es) ?_
  refine x_val (r_neq es ec (r := false) rfl) (nd_of rfl) rfl ?_
  refine x_val (r_pick_f (en rfl (en rfl es)) es) (nd_of rfl) rfl ?_
  refine xw_nil ?_
  refine hK7 _ _ ?_
  refine xc_gen (fun g hg => ?_)
  have s0 := (hg 0).trans (en rfl (en rfl (en rfl (en rfl (en rfl (en rfl s0))))))
  have s1 := (hg 1).trans (en rfl (en rfl (en rfl (en rfl (en rfl (en rfl s1))))))
  have s4 := (hg 4).trans (en rfl (en rfl (en rfl (en rfl (en rfl (en rfl s4))))))
  have s5 := (hg 5).trans (en rfl (en rfl (en rfl (en rfl (en rfl (en rfl s5))))))
  have s6 := (hg 6).trans (en rfl (en rfl (en rfl (en rfl (en rfl (en rfl s6))))))
  have s7 := (hg 7).trans (en rfl (en rfl (en rfl (en rfl (en rfl (en rfl s7))))))
  have s8 := (hg 8).trans (en rfl (en rfl (en rfl (en rfl (en rfl (en rfl s8))))))
  have s18 := (hg 18).trans (en rfl (en rfl (en rfl (en rfl (en rfl (en rfl s18))))))
  have s35 := (hg 35).trans es
  clear hg
  refine xc_cond s35 (fun hc => by cases hc) (fun _ => ?_)
  refine xc_skip ?_
  refine hK6 _ _ ?_
  refine xc_seq (fun K hK8 => ?_)
  refine xc_region ?_
  refine x_val (r_move s0) (nd_of rfl) rfl ?_
  refine x_val (r_len Try.underlying22 es) (nd_of rfl) rfl ?_
  refine x_val (r_move (en rfl (en rfl s1))) (nd_of rfl) rfl ?_
  refine x_val (r_len Try.underlying22 es) (nd_of rfl) rfl ?_
  refine x_val (r_eql (en rfl (en rfl es)) es rfl) (nd_of rfl) rfl ?_
  refine x_val (r_assign es) (nd_of rfl) rfl ?_
  refine xw_nil ?_
  refine hK8 _ _ ?_
  refine xc_gen (fun g hg => ?_)
  have s0 := (hg 0).trans (en rfl (en rfl (en rfl (en rfl (en rfl (en rfl s0))))))
  have s1 := (hg 1).trans (en rfl (en rfl (en rfl (en rfl (en rfl (en rfl s1))))))
  have s4 := (hg 4).trans (en rfl (en rfl (en rfl (en rfl (en rfl (en rfl s4))))))
  have s5 := (hg 5).trans (en rfl (en rfl (en rfl (en rfl (en rfl (en rfl s5))))))
  have s6 := (hg 6).trans (en rfl (en rfl (en rfl (en rfl (en rfl (en rfl s6))))))
  have s7 := (hg 7).trans (en rfl (en rfl (en rfl (en rfl (en rfl (en rfl s7))))))
  have s8 := (hg 8).trans (en rfl (en rfl (en rfl (en rfl (en rfl (en rfl s8))))))
  have s9 := (hg 9).trans es
  have s18 := (hg 18).trans (en rfl (en rfl (en rfl (en rfl (en rfl (en rfl s18))))))
  have s35 := (hg 35).trans (en rfl (en rfl (en rfl (en rfl (en rfl (en rfl s35))))))
  clear hg
  refine xc_seq (fun K hK9 => ?_)
  refine xc_seq (fun K hK10 => ?_)
  refine xc_region ?_
  refine x_val (r_assign ec) (nd_of rfl) rfl ?_
  refine xw_nil ?_
  refine hK10 _ _ ?_
  refine xc_gen (fun g hg => ?_)
  have s0 := (hg 0).trans (en rfl s0)
  have s1 := (hg 1).trans (en rfl s1)
  have s4 := (hg 4).trans (en rfl s4)
  have s5 := (hg 5).trans (en rfl s5)
  have s6 := (hg 6).trans (en rfl s6)
  have s7 := (hg 7).trans (en rfl s7)
  have s8 := (hg 8).trans (en rfl s8)
  have s9 := (hg 9).trans (en rfl s9)
  have s10 := (hg 10).trans es
  have s18 := (hg 18).trans (en rfl s18)
  have s35 := (hg 35).trans (en rfl s35)
  clear hg
  refine xc_block ?_
  obtain ⟨G11, hG11⟩ : ∃ g0 : Nat → Value, g0 = g := ⟨_, rfl⟩
  have z0 : G11 0 = _ := (congrFun hG11 0).trans s0
  have z1 : G11 1 = _ := (congrFun hG11 1).trans s1
  have z4 : G11 4 = _ := (congrFun hG11 4).trans s4
  have z5 : G11 5 = _ := (congrFun hG11 5).trans s5
  have z6 : G11 6 = _ := (congrFun hG11 6).trans s6
  have z7 : G11 7 = _ := (congrFun hG11 7).trans s7
  have z8 : G11 8 = _ := (congrFun hG11 8).trans s8
  have z18 : G11 18 = _ := (congrFun hG11 18).trans s18
  have z35 : G11 35 = _ := (congrFun hG11 35).trans s35
  refine xc_loop (fun m f w => (∃ (i : Nat) (al : Bool), m = zs.length - i ∧ i ≤ zs.length ∧ (al = true ↔ zs.length = ys.length ∧ zs.take i = ys.take i) ∧ f 9 = .bool al ∧ f 10 = .int .i64 (i : Int) ∧ SatL E w (Cells b7 (chC ys) 26 :: Cells b5 (chC zs) 26 :: R)) ∧ (f 0 = G11 0 ∧ f 1 = G11 1 ∧ f 4 = G11 4 ∧ f 5 = G11 5 ∧ f 6 = G11 6 ∧ f 7 = G11 7 ∧ f 8 = G11 8 ∧ f 18 = G11 18 ∧ f 35 = G11 35)) (zs.length) ⟨⟨0, _, by omega, by omega, by simp; omega, s9, s10, h⟩, ⟨congrFun hG11.symm 0, congrFun hG11.symm 1, congrFun hG11.symm 4, congrFun hG11.symm 5, congrFun hG11.symm 6, congrFun hG11.symm 7, congrFun hG11.symm 8, congrFun hG11.symm 18, congrFun hG11.symm 35⟩⟩ ?_
  rintro m g w ⟨⟨i, al, hm, hi, hal, s9, s10, h⟩, ⟨y0, y1, y4, y5, y6, y7, y8, y18, y35⟩⟩
  have s0 := y0.trans z0
  have s1 := y1.trans z1
  have s4 := y4.trans z4
  have s5 := y5.trans z5
  have s6 := y6.trans z6
  have s7 := y7.trans z7
  have s8 := y8.trans z8
  have s18 := y18.trans z18
  have s35 := y35.trans z35
  rcases al with _ | _
  ·
    skip
    refine xc_seq (fun K hK12 => ?_)
    refine xc_seq (fun K hK13 => ?_)
    have hne : ¬ zs = ys := by rintro rfl; have := hal.2 ⟨rfl, rfl⟩; cases this
    refine xc_region ?_
    refine x_val (r_move s9) (nd_of rfl) rfl ?_
    refine x_val (r_move es) (nd_of rfl) rfl ?_
    refine x_pass (d := 43) rfl rfl es rfl ?_
    refine x_pass (d := 43) rfl rfl (en rfl es) rfl ?_
    refine x_pass (d := 43) rfl rfl (en rfl (en rfl es)) rfl ?_
    refine x_pass (d := 43) rfl rfl (en rfl (en rfl (en rfl es))) rfl ?_
    refine x_val (r_pick_f (en rfl (en rfl (en rfl (en rfl es)))) ec) (nd_of rfl) rfl ?_
    refine xw_nil ?_
    refine hK13 _ _ ?_
    refine xc_gen (fun g hg => ?_)
    have s0 := (hg 0).trans (en rfl (en rfl (en rfl (en rfl (en rfl (en rfl (en rfl s0)))))))
    have s1 := (hg 1).trans (en rfl (en rfl (en rfl (en rfl (en rfl (en rfl (en rfl s1)))))))
    have s4 := (hg 4).trans (en rfl (en rfl (en rfl (en rfl (en rfl (en rfl (en rfl s4)))))))
    have s5 := (hg 5).trans (en rfl (en rfl (en rfl (en rfl (en rfl (en rfl (en rfl s5)))))))
    have s6 := (hg 6).trans (en rfl (en rfl (en rfl (en rfl (en rfl (en rfl (en rfl s6)))))))
    have s7 := (hg 7).trans (en rfl (en rfl (en rfl (en rfl (en rfl (en rfl (en rfl s7)))))))
    have s8 := (hg 8).trans (en rfl (en rfl (en rfl (en rfl (en rfl (en rfl (en rfl s8)))))))
    have s9 := (hg 9).trans (en rfl (en rfl (en rfl (en rfl (en rfl (en rfl (en rfl s9)))))))
    have s10 := (hg 10).trans (en rfl (en rfl (en rfl (en rfl (en rfl (en rfl (en rfl s10)))))))
    have s18 := (hg 18).trans (en rfl (en rfl (en rfl (en rfl (en rfl (en rfl (en rfl s18)))))))
    have s35 := (hg 35).trans (en rfl (en rfl (en rfl (en rfl (en rfl (en rfl (en rfl s35)))))))
    have s48 := (hg 48).trans es
    clear hg
    refine xc_cond s48 (fun hc => by cases hc) (fun _ => ?_)
    refine xc_exit ?_
    refine hK9 _ _ ?_
    refine xc_seq (fun K hK14 => ?_)
    refine xc_region ?_
    refine x_val (r_loadAgg h 1 rfl Try.isAgg26 Try.sizeOf26 s5 (Ok.le (by first | assumption | exact Ok.node (by assumption) | exact ChOk.ok (by assumption))) (ext_full (Ok.size (by first | assumption | exact Ok.node (by assumption) | exact ChOk.ok (by assumption))))) (nd_of rfl) rfl ?_
    refine x_val (r_loadAgg h 0 rfl Try.isAgg26 Try.sizeOf26 (en rfl s7) (Ok.le (by first | assumption | exact Ok.node (by assumption) | exact ChOk.ok (by assumption))) (ext_full (Ok.size (by first | assumption | exact Ok.node (by assumption) | exact ChOk.ok (by assumption))))) (nd_of rfl) rfl ?_
    refine x_val (r_eqCh (r := false) ho hp (en rfl es) es Try.underlying26 Try.underlying24 Try.underlying21 Try.underlying3 (by kernel_rfl) (by kernel_rfl) (by kernel_rfl) (by kernel_rfl) rfl rfl (by decide) (by decide) (by kernel_rfl) (by kernel_rfl) (decide_eq_false hne)) (nd_of rfl) rfl ?_
    refine x_val (r_move (en rfl (en rfl (en rfl s9)))) (nd_of rfl) rfl ?_
    refine x_val (r_eqb (r := true) Try.underlying4 (en rfl es) es rfl) (nd_of rfl) rfl ?_
    refine x_val (r_move es) (nd_of rfl) rfl ?_
    refine x_take (d := 65) rfl rfl es ?_
    refine x_enter (r_call Try.call9 .nil) (nd_of rfl) rfl (known_ok h) ?_
    rintro _ w ⟨rfl, h⟩
    refine x_val (r_pick_t (en rfl es) es) (nd_of rfl) rfl ?_
    refine x_val (r_assign es) (nd_of rfl) rfl ?_
    refine xw_nil ?_
    refine hK14 _ _ ?_
    refine xc_gen (fun g hg => ?_)
    have s0 := (hg 0).trans (en rfl (en rfl (en rfl (en rfl (en rfl (en rfl (en rfl (en rfl (en rfl s0)))))))))
    have s1 := (hg 1).trans (en rfl (en rfl (en rfl (en rfl (en rfl (en rfl (en rfl (en rfl (en rfl s1)))))))))
    have s4 := (hg 4).trans es
    have s5 := (hg 5).trans (en rfl (en rfl (en rfl (en rfl (en rfl (en rfl (en rfl (en rfl (en rfl s5)))))))))
    have s6 := (hg 6).trans (en rfl (en rfl (en rfl (en rfl (en rfl (en rfl (en rfl (en rfl (en rfl s6)))))))))
    have s7 := (hg 7).trans (en rfl (en rfl (en rfl (en rfl (en rfl (en rfl (en rfl (en rfl (en rfl s7)))))))))
    have s8 := (hg 8).trans (en rfl (en rfl (en rfl (en rfl (en rfl (en rfl (en rfl (en rfl (en rfl s8)))))))))
    have s9 := (hg 9).trans (en rfl (en rfl (en rfl (en rfl (en rfl (en rfl (en rfl (en rfl (en rfl s9)))))))))
    have s10 := (hg 10).trans (en rfl (en rfl (en rfl (en rfl (en rfl (en rfl (en rfl (en rfl (en rfl s10)))))))))
    have s18 := (hg 18).trans (en rfl (en rfl (en rfl (en rfl (en rfl (en rfl (en rfl (en rfl (en rfl s18)))))))))
    have s35 := (hg 35).trans (en rfl (en rfl (en rfl (en rfl (en rfl (en rfl (en rfl (en rfl (en rfl s35)))))))))
    have s48 := (hg 48).trans (en rfl (en rfl (en rfl (en rfl (en rfl (en rfl (en rfl (en rfl (en rfl s48)))))))))
    clear hg
    refine xc_ret ?_
    refine bodyR_1 rfl s4 ?_
    exact ⟨rfl, h.drop.drop⟩
  ·
    skip
    refine xc_seq (fun K hK15 => ?_)
    refine xc_seq (fun K hK16 => ?_)
    have hal := hal.1 rfl
    refine xc_region ?_
    refine x_val (r_move s9) (nd_of rfl) rfl ?_
    refine x_val (r_move es) (nd_of rfl) rfl ?_
    refine x_take (d := 43) rfl rfl es ?_
    refine x_val (r_move (en rfl (en rfl s10))) (nd_of rfl) rfl ?_
    refine x_take (d := 43) rfl rfl (en rfl es) ?_
    refine x_val (r_move (en rfl (en rfl (en rfl s0)))) (nd_of rfl) rfl ?_
    refine x_take (d := 43) rfl rfl (en rfl (en rfl es)) ?_
    refine x_val (r_len Try.underlying22 es) (nd_of rfl) rfl ?_
    refine x_take (d := 43) rfl rfl (en rfl (en rfl (en rfl es))) ?_
    refine x_val (r_lss (en rfl (en rfl es)) es rfl) (nd_of rfl) rfl ?_
    refine x_val (r_pick_t (en rfl (en rfl (en rfl (en rfl es)))) es) (nd_of rfl) rfl ?_
    refine xw_nil ?_
    refine hK16 _ _ ?_
    refine xc_gen (fun g hg => ?_)
    have s0 := (hg 0).trans (en rfl (en rfl (en rfl (en rfl (en rfl (en rfl (en rfl s0)))))))
    have s1 := (hg 1).trans (en rfl (en rfl (en rfl (en rfl (en rfl (en rfl (en rfl s1)))))))
    have s4 := (hg 4).trans (en rfl (en rfl (en rfl (en rfl (en rfl (en rfl (en rfl s4)))))))
    have s5 := (hg 5).trans (en rfl (en rfl (en rfl (en rfl (en rfl (en rfl (en rfl s5)))))))
    have s6 := (hg 6).trans (en rfl (en rfl (en rfl (en rfl (en rfl (en rfl (en rfl s6)))))))
    have s7 := (hg 7).trans (en rfl (en rfl (en rfl (en rfl (en rfl (en rfl (en rfl s7)))))))
    have s8 := (hg 8).trans (en rfl (en rfl (en rfl (en rfl (en rfl (en rfl (en rfl s8)))))))
    have s9 := (hg 9).trans (en rfl (en rfl (en rfl (en rfl (en rfl (en rfl (en rfl s9)))))))
    have s10 := (hg 10).trans (en rfl (en rfl (en rfl (en rfl (en rfl (en rfl (en rfl s10)))))))
    have s18 := (hg 18).trans (en rfl (en rfl (en rfl (en rfl (en rfl (en rfl (en rfl s18)))))))
    have s35 := (hg 35).trans (en rfl (en rfl (en rfl (en rfl (en rfl (en rfl (en rfl s35)))))))
    have s48 := (hg 48).trans es
    clear hg
    refine xc_cond s48 (fun hc => ?_) (fun hc => ?_)
    ·
      refine xc_skip ?_
      refine hK15 _ _ ?_
      refine xc_seq (fun K hK17 => ?_)
      refine xc_block ?_
      have hil : i < zs.length := by have := of_decide_eq_true hc; omega
      obtain ⟨r1, hr1⟩ : ∃ r, zs[i]? = some r := ⟨_, List.getElem?_eq_getElem hil⟩
      obtain ⟨r2, hr2⟩ : ∃ r, ys[i]? = some r := ⟨_, List.getElem?_eq_getElem (by omega)⟩
      obtain ⟨a', rfl, _⟩ := hv.get h.drop.drop hr1
      obtain ⟨a2', rfl, _⟩ := hu.get h.drop.drop hr2
      refine xc_plan 10 [(0, 2), (1, 2), (2, 2), (3, 1), (4, 2), (5, 2), (6, 2), (7, 1), (8, 2), (9, 2)] (by kernel_rfl) rfl (by kernel_rfl) h ?_
      have h := h.drew
      refine xp_read (i := 0) rfl (fun W => r_move s0) rfl (fun _ _ _ hh => by first | exact bodyR_np hh | exact hh) ?_
      refine xp_read (i := 1) rfl (fun W => r_move (en rfl s10)) rfl (fun _ _ _ hh => by first | exact bodyR_np hh | exact hh) ?_
      refine xp_read (i := 2) rfl (fun W => r_index1 Try.underlying22 Try.sizeOf21 (en rfl es) es hil) rfl (fun _ _ _ hh => by first | exact bodyR_np hh | exact hh) ?_
      refine xp_load (i := 3) rfl (fun W hW => r_loadCell Try.isAgg21 es (by obtain ⟨b1, e1, c1⟩ := hv.get hW.drop.drop hr1; cases e1; exact c1)) rfl (fun _ _ _ hh => by first | exact bodyR_np hh | exact hh) ?_
      refine xp_read (i := 4) rfl (fun W => r_move (en rfl (en rfl (en rfl (en rfl s1))))) rfl (fun _ _ _ hh => by first | exact bodyR_np hh | exact hh) ?_
      refine xp_read (i := 5) rfl (fun W => r_move (en rfl (en rfl (en rfl (en rfl (en rfl s10)))))) rfl (fun _ _ _ hh => by first | exact bodyR_np hh | exact hh) ?_
      refine xp_read (i := 6) rfl (fun W => r_index1 Try.underlying22 Try.sizeOf21 (en rfl es) es (by omega)) rfl (fun _ _ _ hh => by first | exact bodyR_np hh | exact hh) ?_
      refine xp_load (i := 7) rfl (fun W hW => r_loadCell Try.isAgg21 es (by obtain ⟨b1, e1, c1⟩ := hu.get hW.drop.drop hr2; cases e1; exact c1)) rfl (fun _ _ _ hh => by first | exact bodyR_np hh | exact hh) ?_
      refine xp_read (i := 8) rfl (fun W => r_eql (en rfl (en rfl (en rfl (en rfl es)))) es rfl) rfl (fun _ _ _ hh => by first | exact bodyR_np hh | exact hh) ?_
      refine xp_read (i := 9) rfl (fun W => r_assign es) rfl (fun _ _ _ hh => by first | exact bodyR_np hh | exact hh) ?_
      refine xp_nil ?_
      refine hK17 _ _ ?_
      refine xc_gen (fun g hg => ?_)
      have s0 := (hg 0).trans (en rfl (en rfl (en rfl (en rfl (en rfl (en rfl (en rfl (en rfl (en rfl (en rfl s0))))))))))
      have s1 := (hg 1).trans (en rfl (en rfl (en rfl (en rfl (en rfl (en rfl (en rfl (en rfl (en rfl (en rfl s1))))))))))
      have s4 := (hg 4).trans (en rfl (en rfl (en rfl (en rfl (en rfl (en rfl (en rfl (en rfl (en rfl (en rfl s4))))))))))
      have s5 := (hg 5).trans (en rfl (en rfl (en rfl (en rfl (en rfl (en rfl (en rfl (en rfl (en rfl (en rfl s5))))))))))
      have s6 := (hg 6).trans (en rfl (en rfl (en rfl (en rfl (en rfl (en rfl (en rfl (en rfl (en rfl (en rfl s6))))))))))
      have s7 := (hg 7).trans (en rfl (en rfl (en rfl (en rfl (en rfl (en rfl (en rfl (en rfl (en rfl (en rfl s7))))))))))
      have s8 := (hg 8).trans (en rfl (en rfl (en rfl (en rfl (en rfl (en rfl (en rfl (en rfl (en rfl (en rfl s8))))))))))
      have s9 := (hg 9).trans es
      have s10 := (hg 10).trans (en rfl (en rfl (en rfl (en rfl (en rfl (en rfl (en rfl (en rfl (en rfl (en rfl s10))))))))))
      have s18 := (hg 18).trans (en rfl (en rfl (en rfl (en rfl (en rfl (en rfl (en rfl (en rfl (en rfl (en rfl s18))))))))))
      have s35 := (hg 35).trans (en rfl (en rfl (en rfl (en rfl (en rfl (en rfl (en rfl (en rfl (en rfl (en rfl s35))))))))))
      have s48 := (hg 48).trans (en rfl (en rfl (en rfl (en rfl (en rfl (en rfl (en rfl (en rfl (en rfl (en rfl s48))))))))))
      clear hg
      refine xc_region ?_
      refine x_val (r_move s10) (nd_of rfl) rfl ?_
      refine x_val (r_add es ec (show _ = (((i + 1 : Nat) : Int) : Int) from by omega) (by unfold I64; omega)) (nd_of rfl) rfl ?_
      refine x_val (r_assign es) (nd_of rfl) rfl ?_
      refine xw_nil ?_
      exact ⟨zs.length - (i + 1), by omega, ⟨i + 1, decide (r1 = r2), rfl, by omega, by rw [take_step hr1 hr2, decide_eq_true_iff]; exact ⟨fun e => ⟨hal.1, hal.2, e⟩, fun e => e.2.2⟩, (en rfl (en rfl (en rfl s9))), es, h⟩, ⟨((en rfl (en rfl (en rfl s0)))).trans z0.symm, ((en rfl (en rfl (en rfl s1)))).trans z1.symm, ((en rfl (en rfl (en rfl s4)))).trans z4.symm, ((en rfl (en rfl (en rfl s5)))).trans z5.symm, ((en rfl (en rfl (en rfl s6)))).trans z6.symm, ((en rfl (en rfl (en rfl s7)))).trans z7.symm, ((en rfl (en rfl (en rfl s8)))).trans z8.symm, ((en rfl (en rfl (en rfl s18)))).trans z18.symm, ((en rfl (en rfl (en rfl s35)))).trans z35.symm⟩⟩
    ·
      refine xc_exit ?_
      refine hK9 _ _ ?_
      refine xc_seq (fun K hK18 => ?_)
      have hil : i = zs.length := by have := of_decide_eq_false hc; omega
      have heq : zs = ys := by have h2 := hal.2; rwa [hil, List.take_length, List.take_of_length_le (by omega)] at h2
      refine xc_region ?_
      refine x_val (r_loadAgg h 1 rfl Try.isAgg26 Try.sizeOf26 s5 (Ok.le (by first | assumption | exact Ok.node (by assumption) | exact ChOk.ok (by assumption))) (ext_full (Ok.size (by first | assumption | exact Ok.node (by assumption) | exact ChOk.ok (by assumption))))) (nd_of rfl) rfl ?_
      refine x_val (r_loadAgg h 0 rfl Try.isAgg26 Try.sizeOf26 (en rfl s7) (Ok.le (by first | assumption | exact Ok.node (by assumption) | exact ChOk.ok (by assumption))) (ext_full (Ok.size (by first | assumption | exact Ok.node (by assumption) | exact ChOk.ok (by assumption))))) (nd_of rfl) rfl ?_
      refine x_val (r_eqCh (r := true) ho hp (en rfl es) es Try.underlying26 Try.underlying24 Try.underlying21 Try.underlying3 (by kernel_rfl) (by kernel_rfl) (by kernel_rfl) (by kernel_rfl) rfl rfl (by decide) (by decide) (by kernel_rfl) (by kernel_rfl) (decide_eq_true heq)) (nd_of rfl) rfl ?_
      refine x_val (r_move (en rfl (en rfl (en rfl s9)))) (nd_of rfl) rfl ?_
      refine x_val (r_eqb (r := true) Try.underlying4 (en rfl es) es rfl) (nd_of rfl) rfl ?_
      refine x_val (r_move es) (nd_of rfl) rfl ?_
      refine x_take (d := 65) rfl rfl es ?_
      refine x_enter (r_call Try.call9 .nil) (nd_of rfl) rfl (known_ok h) ?_
      rintro _ w ⟨rfl, h⟩
      refine x_val (r_pick_t (en rfl es) es) (nd_of rfl) rfl ?_
      refine x_val (r_assign es) (nd_of rfl) rfl ?_
      refine xw_nil ?_
      refine hK18 _ _ ?_
      refine xc_gen (fun g hg => ?_)
      have s0 := (hg 0).trans (en rfl (en rfl (en rfl (en rfl (en rfl (en rfl (en rfl (en rfl (en rfl s0)))))))))
      have s1 := (hg 1).trans (en rfl (en rfl (en rfl (en rfl (en rfl (en rfl (en rfl (en rfl (en rfl s1)))))))))
      have s4 := (hg 4).trans es
      have s5 := (hg 5).trans (en rfl (en rfl (en rfl (en rfl (en rfl (en rfl (en rfl (en rfl (en rfl s5)))))))))
      have s6 := (hg 6).trans (en rfl (en rfl (en rfl (en rfl (en rfl (en rfl (en rfl (en rfl (en rfl s6)))))))))
      have s7 := (hg 7).trans (en rfl (en rfl (en rfl (en rfl (en rfl (en rfl (en rfl (en rfl (en rfl s7)))))))))
      have s8 := (hg 8).trans (en rfl (en rfl (en rfl (en rfl (en rfl (en rfl (en rfl (en rfl (en rfl s8)))))))))
      have s9 := (hg 9).trans (en rfl (en rfl (en rfl (en rfl (en rfl (en rfl (en rfl (en rfl (en rfl s9)))))))))
      have s10 := (hg 10).trans (en rfl (en rfl (en rfl (en rfl (en rfl (en rfl (en rfl (en rfl (en rfl s10)))))))))
      have s18 := (hg 18).trans (en rfl (en rfl (en rfl (en rfl (en rfl (en rfl (en rfl (en rfl (en rfl s18)))))))))
      have s35 := (hg 35).trans (en rfl (en rfl (en rfl (en rfl (en rfl (en rfl (en rfl (en rfl (en rfl s35)))))))))
      have s48 := (hg 48).trans (en rfl (en rfl (en rfl (en rfl (en rfl (en rfl (en rfl (en rfl (en rfl s48)))))))))
      clear hg
      refine xc_ret ?_
      refine bodyR_1 rfl s4 ?_
      exact ⟨rfl, h.drop.drop⟩
theorem same_all (hv : Reads E R v .i32 zs) (hu : Reads E R u .i32 ys) (h : SatL E w R) : Calls Try.prog 3 #[v, u] w (Ret fun u w' => u = .bool true ∧ SatL E w' R) := by
  by_cases h1 : 1000 < zs.length
  · exact same_big hv h1 h
  by_cases h2 : 1000 < ys.length
  · exact same_big2 hv hu (by omega) h2 h
  by_cases ho : ChOk zs
  · by_cases hp : ChOk ys
    · exact same_ok hv hu ho hp h
    · exact same_not2 hv hu (by omega) (by omega) ho hp h
  · exact same_not hv hu (by omega) (by omega) ho h
end
end Go.Proofs.Ytimieinmphhmmaa
