/-
ChunkBack and ChunkJoins: the walks.
-/
import Derived.Test.YtimieinmphhmmaaH4
import Derived.Test.YtimieinmphhmmaaH5
namespace Go.Proofs.Ytimieinmphhmmaa
open Go Go.RowKit
section
variable {E : Env} {R L : List SProp} {w : World} {l zs ys xs : List Int} {v u t : Value} {r : Int}
theorem split_any {i : Int} (ho : ChOk l) (h : SatL E w R) : Calls Try.prog 19 #[.agg (chC l), .int .i64 i] w (Ret fun u w' => (∃ (e : Int) (l1 l2 : List Int), ChOk l1 ∧ ChOk l2 ∧ u = .tuple #[.agg (chC l1), .agg (chC l2), .int .i64 e]) ∧ SatL E w' R) := by
  by_cases h0 : i < 0
  · exact (split_neg h0 h).mono fun e w' he => by
      obtain ⟨u, rfl, rfl, h⟩ := Ret.out he
      exact ⟨⟨5, [], [], chOk_nil, chOk_nil, rfl⟩, h⟩
  by_cases h1 : (l.length : Int) < i
  · exact (split_far ho h1 h).mono fun e w' he => by
      obtain ⟨u, rfl, rfl, h⟩ := Ret.out he
      exact ⟨⟨5, [], [], chOk_nil, chOk_nil, rfl⟩, h⟩
  obtain ⟨i, rfl⟩ := Int.eq_ofNat_of_zero_le (by omega : 0 ≤ i)
  exact (split_ok ho (by omega) h).mono fun e w' he => by
    obtain ⟨u, rfl, rfl, h⟩ := Ret.out he
    exact ⟨⟨0, l.take i, l.drop i, ho.take i, ho.drop i, rfl⟩, h⟩
theorem split_no {i : Int} (ho : ChOk l) (hi : i < 0 ∨ (l.length : Int) < i) (h : SatL E w R) : Calls Try.prog 19 #[.agg (chC l), .int .i64 i] w (Ret fun u w' => u = .tuple #[.agg (chC []), .agg (chC []), .int .i64 5] ∧ SatL E w' R) :=
  hi.elim (fun h0 => split_neg h0 h) (fun h1 => split_far ho h1 h)

theorem back_big {i : Int} (hv : Reads E R v .i32 zs) (hb : 1000 < zs.length) (h : SatL E w R) : Calls Try.prog 6 #[v, .int .i64 i] w (Ret fun u w' => u = .bool true ∧ SatL E w' R) := by
  obtain ⟨a, cap, rfl, _, _⟩ := hv.slice h
  refine calls_x Try.func6 rfl Try.ntmps6 rfl ?_
  refine xc_gen (fun g hg => ?_)
  have s0 := (hg 0).trans arg0
  have s1 := (hg 1).trans arg1
  clear hg
  refine xc_seq (fun K hK1 => ?_)
  refine xc_region ?_
  refine x_val (r_assign ec) (nd_of rfl) rfl ?_
  refine xw_nil ?_
  refine hK1 _ _ ?_
  refine xc_gen (fun g hg => ?_)
  have s0 := (hg 0).trans (en rfl s0)
  have s1 := (hg 1).trans (en rfl s1)
  have s4 := (hg 4).trans es
  clear hg
  refine xc_seq (fun K hK2 => ?_)
  refine xc_seq (fun K hK3 => ?_)
  refine xc_region ?_
  refine x_val (r_move s0) (nd_of rfl) rfl ?_
  refine x_val (r_len Try.underlying22 es) (nd_of rfl) rfl ?_
  refine x_val (r_gtr es ec (decide_eq_true (by omega))) (nd_of rfl) rfl ?_
  refine xw_nil ?_
  refine hK3 _ _ ?_
  refine xc_gen (fun g hg => ?_)
  have s0 := (hg 0).trans (en rfl (en rfl (en rfl s0)))
  have s1 := (hg 1).trans (en rfl (en rfl (en rfl s1)))
  have s4 := (hg 4).trans (en rfl (en rfl (en rfl s4)))
  have s14 := (hg 14).trans es
  clear hg
  refine xc_cond s14 (fun _ => ?_) (fun hc => by cases hc)
  refine xc_seq (fun K hK4 => ?_)
  refine xc_region ?_
  refine x_enter (r_call Try.call9 .nil) (nd_of rfl) rfl (known_ok h) ?_
  rintro _ w ⟨rfl, h⟩
  refine x_val (r_assign es) (nd_of rfl) rfl ?_
  refine xw_nil ?_
  refine hK4 _ _ ?_
  refine xc_gen (fun g hg => ?_)
  have s0 := (hg 0).trans (en rfl (en rfl s0))
  have s1 := (hg 1).trans (en rfl (en rfl s1))
  have s4 := (hg 4).trans es
  have s14 := (hg 14).trans (en rfl (en rfl s14))
  clear hg
  refine xc_ret ?_
  refine bodyR_1 rfl s4 ?_
  exact ⟨rfl, h⟩
theorem back_not {i : Int} (hv : Reads E R v .i32 zs) (hz : zs.length ≤ 1000) (hn : ¬ ChOk zs) (h : SatL E w R) : Calls Try.prog 6 #[v, .int .i64 i] w (Ret fun u w' => u = .bool true ∧ SatL E w' R) := by
  obtain ⟨a, cap, rfl, _, _⟩ := hv.slice h
  have hnil := chOk_nil
  refine calls_x Try.func6 rfl Try.ntmps6 rfl ?_
  refine xc_gen (fun g hg => ?_)
  have s0 := (hg 0).trans arg0
  have s1 := (hg 1).trans arg1
  clear hg
  refine xc_seq (fun K hK1 => ?_)
  refine xc_region ?_
  refine x_val (r_assign ec) (nd_of rfl) rfl ?_
  refine xw_nil ?_
  refine hK1 _ _ ?_
  refine xc_gen (fun g hg => ?_)
  have s0 := (hg 0).trans (en rfl s0)
  have s1 := (hg 1).trans (en rfl s1)
  have s4 := (hg 4).trans es
  clear hg
  refine xc_seq (fun K hK2 => ?_)
  refine xc_seq (fun K hK3 => ?_)
  refine xc_region ?_
  refine x_val (r_move s0) (nd_of rfl) rfl ?_
  refine x_val (r_len Try.underlying22 es) (nd_of rfl) rfl ?_
  refine x_val (r_gtr es ec (decide_eq_false (by omega))) (nd_of rfl) rfl ?_
  refine xw_nil ?_
  refine hK3 _ _ ?_
  refine xc_gen (fun g hg => ?_)
  have s0 := (hg 0).trans (en rfl (en rfl (en rfl s0)))
  have s1 := (hg 1).trans (en rfl (en rfl (en rfl s1)))
  have s4 := (hg 4).trans (en rfl (en rfl (en rfl s4)))
  have s14 := (hg 14).trans es
  clear hg
  refine xc_cond s14 (fun hc => by cases hc) (fun _ => ?_)
  refine xc_skip ?_
  refine hK2 _ _ ?_
  refine xc_seq (fun K hK4 => ?_)
  refine xc_region ?_
  refine x_val (r_move s0) (nd_of rfl) rfl ?_
  refine x_enter (r_call Try.call10 (.cons es .nil)) (nd_of rfl) rfl (of_not hv hn h) ?_
  rintro _ w ⟨⟨e, he, rfl⟩, h⟩
  refine x_val (r_move es) (nd_of rfl) rfl ?_
  refine x_val (r_extract es gc0) (nd_of rfl) rfl ?_
  refine x_val (r_extract (en rfl es) gc1) (nd_of rfl) rfl ?_
  refine x_declA h Try.zeroValue26 Try.sizeOf26 rfl (en rfl (en rfl es)) (by first | assumption | exact Ok.node (by assumption) | exact ChOk.ok (by assumption)) rfl ?_
  intro b5 w h
  refine x_val (r_assign (en rfl es)) (nd_of rfl) rfl ?_
  refine xw_nil ?_
  refine hK4 _ _ ?_
  refine xc_gen (fun g hg => ?_)
  have s0 := (hg 0).trans (en rfl (en rfl (en rfl (en rfl (en rfl (en rfl (en rfl s0)))))))
  have s1 := (hg 1).trans (en rfl (en rfl (en rfl (en rfl (en rfl (en rfl (en rfl s1)))))))
  have s4 := (hg 4).trans (en rfl (en rfl (en rfl (en rfl (en rfl (en rfl (en rfl s4)))))))
  have s5 := (hg 5).trans (en rfl es)
  have s6 := (hg 6).trans es
  have s14 := (hg 14).trans (en rfl (en rfl (en rfl (en rfl (en rfl (en rfl (en rfl s14)))))))
  clear hg
  refine xc_seq (fun K hK5 => ?_)
  refine xc_region ?_
  refine x_val (r_loadAgg h 0 rfl Try.isAgg26 Try.sizeOf26 s5 (Ok.le (by first | assumption | exact Ok.node (by assumption) | exact ChOk.ok (by assumption))) (ext_full (Ok.size (by first | assumption | exact Ok.node (by assumption) | exact ChOk.ok (by assumption))))) (nd_of rfl) rfl ?_
  refine x_val (r_move (en rfl s1)) (nd_of rfl) rfl ?_
  refine x_enter (r_call Try.call19 (.cons (en rfl es) (.cons es .nil))) (nd_of rfl) rfl (split_any hnil h) ?_
  rintro _ w ⟨⟨e2, l1, l2, hl1, hl2, rfl⟩, h⟩
  refine x_val (r_move es) (nd_of rfl) rfl ?_
  refine x_val (r_extract es gc0) (nd_of rfl) rfl ?_
  refine x_val (r_extract (en rfl es) gc1) (nd_of rfl) rfl ?_
  refine x_val (r_extract (en rfl (en rfl es)) gc2) (nd_of rfl) rfl ?_
  refine x_allocA h zC rfl ?_
  intro b7 w h
  refine x_allocA h zC rfl ?_
  intro b8 w h
  refine x_st (r_storeAgg h 1 rfl Try.sizeOf26 (en rfl es) (en rfl (en rfl (en rfl (en rfl es)))) (Ok.size (by first | assumption | exact Ok.node (by assumption) | exact ChOk.ok (by assumption))) (Ok.one (by first | assumption | exact Ok.node (by assumption) | exact ChOk.ok (by assumption))) (Ok.le (by first | assumption | exact Ok.node (by assumption) | exact ChOk.ok (by assumption)))) rfl (h.r1 (over_full (Ok.size (by first | assumption | exact Ok.node (by assumption) | exact ChOk.ok (by assumption))))) ?_
  intro w h
  refine x_st (r_storeAgg h 0 rfl Try.sizeOf26 es (en rfl (en rfl (en rfl es))) (Ok.size (by first | assumption | exact Ok.node (by assumption) | exact ChOk.ok (by assumption))) (Ok.one (by first | assumption | exact Ok.node (by assumption) | exact ChOk.ok (by assumption))) (Ok.le (by first | assumption | exact Ok.node (by assumption) | exact ChOk.ok (by assumption)))) rfl (h.r0 (over_full (Ok.size (by first | assumption | exact Ok.node (by assumption) | exact ChOk.ok (by assumption))))) ?_
  intro w h
  refine x_val (r_assign (en rfl (en rfl es))) (nd_of rfl) rfl ?_
  refine xw_nil ?_
  refine hK5 _ _ ?_
  refine xc_gen (fun g hg => ?_)
  have s0 := (hg 0).trans (en rfl (en rfl (en rfl (en rfl (en rfl (en rfl (en rfl (en rfl (en rfl (en rfl s0))))))))))
  have s1 := (hg 1).trans (en rfl (en rfl (en rfl (en rfl (en rfl (en rfl (en rfl (en rfl (en rfl (en rfl s1))))))))))
  have s4 := (hg 4).trans (en rfl (en rfl (en rfl (en rfl (en rfl (en rfl (en rfl (en rfl (en rfl (en rfl s4))))))))))
  have s5 := (hg 5).trans (en rfl (en rfl (en rfl (en rfl (en rfl (en rfl (en rfl (en rfl (en rfl (en rfl s5))))))))))
  have s6 := (hg 6).trans (en rfl (en rfl (en rfl (en rfl (en rfl (en rfl (en rfl (en rfl (en rfl (en rfl s6))))))))))
  have s7 := (hg 7).trans (en rfl (en rfl es))
  have s8 := (hg 8).trans (en rfl es)
  have s9 := (hg 9).trans es
  have s14 := (hg 14).trans (en rfl (en rfl (en rfl (en rfl (en rfl (en rfl (en rfl (en rfl (en rfl (en rfl s14))))))))))
  clear hg
  refine xc_seq (fun K hK6 => ?_)
  refine xc_seq (fun K hK7 => ?_)
  refine xc_region ?_
  refine x_val (r_move s6) (nd_of rfl) rfl ?_
  refine x_val (r_neq es ec (decide_eq_true (by omega))) (nd_of rfl) rfl ?_
  refine x_val (r_move es) (nd_of rfl) rfl ?_
  refine x_pass (d := 30) rfl rfl es rfl ?_
  refine x_pass (d := 30) rfl rfl (en rfl es) rfl ?_
  refine x_val (r_pick_t (en rfl (en rfl es)) ec) (nd_of rfl) rfl ?_
  refine xw_nil ?_
  refine hK7 _ _ ?_
  refine xc_gen (fun g hg => ?_)
  have s0 := (hg 0).trans (en rfl (en rfl (en rfl (en rfl (en rfl (en rfl s0))))))
  have s1 := (hg 1).trans (en rfl (en rfl (en rfl (en rfl (en rfl (en rfl s1))))))
  have s4 := (hg 4).trans (en rfl (en rfl (en rfl (en rfl (en rfl (en rfl s4))))))
  have s5 := (hg 5).trans (en rfl (en rfl (en rfl (en rfl (en rfl (en rfl s5))))))
  have s6 := (hg 6).trans (en rfl (en rfl (en rfl (en rfl (en rfl (en rfl s6))))))
  have s7 := (hg 7).trans (en rfl (en rfl (en rfl (en rfl (en rfl (en rfl s7))))))
  have s8 := (hg 8).trans (en rfl (en rfl (en rfl (en rfl (en rfl (en rfl s8))))))
  have s9 := (hg 9).trans (en rfl (en rfl (en rfl (en rfl (en rfl (en rfl s9))))))
  have s14 := (hg 14).trans (en rfl (en rfl (en rfl (en rfl (en rfl (en rfl s14))))))
  have s33 := (hg 33).trans es
  clear hg
  refine xc_cond s33 (fun _ => ?_) (fun hc => by cases hc)
  refine xc_seq (fun K hK8 => ?_)
  refine xc_region ?_
  refine x_enter (r_call Try.call9 .nil) (nd_of rfl) rfl (known_ok h) ?_
  rintro _ w ⟨rfl, h⟩
  refine x_val (r_assign es) (nd_of rfl) rfl ?_
  refine xw_nil ?_
  refine hK8 _ _ ?_
  refine xc_gen (fun g hg => ?_)
  have s0 := (hg 0).trans (en rfl (en rfl s0))
  have s1 := (hg 1).trans (en rfl (en rfl s1))
  have s4 := (hg 4).trans es
  have s5 := (hg 5).trans (en rfl (en rfl s5))
  have s6 := (hg 6).trans (en rfl (en rfl s6))
  have s7 := (hg 7).trans (en rfl (en rfl s7))
  have s8 := (hg 8).trans (en rfl (en rfl s8))
  have s9 := (hg 9).trans (en rfl (en rfl s9))
  have s14 := (hg 14).trans (en rfl (en rfl s14))
  have s33 := (hg 33).trans (en rfl (en rfl s33))
  clear hg
  refine xc_ret ?_
  refine bodyR_1 rfl s4 ?_
  exact ⟨rfl, h.drop.drop.drop⟩
theorem back_out {i : Int} (hv : Reads E R v .i32 zs) (ho : ChOk zs) (hi : i < 0 ∨ (zs.length : Int) < i) (h : SatL E w R) : Calls Try.prog 6 #[v, .int .i64 i] w (Ret fun u w' => u = .bool true ∧ SatL E w' R) := by
  obtain ⟨a, cap, rfl, _, _⟩ := hv.slice h
  have hnil := chOk_nil
  have hz := ho.len
  refine calls_x Try.func6 rfl Try.ntmps6 rfl ?_
  refine xc_gen (fun g hg => ?_)
  have s0 := (hg 0).trans arg0
  have s1 := (hg 1).trans arg1
  clear hg
  refine xc_seq (fun K hK1 => ?_)
  refine xc_region ?_
  refine x_val (r_assign ec) (nd_of rfl) rfl ?_
  refine xw_nil ?_
  refine hK1 _ _ ?_
  refine xc_gen (fun g hg => ?_)
  have s0 := (hg 0).trans (en rfl s0)
  have s1 := (hg 1).trans (en rfl s1)
  have s4 := (hg 4).trans es
  clear hg
  refine xc_seq (fun K hK2 => ?_)
  refine xc_seq (fun K hK3 => ?_)
  refine xc_region ?_
  refine x_val (r_move s0) (nd_of rfl) rfl ?_
  refine x_val (r_len Try.underlying22 es) (nd_of rfl) rfl ?_
  refine x_val (r_gtr es ec (decide_eq_false (by omega))) (nd_of rfl) rfl ?_
  refine xw_nil ?_
  refine hK3 _ _ ?_
  refine xc_gen (fun g hg => ?_)
  have s0 := (hg 0).trans (en rfl (en rfl (en rfl s0)))
  have s1 := (hg 1).trans (en rfl (en rfl (en rfl s1)))
  have s4 := (hg 4).trans (en rfl (en rfl (en rfl s4)))
  have s14 := (hg 14).trans es
  clear hg
  refine xc_cond s14 (fun hc => by cases hc) (fun _ => ?_)
  refine xc_skip ?_
  refine hK2 _ _ ?_
  refine xc_seq (fun K hK4 => ?_)
  refine xc_region ?_
  refine x_val (r_move s0) (nd_of rfl) rfl ?_
  refine x_enter (r_call Try.call10 (.cons es .nil)) (nd_of rfl) rfl (of_ok hv ho h) ?_
  rintro _ w ⟨rfl, h⟩
  refine x_val (r_move es) (nd_of rfl) rfl ?_
  refine x_val (r_extract es gc0) (nd_of rfl) rfl ?_
  refine x_val (r_extract (en rfl es) gc1) (nd_of rfl) rfl ?_
  refine x_declA h Try.zeroValue26 Try.sizeOf26 rfl (en rfl (en rfl es)) (by first | assumption | exact Ok.node (by assumption) | exact ChOk.ok (by assumption)) rfl ?_
  intro b5 w h
  refine x_val (r_assign (en rfl es)) (nd_of rfl) rfl ?_
  refine xw_nil ?_
  refine hK4 _ _ ?_
  refine xc_gen (fun g hg => ?_)
  have s0 := (hg 0).trans (en rfl (en rfl (en rfl (en rfl (en rfl (en rfl (en rfl s0)))))))
  have s1 := (hg 1).trans (en rfl (en rfl (en rfl (en rfl (en rfl (en rfl (en rfl s1)))))))
  have s4 := (hg 4).trans (en rfl (en rfl (en rfl (en rfl (en rfl (en rfl (en rfl s4)))))))
  have s5 := (hg 5).trans (en rfl es)
  have s6 := (hg 6).trans es
  have s14 := (hg 14).trans (en rfl (en rfl (en rfl (en rfl (en rfl (en rfl (en rfl s14)))))))
  clear hg
  refine xc_seq (fun K hK5 => ?_)
  refine xc_region ?_
  refine x_val (r_loadAgg h 0 rfl Try.isAgg26 Try.sizeOf26 s5 (Ok.le (by first | assumption | exact Ok.node (by assumption) | exact ChOk.ok (by assumption))) (ext_full (Ok.size (by first | assumption | exact Ok.node (by assumption) | exact ChOk.ok (by assumption))))) (nd_of rfl) rfl ?_
  refine x_val (r_move (en rfl s1)) (nd_of rfl) rfl ?_
  refine x_enter (r_call Try.call19 (.cons (en rfl es) (.cons es .nil))) (nd_of rfl) rfl (split_no ho hi h) ?_
  rintro _ w ⟨rfl, h⟩
  refine x_val (r_move es) (nd_of rfl) rfl ?_
  refine x_val (r_extract es gc0) (nd_of rfl) rfl ?_
  refine x_val (r_extract (en rfl es) gc1) (nd_of rfl) rfl ?_
  refine x_val (r_extract (en rfl (en rfl es)) gc2) (nd_of rfl) rfl ?_
  refine x_allocA h zC rfl ?_
  intro b7 w h
  refine x_allocA h zC rfl ?_
  intro b8 w h
  refine x_st (r_storeAgg h 1 rfl Try.sizeOf26 (en rfl es) (en rfl (en rfl (en rfl (en rfl es)))) (Ok.size (by first | assumption | exact Ok.node (by assumption) | exact ChOk.ok (by assumption))) (Ok.one (by first | assumption | exact Ok.node (by assumption) | exact ChOk.ok (by assumption))) (Ok.le (by first | assumption | exact Ok.node (by assumption) | exact ChOk.ok (by assumption)))) rfl (h.r1 (over_full (Ok.size (by first | assumption | exact Ok.node (by assumption) | exact ChOk.ok (by assumption))))) ?_
  intro w h
  refine x_st (r_storeAgg h 0 rfl Try.sizeOf26 es (en rfl (en rfl (en rfl es))) (Ok.size (by first | assumption | exact Ok.node (by assumption) | exact ChOk.ok (by assumption))) (Ok.one (by first | assumption | exact Ok.node (by assumption) | exact ChOk.ok (by assumption))) (Ok.le (by first | assumption | exact Ok.node (by assumption) | exact ChOk.ok (by assumption)))) rfl (h.r0 (over_full (Ok.size (by first | assumption | exact Ok.node (by assumption) | exact ChOk.ok (by assumption))))) ?_
  intro w h
  refine x_val (r_assign (en rfl (en rfl es))) (nd_of rfl) rfl ?_
  refine xw_nil ?_
  refine hK5 _ _ ?_
  refine xc_gen (fun g hg => ?_)
  have s0 := (hg 0).trans (en rfl (en rfl (en rfl (en rfl (en rfl (en rfl (en rfl (en rfl (en rfl (en rfl s0))))))))))
  have s1 := (hg 1).trans (en rfl (en rfl (en rfl (en rfl (en rfl (en rfl (en rfl (en rfl (en rfl (en rfl s1))))))))))
  have s4 := (hg 4).trans (en rfl (en rfl (en rfl (en rfl (en rfl (en rfl (en rfl (en rfl (en rfl (en rfl s4))))))))))
  have s5 := (hg 5).trans (en rfl (en rfl (en rfl (en rfl (en rfl (en rfl (en rfl (en rfl (en rfl (en rfl s5))))))))))
  have s6 := (hg 6).trans (en rfl (en rfl (en rfl (en rfl (en rfl (en rfl (en rfl (en rfl (en rfl (en rfl s6))))))))))
  have s7 := (hg 7).trans (en rfl (en rfl es))
  have s8 := (hg 8).trans (en rfl es)
  have s9 := (hg 9).trans es
  have s14 := (hg 14).trans (en rfl (en rfl (en rfl (en rfl (en rfl (en rfl (en rfl (en rfl (en rfl (en rfl s14))))))))))
  clear hg
  refine xc_seq (fun K hK6 => ?_)
  refine xc_seq (fun K hK7 => ?_)
  refine xc_region ?_
  refine x_val (r_move s6) (nd_of rfl) rfl ?_
  refine x_val (r_neq es ec (r := false) rfl) (nd_of rfl) rfl ?_
  refine x_val (r_move es) (nd_of rfl) rfl ?_
  refine x_take (d := 30) rfl rfl es ?_
  refine x_val (r_move (en rfl (en rfl (en rfl s9)))) (nd_of rfl) rfl ?_
  refine x_take (d := 30) rfl rfl (en rfl es) ?_
  refine x_val (r_neq es ec (r := true) rfl) (nd_of rfl) rfl ?_
  refine x_val (r_pick_f (en rfl (en rfl es)) es) (nd_of rfl) rfl ?_
  refine xw_nil ?_
  refine hK7 _ _ ?_
  refine xc_gen (fun g hg => ?_)
  have s0 := (hg 0).trans (en rfl (en rfl (en rfl (en rfl (en rfl (en rfl s0))))))
  have s1 := (hg 1).trans (en rfl (en rfl (en rfl (en rfl (en rfl (en rfl s1))))))
  have s4 := (hg 4).trans (en rfl (en rfl (en rfl (en rfl (en rfl (en rfl s4))))))
  have s5 := (hg 5).trans (en rfl (en rfl (en rfl (en rfl (en rfl (en rfl s5))))))
  have s6 := (hg 6).trans (en rfl (en rfl (en rfl (en rfl (en rfl (en rfl s6))))))
  have s7 := (hg 7).trans (en rfl (en rfl (en rfl (en rfl (en rfl (en rfl s7))))))
  have s8 := (hg 8).trans (en rfl (en rfl (en rfl (en rfl (en rfl (en rfl s8))))))
  have s9 := (hg 9).trans (en rfl (en rfl (en rfl (en rfl (en rfl (en rfl s9))))))
  have s14 := (hg 14).trans (en rfl (en rfl (en rfl (en rfl (en rfl (en rfl s14))))))
  have s33 := (hg 33).trans es
  clear hg
  refine xc_cond s33 (fun _ => ?_) (fun hc => by cases hc)
  refine xc_seq (fun K hK8 => ?_)
  refine xc_region ?_
  refine x_enter (r_call Try.call9 .nil) (nd_of rfl) rfl (known_ok h) ?_
  rintro _ w ⟨rfl, h⟩
  refine x_val (r_assign es) (nd_of rfl) rfl ?_
  refine xw_nil ?_
  refine hK8 _ _ ?_
  refine xc_gen (fun g hg => ?_)
  have s0 := (hg 0).trans (en rfl (en rfl s0))
  have s1 := (hg 1).trans (en rfl (en rfl s1))
  have s4 := (hg 4).trans es
  have s5 := (hg 5).trans (en rfl (en rfl s5))
  have s6 := (hg 6).trans (en rfl (en rfl s6))
  have s7 := (hg 7).trans (en rfl (en rfl s7))
  have s8 := (hg 8).trans (en rfl (en rfl s8))
  have s9 := (hg 9).trans (en rfl (en rfl s9))
  have s14 := (hg 14).trans (en rfl (en rfl s14))
  have s33 := (hg 33).trans (en rfl (en rfl s33))
  clear hg
  refine xc_ret ?_
  refine bodyR_1 rfl s4 ?_
  exact ⟨rfl, h.drop.drop.drop⟩
theorem back_ok {i : Nat} (hv : Reads E R v .i32 zs) (ho : ChOk zs) (hi : i ≤ zs.length) (h : SatL E w R) : Calls Try.prog 6 #[v, .int .i64 (i : Int)] w (Ret fun u w' => u = .bool true ∧ SatL E w' R) := by
  obtain ⟨a, cap, rfl, _, _⟩ := hv.slice h
  have hz := ho.len
  have hnil := chOk_nil
  have h1 := ho.take i
  have h2 := ho.drop i
  have h3 : ChOk (zs.take i ++ zs.drop i) := by rw [List.take_append_drop]; exact ho
  have h4 : (zs.take i).count 10 + (zs.drop i).count 10 = zs.count 10 := by rw [← List.count_append, List.take_append_drop]
  have h5 : zs.count 10 ≤ 32 := Nat.le_trans List.count_le_length hz
  have h6 : (zs.take i).length = i := by rw [List.length_take, Nat.min_eq_left hi]
  refine calls_x Try.func6 rfl Try.ntmps6 rfl ?_
  refine xc_gen (fun g hg => ?_)
  have s0 := (hg 0).trans arg0
  have s1 := (hg 1).trans arg1
  clear hg
  refine xc_seq (fun K hK1 => ?_)
  refine xc_region ?_
  refine x_val (r_assign ec) (nd_of rfl) rfl ?_
  refine xw_nil ?_
  refine hK1 _ _ ?_
  refine xc_gen (fun g hg => ?_)
  have s0 := (hg 0).trans (en rfl s0)
  have s1 := (hg 1).trans (en rfl s1)
  have s4 := (hg 4).trans es
  clear hg
  refine xc_seq (fun K hK2 => ?_)
  refine xc_seq (fun K hK3 => ?_)
  refine xc_region ?_
  refine x_val (r_move s0) (nd_of rfl) rfl ?_
  refine x_val (r_len Try.underlying22 es) (nd_of rfl) rfl ?_
  refine x_val (r_gtr es ec (decide_eq_false (by omega))) (nd_of rfl) rfl ?_
  refine xw_nil ?_
  refine hK3 _ _ ?_
  refine xc_gen (fun g hg => ?_)
  have s0 := (hg 0).trans (en rfl (en rfl (en rfl s0)))
  have s1 := (hg 1).trans (en rfl (en rfl (en rfl s1)))
  have s4 := (hg 4).trans (en rfl (en rfl (en rfl s4)))
  have s14 := (hg 14).trans es
  clear hg
  refine xc_cond s14 (fun hc => by cases hc) (fun _ => ?_)
  refine xc_skip ?_
  refine hK2 _ _ ?_
  refine xc_seq (fun K hK4 => ?_)
  refine xc_region ?_
  refine x_val (r_move s0) (nd_of rfl) rfl ?_
  refine x_enter (r_call Try.call10 (.cons es .nil)) (nd_of rfl) rfl (of_ok hv ho h) ?_
  rintro _ w ⟨rfl, h⟩
  refine x_val (r_move es) (nd_of rfl) rfl ?_
  refine x_val (r_extract es gc0) (nd_of rfl) rfl ?_
  refine x_val (r_extract (en rfl es) gc1) (nd_of rfl) rfl ?_
  refine x_declA h Try.zeroValue26 Try.sizeOf26 rfl (en rfl (en rfl es)) (by first | assumption | exact Ok.node (by assumption) | exact ChOk.ok (by assumption)) rfl ?_
  intro b5 w h
  refine x_val (r_assign (en rfl es)) (nd_of rfl) rfl ?_
  refine xw_nil ?_
  refine hK4 _ _ ?_
  refine xc_gen (fun g hg => ?_)
  have s0 := (hg 0).trans (en rfl (en rfl (en rfl (en rfl (en rfl (en rfl (en rfl s0)))))))
  have s1 := (hg 1).trans (en rfl (en rfl (en rfl (en rfl (en rfl (en rfl (en rfl s1)))))))
  have s4 := (hg 4).trans (en rfl (en rfl (en rfl (en rfl (en rfl (en rfl (en rfl s4)))))))
  have s5 := (hg 5).trans (en rfl es)
  have s6 := (hg 6).trans es
  have s14 := (hg 14).trans (en rfl (en rfl (en rfl (en rfl (en rfl (en rfl (en rfl s14)))))))
  clear hg
  refine xc_seq (fun K hK5 => ?_)
  refine xc_region ?_
  refine x_val (r_loadAgg h 0 rfl Try.isAgg26 Try.sizeOf26 s5 (Ok.le (by first | assumption | exact Ok.node (by assumption) | exact ChOk.ok (by assumption))) (ext_full (Ok.size (by first | assumption | exact Ok.node (by assumption) | exact ChOk.ok (by assumption))))) (nd_of rfl) rfl ?_
  refine x_val (r_move (en rfl s1)) (nd_of rfl) rfl ?_
  refine x_enter (r_call Try.call19 (.cons (en rfl es) (.cons es .nil))) (nd_of rfl) rfl (split_ok ho hi h) ?_
  rintro _ w ⟨rfl, h⟩
  refine x_val (r_move es) (nd_of rfl) rfl ?_
  refine x_val (r_extract es gc0) (nd_of rfl) rfl ?_
  refine x_val (r_extract (en rfl es) gc1) (nd_of rfl) rfl ?_
  refine x_val (r_extract (en rfl (en rfl es)) gc2) (nd_of rfl) rfl ?_
  refine x_allocA h zC rfl ?_
  intro b7 w h
  refine x_allocA h zC rfl ?_
  intro b8 w h
  refine x_st (r_storeAgg h 1 rfl Try.sizeOf26 (en rfl es) (en rfl (en rfl (en rfl (en rfl es)))) (Ok.size (by first | assumption | exact Ok.node (by assumption) | exact ChOk.ok (by assumption))) (Ok.one (by first | assumption | exact Ok.node (by assumption) | exact ChOk.ok (by assumption))) (Ok.le (by first | assumption | exact Ok.node (by assumption) | exact ChOk.ok (by assumption)))) rfl (h.r1 (over_full (Ok.size (by first | assumption | exact Ok.node (by assumption) | exact ChOk.ok (by assumption))))) ?_
  intro w h
  refine x_st (r_storeAgg h 0 rfl Try.sizeOf26 es (en rfl (en rfl (en rfl es))) (Ok.size (by first | assumption | exact Ok.node (by assumption) | exact ChOk.ok (by assumption))) (Ok.one (by first | assumption | exact Ok.node (by assumption) | exact ChOk.ok (by assumption))) (Ok.le (by first | assumption | exact Ok.node (by assumption) | exact ChOk.ok (by assumption)))) rfl (h.r0 (over_full (Ok.size (by first | assumption | exact Ok.node (by assumption) | exact ChOk.ok (by assumption))))) ?_
  intro w h
  refine x_val (r_assign (en rfl (en rfl es))) (nd_of rfl) rfl ?_
  refine xw_nil ?_
  refine hK5 _ _ ?_
  refine xc_gen (fun g hg => ?_)
  have s0 := (hg 0).trans (en rfl (en rfl (en rfl (en rfl (en rfl (en rfl (en rfl (en rfl (en rfl (en rfl s0))))))))))
  have s1 := (hg 1).trans (en rfl (en rfl (en rfl (en rfl (en rfl (en rfl (en rfl (en rfl (en rfl (en rfl s1))))))))))
  have s4 := (hg 4).trans (en rfl (en rfl (en rfl (en rfl (en rfl (en rfl (en rfl (en rfl (en rfl (en rfl s4))))))))))
  have s5 := (hg 5).trans (en rfl (en rfl (en rfl (en rfl (en rfl (en rfl (en rfl (en rfl (en rfl (en rfl s5))))))))))
  have s6 := (hg 6).trans (en rfl (en rfl (en rfl (en rfl (en rfl (en rfl (en rfl (en rfl (en rfl (en rfl s6))))))))))
  have s7 := (hg 7).trans (en rfl (en rfl es))
  have s8 := (hg 8).trans (en rfl es)
  have s9 := (hg 9).trans es
  have s14 := (hg 14).trans (en rfl (en rfl (en rfl (en rfl (en rfl (en rfl (en rfl (en rfl (en rfl (en rfl s14))))))))))
  clear hg
  refine xc_seq (fun K hK6 => ?_)
  refine xc_seq (fun K hK7 => ?_)
  refine xc_region ?_
  refine x_val (r_move s6) (nd_of rfl) rfl ?_
  refine x_val (r_neq es ec (r := false) rfl) (nd_of rfl) rfl ?_
  refine x_val (r_move es) (nd_of rfl) rfl ?_
  refine x_take (d := 30) rfl rfl es ?_
  refine x_val (r_move (en rfl (en rfl (en rfl s9)))) (nd_of rfl) rfl ?_
  refine x_take (d := 30) rfl rfl (en rfl es) ?_
  refine x_val (r_neq es ec (r := false) rfl) (nd_of rfl) rfl ?_
  refine x_val (r_pick_f (en rfl (en rfl es)) es) (nd_of rfl) rfl ?_
  refine xw_nil ?_
  refine hK7 _ _ ?_
  refine xc_gen (fun g hg => ?_)
  have s0 := (hg 0).trans (en rfl (en rfl (en rfl (en rfl (en rfl (en rfl s0))))))
  have s1 := (hg 1).trans (en rfl (en rfl (en rfl (en rfl (en rfl (en rfl s1))))))
  have s4 := (hg 4).trans (en rfl (en rfl (en rfl (en rfl (en rfl (en rfl s4))))))
  have s5 := (hg 5).trans (en rfl (en rfl (en rfl (en rfl (en rfl (en rfl s5))))))
  have s6 := (hg 6).trans (en rfl (en rfl (en rfl (en rfl (en rfl (en rfl s6))))))
  have s7 := (hg 7).trans (en rfl (en rfl (en rfl (en rfl (en rfl (en rfl s7))))))
  have s8 := (hg 8).trans (en rfl (en rfl (en rfl (en rfl (en rfl (en rfl s8))))))
  have s9 := (hg 9).trans (en rfl (en rfl (en rfl (en rfl (en rfl (en rfl s9))))))
  have s14 := (hg 14).trans (en rfl (en rfl (en rfl (en rfl (en rfl (en rfl s14))))))
  have s33 := (hg 33).trans es
  clear hg
  refine xc_cond s33 (fun hc => by cases hc) (fun _ => ?_)
  refine xc_skip ?_
  refine hK6 _ _ ?_
  refine xc_seq (fun K hK8 => ?_)
  refine xc_region ?_
  refine x_val (r_loadAgg h 1 rfl Try.isAgg26 Try.sizeOf26 s7 (Ok.le (by first | assumption | exact Ok.node (by assumption) | exact ChOk.ok (by assumption))) (ext_full (Ok.size (by first | assumption | exact Ok.node (by assumption) | exact ChOk.ok (by assumption))))) (nd_of rfl) rfl ?_
  refine x_val (r_loadAgg h 0 rfl Try.isAgg26 Try.sizeOf26 (en rfl s8) (Ok.le (by first | assumption | exact Ok.node (by assumption) | exact ChOk.ok (by assumption))) (ext_full (Ok.size (by first | assumption | exact Ok.node (by assumption) | exact ChOk.ok (by assumption))))) (nd_of rfl) rfl ?_
  refine x_enter (r_call Try.call20 (.cons (en rfl es) (.cons es .nil))) (nd_of rfl) rfl (join_ok h1 h2 (by simp; omega) h) ?_
  rintro _ w ⟨rfl, h⟩
  refine x_val (r_move es) (nd_of rfl) rfl ?_
  refine x_val (r_extract es gc0) (nd_of rfl) rfl ?_
  refine x_val (r_extract (en rfl es) gc1) (nd_of rfl) rfl ?_
  refine x_declA h Try.zeroValue26 Try.sizeOf26 rfl (en rfl (en rfl es)) (by first | assumption | exact Ok.node (by assumption) | exact ChOk.ok (by assumption)) rfl ?_
  intro b10 w h
  refine x_val (r_assign (en rfl es)) (nd_of rfl) rfl ?_
  refine xw_nil ?_
  refine hK8 _ _ ?_
  refine xc_gen (fun g hg => ?_)
  have s0 := (hg 0).trans (en rfl (en rfl (en rfl (en rfl (en rfl (en rfl (en rfl (en rfl s0))))))))
  have s1 := (hg 1).trans (en rfl (en rfl (en rfl (en rfl (en rfl (en rfl (en rfl (en rfl s1))))))))
  have s4 := (hg 4).trans (en rfl (en rfl (en rfl (en rfl (en rfl (en rfl (en rfl (en rfl s4))))))))
  have s5 := (hg 5).trans (en rfl (en rfl (en rfl (en rfl (en rfl (en rfl (en rfl (en rfl s5))))))))
  have s6 := (hg 6).trans (en rfl (en rfl (en rfl (en rfl (en rfl (en rfl (en rfl (en rfl s6))))))))
  have s7 := (hg 7).trans (en rfl (en rfl (en rfl (en rfl (en rfl (en rfl (en rfl (en rfl s7))))))))
  have s8 := (hg 8).trans (en rfl (en rfl (en rfl (en rfl (en rfl (en rfl (en rfl (en rfl s8))))))))
  have s9 := (hg 9).trans (en rfl (en rfl (en rfl (en rfl (en rfl (en rfl (en rfl (en rfl s9))))))))
  have s10 := (hg 10).trans (en rfl es)
  have s11 := (hg 11).trans es
  have s14 := (hg 14).trans (en rfl (en rfl (en rfl (en rfl (en rfl (en rfl (en rfl (en rfl s14))))))))
  have s33 := (hg 33).trans (en rfl (en rfl (en rfl (en rfl (en rfl (en rfl (en rfl (en rfl s33))))))))
  clear hg
  refine xc_seq (fun K hK9 => ?_)
  refine xc_plan 35 [(0, 2), (1, 2), (2, 2), (3, 1), (4, 1), (5, 2), (6, 2), (7, 2), (8, 1), (10, 1), (13, 1), (9, 0), (11, 0), (12, 2), (14, 0), (15, 2), (16, 2), (17, 2), (18, 1), (20, 1), (21, 2), (19, 0), (22, 0), (23, 2), (24, 2), (25, 2), (26, 1), (28, 2), (27, 0), (29, 2), (30, 2), (31, 2), (32, 0), (33, 2), (34, 2)] (by kernel_rfl) rfl (by kernel_rfl) h ?_
  have h := h.drew
  refine xp_read (i := 0) rfl (fun W => r_move s11) rfl (fun _ _ _ hh => by first | exact bodyR_np hh | exact hh) ?_
  refine xp_read (i := 1) rfl (fun W => r_eql es ec (r := true) rfl) rfl (fun _ _ _ hh => by first | exact bodyR_np hh | exact hh) ?_
  refine xp_read (i := 2) rfl (fun W => r_move es) rfl (fun _ _ _ hh => by first | exact bodyR_np hh | exact hh) ?_
  refine xp_loadG (i := 3) (d := 43) rfl rfl rfl es (fun W hW => r_loadAgg hW 0 rfl Try.isAgg26 Try.sizeOf26 (en rfl (en rfl (en rfl s10))) (Ok.le (by first | assumption | exact Ok.node (by assumption) | exact ChOk.ok (by assumption))) (ext_full (Ok.size (by first | assumption | exact Ok.node (by assumption) | exact ChOk.ok (by assumption))))) rfl (fun _ _ _ hh => by first | exact bodyR_np hh | exact hh) ?_
  refine xp_loadG (i := 4) (d := 43) rfl rfl rfl (en rfl es) (fun W hW => r_loadAgg hW 3 rfl Try.isAgg26 Try.sizeOf26 (en rfl (en rfl (en rfl (en rfl s5)))) (Ok.le (by first | assumption | exact Ok.node (by assumption) | exact ChOk.ok (by assumption))) (ext_full (Ok.size (by first | assumption | exact Ok.node (by assumption) | exact ChOk.ok (by assumption))))) rfl (fun _ _ _ hh => by first | exact bodyR_np hh | exact hh) ?_
  refine xp_readG (i := 5) (d := 43) rfl rfl rfl (en rfl (en rfl es)) (fun W => r_eqCh (r := true) h3 ho (en rfl es) es Try.underlying26 Try.underlying24 Try.underlying21 Try.underlying3 (by kernel_rfl) (by kernel_rfl) (by kernel_rfl) (by kernel_rfl) rfl rfl (by decide) (by decide) (by kernel_rfl) (by kernel_rfl) (decide_eq_true (List.take_append_drop i zs))) rfl (fun _ _ _ hh => by first | exact bodyR_np hh | exact hh) ?_
  refine xp_read (i := 6) rfl (fun W => r_pick_t (en rfl (en rfl (en rfl es))) es) rfl (fun _ _ _ hh => by first | exact bodyR_np hh | exact hh) ?_
  refine xp_read (i := 7) rfl (fun W => r_move es) rfl (fun _ _ _ hh => by first | exact bodyR_np hh | exact hh) ?_
  refine xp_loadG (i := 8) (d := 48) rfl rfl rfl es (fun W hW => r_loadAgg hW 2 rfl Try.isAgg26 Try.sizeOf26 (en rfl (en rfl (en rfl (en rfl (en rfl (en rfl (en rfl (en rfl s7)))))))) (Ok.le (by first | assumption | exact Ok.node (by assumption) | exact ChOk.ok (by assumption))) (ext_full (Ok.size (by first | assumption | exact Ok.node (by assumption) | exact ChOk.ok (by assumption))))) rfl (fun _ _ _ hh => by first | exact bodyR_np hh | exact hh) ?_
  refine xp_loadG (i := 10) (d := 48) rfl rfl rfl (en rfl es) (fun W hW => r_loadAgg hW 1 rfl Try.isAgg26 Try.sizeOf26 (en rfl (en rfl (en rfl (en rfl (en rfl (en rfl (en rfl (en rfl (en rfl s8))))))))) (Ok.le (by first | assumption | exact Ok.node (by assumption) | exact ChOk.ok (by assumption))) (ext_full (Ok.size (by first | assumption | exact Ok.node (by assumption) | exact ChOk.ok (by assumption))))) rfl (fun _ _ _ hh => by first | exact bodyR_np hh | exact hh) ?_
  refine xp_loadG (i := 13) (d := 48) rfl rfl rfl (en rfl (en rfl es)) (fun W hW => r_loadAgg hW 3 rfl Try.isAgg26 Try.sizeOf26 (en rfl (en rfl (en rfl (en rfl (en rfl (en rfl (en rfl (en rfl (en rfl (en rfl s5)))))))))) (Ok.le (by first | assumption | exact Ok.node (by assumption) | exact ChOk.ok (by assumption))) (ext_full (Ok.size (by first | assumption | exact Ok.node (by assumption) | exact ChOk.ok (by assumption))))) rfl (fun _ _ _ hh => by first | exact bodyR_np hh | exact hh) ?_
  refine xp_enterG (i := 9) (e := 48) rfl rfl rfl (en rfl (en rfl (en rfl es))) (r_call Try.call14 (.cons (en rfl (en rfl es)) .nil)) rfl (newlines_ok h1 h) ?_
  rintro _ w ⟨rfl, h⟩
  refine ⟨(fun _ => h), ?_⟩
  refine xp_enterG (i := 11) (e := 48) rfl rfl rfl (en rfl (en rfl (en rfl (en rfl es)))) (r_call Try.call14 (.cons (en rfl (en rfl es)) .nil)) rfl (newlines_ok h2 h) ?_
  rintro _ w ⟨rfl, h⟩
  refine ⟨(fun _ => h), ?_⟩
  refine xp_readG (i := 12) (d := 48) rfl rfl rfl (en rfl (en rfl (en rfl (en rfl (en rfl es))))) (fun W => r_add (en rfl es) es rfl (by unfold I64; omega)) rfl (fun _ _ _ hh => by first | exact bodyR_np hh | exact hh) ?_
  refine xp_enterG (i := 14) (e := 48) rfl rfl rfl (en rfl (en rfl (en rfl (en rfl (en rfl (en rfl es)))))) (r_call Try.call14 (.cons (en rfl (en rfl (en rfl es))) .nil)) rfl (newlines_ok ho h) ?_
  rintro _ w ⟨rfl, h⟩
  refine ⟨(fun _ => h), ?_⟩
  refine xp_readG (i := 15) (d := 48) rfl rfl rfl (en rfl (en rfl (en rfl (en rfl (en rfl (en rfl (en rfl es))))))) (fun W => r_eql (en rfl es) es (decide_eq_true (by omega))) rfl (fun _ _ _ hh => by first | exact bodyR_np hh | exact hh) ?_
  refine xp_read (i := 16) rfl (fun W => r_pick_t (en rfl (en rfl (en rfl (en rfl (en rfl (en rfl (en rfl (en rfl es)))))))) es) rfl (fun _ _ _ hh => by first | exact bodyR_np hh | exact hh) ?_
  refine xp_read (i := 17) rfl (fun W => r_move es) rfl (fun _ _ _ hh => by first | exact bodyR_np hh | exact hh) ?_
  refine xp_loadG (i := 18) (d := 58) rfl rfl rfl es (fun W hW => r_loadAgg hW 2 rfl Try.isAgg26 Try.sizeOf26 (en rfl (en rfl (en rfl (en rfl (en rfl (en rfl (en rfl (en rfl (en rfl (en rfl (en rfl (en rfl (en rfl (en rfl (en rfl (en rfl (en rfl (en rfl s7)))))))))))))))))) (Ok.le (by first | assumption | exact Ok.node (by assumption) | exact ChOk.ok (by assumption))) (ext_full (Ok.size (by first | assumption | exact Ok.node (by assumption) | exact ChOk.ok (by assumption))))) rfl (fun _ _ _ hh => by first | exact bodyR_np hh | exact hh) ?_
  refine xp_loadG (i := 20) (d := 58) rfl rfl rfl (en rfl es) (fun W hW => r_loadAgg hW 3 rfl Try.isAgg26 Try.sizeOf26 (en rfl (en rfl (en rfl (en rfl (en rfl (en rfl (en rfl (en rfl (en rfl (en rfl (en rfl (en rfl (en rfl (en rfl (en rfl (en rfl (en rfl (en rfl (en rfl s5))))))))))))))))))) (Ok.le (by first | assumption | exact Ok.node (by assumption) | exact ChOk.ok (by assumption))) (ext_full (Ok.size (by first | assumption | exact Ok.node (by assumption) | exact ChOk.ok (by assumption))))) rfl (fun _ _ _ hh => by first | exact bodyR_np hh | exact hh) ?_
  refine xp_readG (i := 21) (d := 58) rfl rfl rfl (en rfl (en rfl es)) (fun W => r_move (en rfl (en rfl (en rfl (en rfl (en rfl (en rfl (en rfl (en rfl (en rfl (en rfl (en rfl (en rfl (en rfl (en rfl (en rfl (en rfl (en rfl (en rfl (en rfl (en rfl s1))))))))))))))))))))) rfl (fun _ _ _ hh => by first | exact bodyR_np hh | exact hh) ?_
  refine xp_enterG (i := 19) (e := 58) rfl rfl rfl (en rfl (en rfl (en rfl es))) (r_call Try.call14 (.cons (en rfl (en rfl es)) .nil)) rfl (newlines_ok h1 h) ?_
  rintro _ w ⟨rfl, h⟩
  refine ⟨(fun _ => h), ?_⟩
  refine xp_enterG (i := 22) (e := 58) rfl rfl rfl (en rfl (en rfl (en rfl (en rfl es)))) (r_call Try.call17 (.cons (en rfl (en rfl es)) (.cons (en rfl es) .nil))) rfl (ahead_ok ho h) ?_
  rintro _ w ⟨rfl, h⟩
  refine ⟨(fun _ => h), ?_⟩
  refine xp_readG (i := 23) (d := 58) rfl rfl rfl (en rfl (en rfl (en rfl (en rfl (en rfl es))))) (fun W => r_eql (en rfl es) es (decide_eq_true (by simp))) rfl (fun _ _ _ hh => by first | exact bodyR_np hh | exact hh) ?_
  refine xp_read (i := 24) rfl (fun W => r_pick_t (en rfl (en rfl (en rfl (en rfl (en rfl (en rfl es)))))) es) rfl (fun _ _ _ hh => by first | exact bodyR_np hh | exact hh) ?_
  refine xp_read (i := 25) rfl (fun W => r_move es) rfl (fun _ _ _ hh => by first | exact bodyR_np hh | exact hh) ?_
  refine xp_loadG (i := 26) (d := 66) rfl rfl rfl es (fun W hW => r_loadAgg hW 2 rfl Try.isAgg26 Try.sizeOf26 (en rfl (en rfl (en rfl (en rfl (en rfl (en rfl (en rfl (en rfl (en rfl (en rfl (en rfl (en rfl (en rfl (en rfl (en rfl (en rfl (en rfl (en rfl (en rfl (en rfl (en rfl (en rfl (en rfl (en rfl (en rfl (en rfl s7)))))))))))))))))))))))))) (Ok.le (by first | assumption | exact Ok.node (by assumption) | exact ChOk.ok (by assumption))) (ext_full (Ok.size (by first | assumption | exact Ok.node (by assumption) | exact ChOk.ok (by assumption))))) rfl (fun _ _ _ hh => by first | exact bodyR_np hh | exact hh) ?_
  refine xp_readG (i := 28) (d := 66) rfl rfl rfl (en rfl es) (fun W => r_move (en rfl (en rfl (en rfl (en rfl (en rfl (en rfl (en rfl (en rfl (en rfl (en rfl (en rfl (en rfl (en rfl (en rfl (en rfl (en rfl (en rfl (en rfl (en rfl (en rfl (en rfl (en rfl (en rfl (en rfl (en rfl (en rfl (en rfl s1)))))))))))))))))))))))))))) rfl (fun _ _ _ hh => by first | exact bodyR_np hh | exact hh) ?_
  refine xp_enterG (i := 27) (e := 66) rfl rfl rfl (en rfl (en rfl es)) (r_call Try.call18 (.cons (en rfl es) .nil)) rfl (len_ok h1 h) ?_
  rintro _ w ⟨rfl, h⟩
  refine ⟨(fun _ => h), ?_⟩
  refine xp_readG (i := 29) (d := 66) rfl rfl rfl (en rfl (en rfl (en rfl es))) (fun W => r_eql es (en rfl es) (decide_eq_true (by omega))) rfl (fun _ _ _ hh => by first | exact bodyR_np hh | exact hh) ?_
  refine xp_read (i := 30) rfl (fun W => r_pick_t (en rfl (en rfl (en rfl (en rfl es)))) es) rfl (fun _ _ _ hh => by first | exact bodyR_np hh | exact hh) ?_
  refine xp_read (i := 31) rfl (fun W => r_move es) rfl (fun _ _ _ hh => by first | exact bodyR_np hh | exact hh) ?_
  refine xp_enterG (i := 32) (e := 72) rfl rfl rfl es (r_call Try.call9 .nil) rfl (known_ok h) ?_
  rintro _ w ⟨rfl, h⟩
  refine ⟨(fun _ => h), ?_⟩
  refine xp_read (i := 33) rfl (fun W => r_pick_t (en rfl es) es) rfl (fun _ _ _ hh => by first | exact bodyR_np hh | exact hh) ?_
  refine xp_read (i := 34) rfl (fun W => r_assign es) rfl (fun _ _ _ hh => by first | exact bodyR_np hh | exact hh) ?_
  refine xp_nil ?_
  refine hK9 _ _ ?_
  refine xc_gen (fun g hg => ?_)
  have s0 := (hg 0).trans (en rfl (en rfl (en rfl (en rfl (en rfl (en rfl (en rfl (en rfl (en rfl (en rfl (en rfl (en rfl (en rfl (en rfl (en rfl (en rfl (en rfl (en rfl (en rfl (en rfl (en rfl (en rfl (en rfl (en rfl (en rfl (en rfl (en rfl (en rfl (en rfl (en rfl (en rfl (en rfl (en rfl (en rfl (en rfl s0)))))))))))))))))))))))))))))))))))
  have s1 := (hg 1).trans (en rfl (en rfl (en rfl (en rfl (en rfl (en rfl (en rfl (en rfl (en rfl (en rfl (en rfl (en rfl (en rfl (en rfl (en rfl (en rfl (en rfl (en rfl (en rfl (en rfl (en rfl (en rfl (en rfl (en rfl (en rfl (en rfl (en rfl (en rfl (en rfl (en rfl (en rfl (en rfl (en rfl (en rfl (en rfl s1)))))))))))))))))))))))))))))))))))
  have s4 := (hg 4).trans es
  have s5 := (hg 5).trans (en rfl (en rfl (en rfl (en rfl (en rfl (en rfl (en rfl (en rfl (en rfl (en rfl (en rfl (en rfl (en rfl (en rfl (en rfl (en rfl (en rfl (en rfl (en rfl (en rfl (en rfl (en rfl (en rfl (en rfl (en rfl (en rfl (en rfl (en rfl (en rfl (en rfl (en rfl (en rfl (en rfl (en rfl (en rfl s5)))))))))))))))))))))))))))))))))))
  have s6 := (hg 6).trans (en rfl (en rfl (en rfl (en rfl (en rfl (en rfl (en rfl (en rfl (en rfl (en rfl (en rfl (en rfl (en rfl (en rfl (en rfl (en rfl (en rfl (en rfl (en rfl (en rfl (en rfl (en rfl (en rfl (en rfl (en rfl (en rfl (en rfl (en rfl (en rfl (en rfl (en rfl (en rfl (en rfl (en rfl (en rfl s6)))))))))))))))))))))))))))))))))))
  have s7 := (hg 7).trans (en rfl (en rfl (en rfl (en rfl (en rfl (en rfl (en rfl (en rfl (en rfl (en rfl (en rfl (en rfl (en rfl (en rfl (en rfl (en rfl (en rfl (en rfl (en rfl (en rfl (en rfl (en rfl (en rfl (en rfl (en rfl (en rfl (en rfl (en rfl (en rfl (en rfl (en rfl (en rfl (en rfl (en rfl (en rfl s7)))))))))))))))))))))))))))))))))))
  have s8 := (hg 8).trans (en rfl (en rfl (en rfl (en rfl (en rfl (en rfl (en rfl (en rfl (en rfl (en rfl (en rfl (en rfl (en rfl (en rfl (en rfl (en rfl (en rfl (en rfl (en rfl (en rfl (en rfl (en rfl (en rfl (en rfl (en rfl (en rfl (en rfl (en rfl (en rfl (en rfl (en rfl (en rfl (en rfl (en rfl (en rfl s8)))))))))))))))))))))))))))))))))))
  have s9 := (hg 9).trans (en rfl (en rfl (en rfl (en rfl (en rfl (en rfl (en rfl (en rfl (en rfl (en rfl (en rfl (en rfl (en rfl (en rfl (en rfl (en rfl (en rfl (en rfl (en rfl (en rfl (en rfl (en rfl (en rfl (en rfl (en rfl (en rfl (en rfl (en rfl (en rfl (en rfl (en rfl (en rfl (en rfl (en rfl (en rfl s9)))))))))))))))))))))))))))))))))))
  have s10 := (hg 10).trans (en rfl (en rfl (en rfl (en rfl (en rfl (en rfl (en rfl (en rfl (en rfl (en rfl (en rfl (en rfl (en rfl (en rfl (en rfl (en rfl (en rfl (en rfl (en rfl (en rfl (en rfl (en rfl (en rfl (en rfl (en rfl (en rfl (en rfl (en rfl (en rfl (en rfl (en rfl (en rfl (en rfl (en rfl (en rfl s10)))))))))))))))))))))))))))))))))))
  have s11 := (hg 11).trans (en rfl (en rfl (en rfl (en rfl (en rfl (en rfl (en rfl (en rfl (en rfl (en rfl (en rfl (en rfl (en rfl (en rfl (en rfl (en rfl (en rfl (en rfl (en rfl (en rfl (en rfl (en rfl (en rfl (en rfl (en rfl (en rfl (en rfl (en rfl (en rfl (en rfl (en rfl (en rfl (en rfl (en rfl (en rfl s11)))))))))))))))))))))))))))))))))))
  have s14 := (hg 14).trans (en rfl (en rfl (en rfl (en rfl (en rfl (en rfl (en rfl (en rfl (en rfl (en rfl (en rfl (en rfl (en rfl (en rfl (en rfl (en rfl (en rfl (en rfl (en rfl (en rfl (en rfl (en rfl (en rfl (en rfl (en rfl (en rfl (en rfl (en rfl (en rfl (en rfl (en rfl (en rfl (en rfl (en rfl (en rfl s14)))))))))))))))))))))))))))))))))))
  have s33 := (hg 33).trans (en rfl (en rfl (en rfl (en rfl (en rfl (en rfl (en rfl (en rfl (en rfl (en rfl (en rfl (en rfl (en rfl (en rfl (en rfl (en rfl (en rfl (en rfl (en rfl (en rfl (en rfl (en rfl (en rfl (en rfl (en rfl (en rfl (en rfl (en rfl (en rfl (en rfl (en rfl (en rfl (en rfl (en rfl (en rfl s33)))))))))))))))))))))))))))))))))))
  clear hg
  refine xc_ret ?_
  refine bodyR_1 rfl s4 ?_
  exact ⟨rfl, h.drop.drop.drop.drop⟩
theorem back_all {i : Int} (hv : Reads E R v .i32 zs) (h : SatL E w R) : Calls Try.prog 6 #[v, .int .i64 i] w (Ret fun u w' => u = .bool true ∧ SatL E w' R) := by
  by_cases h1 : 1000 < zs.length
  · exact back_big hv h1 h
  by_cases ho : ChOk zs
  · by_cases hi : i < 0 ∨ (zs.length : Int) < i
    · exact back_out hv ho hi h
    · obtain ⟨i, rfl⟩ := Int.eq_ofNat_of_zero_le (by omega : 0 ≤ i)
      exact back_ok hv ho (by omega) h
  · exact back_not hv (by omega) ho h
end
end Go.Proofs.Ytimieinmphhmmaa
