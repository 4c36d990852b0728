/-
The chunks' functions, behind the first: Of, Len, At, Ahead, Newlines, NewlineAt.
-/
import Derived.Test.YtmfkhfmidnojhaaH1
namespace Go.Proofs.Ytmfkhfmidnojhaa
open Go Go.RowKit
section
variable {E : Env} {R : List SProp} {w : World} {l m zs : List Int} {v : Value} {r : Int}
theorem contains_all (hv : Reads E R v .i32 zs) (ha : ∀ r ∈ zs, rune r) (h : SatL E w R) : Calls Try.prog 64 #[v, badF] w (Ret fun u w' => u = .bool false ∧ SatL E w' R) := by
  refine calls_x Try.func64 rfl Try.ntmps64 rfl ?_
  refine xc_gen (fun g hg => ?_)
  have s0 := (hg 0).trans arg0
  have s1 := (hg 1).trans arg1
  clear hg
  refine xc_seq (fun K hK1 => ?_)
  refine xc_region ?_
  refine x_val (r_assign ec) (nd_of rfl) rfl ?_
  refine xw_nil ?_
  refine hK1 _ _ ?_
  refine xc_gen (fun g hg => ?_)
  have s0 := (hg 0).trans (en rfl s0)
  have s1 := (hg 1).trans (en rfl s1)
  have s4 := (hg 4).trans es
  clear hg
  refine xc_seq (fun K hK2 => ?_)
  refine xc_region ?_
  refine x_val (r_move s0) (nd_of rfl) rfl ?_
  refine x_val (r_move (en rfl s1)) (nd_of rfl) rfl ?_
  refine x_enter (r_call Try.call77 (.cons (en rfl es) (.cons es .nil))) (nd_of rfl) rfl (index_all hv ha h) ?_
  rintro _ w ⟨rfl, h⟩
  refine x_val (r_geq es ec (r := false) rfl) (nd_of rfl) rfl ?_
  refine x_val (r_assign es) (nd_of rfl) rfl ?_
  refine xw_nil ?_
  refine hK2 _ _ ?_
  refine xc_gen (fun g hg => ?_)
  have s0 := (hg 0).trans (en rfl (en rfl (en rfl (en rfl (en rfl s0)))))
  have s1 := (hg 1).trans (en rfl (en rfl (en rfl (en rfl (en rfl s1)))))
  have s4 := (hg 4).trans es
  clear hg
  refine xc_ret ?_
  refine bodyR_1 rfl s4 ?_
  exact ⟨rfl, h⟩
theorem contains_bad (hv : Reads E R v .i32 zs) (hb : ∃ r ∈ zs, ¬ rune r) (h : SatL E w R) : Calls Try.prog 64 #[v, badF] w (Ret fun u w' => u = .bool true ∧ SatL E w' R) := by
  refine calls_x Try.func64 rfl Try.ntmps64 rfl ?_
  refine xc_gen (fun g hg => ?_)
  have s0 := (hg 0).trans arg0
  have s1 := (hg 1).trans arg1
  clear hg
  refine xc_seq (fun K hK1 => ?_)
  refine xc_region ?_
  refine x_val (r_assign ec) (nd_of rfl) rfl ?_
  refine xw_nil ?_
  refine hK1 _ _ ?_
  refine xc_gen (fun g hg => ?_)
  have s0 := (hg 0).trans (en rfl s0)
  have s1 := (hg 1).trans (en rfl s1)
  have s4 := (hg 4).trans es
  clear hg
  refine xc_seq (fun K hK2 => ?_)
  refine xc_region ?_
  refine x_val (r_move s0) (nd_of rfl) rfl ?_
  refine x_val (r_move (en rfl s1)) (nd_of rfl) rfl ?_
  refine x_enter (r_call Try.call77 (.cons (en rfl es) (.cons es .nil))) (nd_of rfl) rfl (index_bad hv hb h) ?_
  rintro _ w ⟨⟨i, rfl⟩, h⟩
  refine x_val (r_geq es ec (decide_eq_true (by omega))) (nd_of rfl) rfl ?_
  refine x_val (r_assign es) (nd_of rfl) rfl ?_
  refine xw_nil ?_
  refine hK2 _ _ ?_
  refine xc_gen (fun g hg => ?_)
  have s0 := (hg 0).trans (en rfl (en rfl (en rfl (en rfl (en rfl s0)))))
  have s1 := (hg 1).trans (en rfl (en rfl (en rfl (en rfl (en rfl s1)))))
  have s4 := (hg 4).trans es
  clear hg
  refine xc_ret ?_
  refine bodyR_1 rfl s4 ?_
  exact ⟨rfl, h⟩

theorem of_bad (hv : Reads E R v .i32 zs) (hb : ∃ r ∈ zs, ¬ rune r) (h : SatL E w R) : Calls Try.prog 30 #[v] w (Ret fun u w' => u = .tuple #[.agg (chC []), .int .i64 3] ∧ SatL E w' R) := by
  have hnil := chOk_nil
  refine calls_x Try.func30 rfl Try.ntmps30 rfl ?_
  refine xc_gen (fun g hg => ?_)
  have s0 := (hg 0).trans arg0
  clear hg
  refine xc_seq (fun K hK1 => ?_)
  refine xc_region ?_
  refine x_allocA h zC rfl ?_
  intro b2 w h
  refine x_val (r_assign ec) (nd_of rfl) rfl ?_
  refine xw_nil ?_
  refine hK1 _ _ ?_
  refine xc_gen (fun g hg => ?_)
  have s0 := (hg 0).trans (en rfl (en rfl s0))
  have s2 := (hg 2).trans (en rfl es)
  have s3 := (hg 3).trans es
  clear hg
  refine xc_seq (fun K hK2 => ?_)
  refine xc_block ?_
  refine xc_seq (fun K hK3 => ?_)
  refine xc_region ?_
  refine x_val (r_move s0) (nd_of rfl) rfl ?_
  refine x_enter (r_call Try.call64 (.cons es (.cons ef .nil))) (nd_of rfl) rfl (contains_bad hv.up hb h) ?_
  rintro _ w ⟨rfl, h⟩
  refine x_val (r_assign es) (nd_of rfl) rfl ?_
  refine xw_nil ?_
  refine hK3 _ _ ?_
  refine xc_gen (fun g hg => ?_)
  have s0 := (hg 0).trans (en rfl (en rfl (en rfl s0)))
  have s2 := (hg 2).trans (en rfl (en rfl (en rfl s2)))
  have s3 := (hg 3).trans (en rfl (en rfl (en rfl s3)))
  have s5 := (hg 5).trans es
  clear hg
  refine xc_cond s5 (fun _ => ?_) (fun hc => by cases hc)
  refine xc_seq (fun K hK4 => ?_)
  refine xc_region ?_
  refine x_val (r_buildZ Try.underlying58 zC Try.sizeOf56 Try.sizeOf3) (nd_of rfl) rfl ?_
  refine x_st (r_storeAgg h 0 rfl Try.sizeOf58 (en rfl s2) es (Ok.size (by first | assumption | exact Ok.node (by assumption) | exact xOk.cells (by assumption) | exact ChOk.ok (by assumption))) (Ok.one (by first | assumption | exact Ok.node (by assumption) | exact xOk.cells (by assumption) | exact ChOk.ok (by assumption))) (Ok.le (by first | assumption | exact Ok.node (by assumption) | exact xOk.cells (by assumption) | exact ChOk.ok (by assumption)))) rfl (h.r0 (over_full (Ok.size (by first | assumption | exact Ok.node (by assumption) | exact xOk.cells (by assumption) | exact ChOk.ok (by assumption))))) ?_
  intro w h
  refine x_val (r_assign ec) (nd_of rfl) rfl ?_
  refine xw_nil ?_
  refine hK4 _ _ ?_
  refine xc_gen (fun g hg => ?_)
  have s0 := (hg 0).trans (en rfl (en rfl s0))
  have s2 := (hg 2).trans (en rfl (en rfl s2))
  have s3 := (hg 3).trans es
  have s5 := (hg 5).trans (en rfl (en rfl s5))
  clear hg
  refine xc_ret ?_
  refine bodyR_ct rfl s2 (lv_agg h 0 rfl Try.isAgg58 Try.sizeOf58 (Ok.size (by first | assumption | exact Ok.node (by assumption) | exact xOk.cells (by assumption) | exact ChOk.ok (by assumption)))) s3 ?_
  exact ⟨rfl, h.drop⟩
theorem of_long (hv : Reads E R v .i32 zs) (ha : ∀ r ∈ zs, rune r) (hl : 32 < zs.length) (h : SatL E w R) : Calls Try.prog 30 #[v] w (Ret fun u w' => u = .tuple #[.agg (chC []), .int .i64 8] ∧ SatL E w' R) := by
  have hnil := chOk_nil
  obtain ⟨a, cap, rfl, hl1, hl2⟩ := hv.slice h
  refine calls_x Try.func30 rfl Try.ntmps30 rfl ?_
  refine xc_gen (fun g hg => ?_)
  have s0 := (hg 0).trans arg0
  clear hg
  refine xc_seq (fun K hK1 => ?_)
  refine xc_region ?_
  refine x_allocA h zC rfl ?_
  intro b2 w h
  refine x_val (r_assign ec) (nd_of rfl) rfl ?_
  refine xw_nil ?_
  refine hK1 _ _ ?_
  refine xc_gen (fun g hg => ?_)
  have s0 := (hg 0).trans (en rfl (en rfl s0))
  have s2 := (hg 2).trans (en rfl es)
  have s3 := (hg 3).trans es
  clear hg
  refine xc_seq (fun K hK2 => ?_)
  refine xc_block ?_
  refine xc_seq (fun K hK3 => ?_)
  refine xc_region ?_
  refine x_val (r_move s0) (nd_of rfl) rfl ?_
  refine x_enter (r_call Try.call64 (.cons es (.cons ef .nil))) (nd_of rfl) rfl (contains_all hv.up ha h) ?_
  rintro _ w ⟨rfl, h⟩
  refine x_val (r_assign es) (nd_of rfl) rfl ?_
  refine xw_nil ?_
  refine hK3 _ _ ?_
  refine xc_gen (fun g hg => ?_)
  have s0 := (hg 0).trans (en rfl (en rfl (en rfl s0)))
  have s2 := (hg 2).trans (en rfl (en rfl (en rfl s2)))
  have s3 := (hg 3).trans (en rfl (en rfl (en rfl s3)))
  have s5 := (hg 5).trans es
  clear hg
  refine xc_cond s5 (fun hc => by cases hc) (fun _ => ?_)
  refine xc_seq (fun K hK4 => ?_)
  refine xc_region ?_
  refine x_val (r_move s0) (nd_of rfl) rfl ?_
  refine x_val (r_len Try.underlying23 es) (nd_of rfl) rfl ?_
  refine x_val (r_gtr es ec (decide_eq_true (by omega))) (nd_of rfl) rfl ?_
  refine x_val (r_assign es) (nd_of rfl) rfl ?_
  refine xw_nil ?_
  refine hK4 _ _ ?_
  refine xc_gen (fun g hg => ?_)
  have s0 := (hg 0).trans (en rfl (en rfl (en rfl (en rfl s0))))
  have s2 := (hg 2).trans (en rfl (en rfl (en rfl (en rfl s2))))
  have s3 := (hg 3).trans (en rfl (en rfl (en rfl (en rfl s3))))
  have s5 := (hg 5).trans (en rfl (en rfl (en rfl (en rfl s5))))
  have s9 := (hg 9).trans es
  clear hg
  refine xc_cond s9 (fun _ => ?_) (fun hc => by cases hc)
  refine xc_seq (fun K hK5 => ?_)
  refine xc_region ?_
  refine x_val (r_buildZ Try.underlying58 zC Try.sizeOf56 Try.sizeOf3) (nd_of rfl) rfl ?_
  refine x_st (r_storeAgg h 0 rfl Try.sizeOf58 (en rfl s2) es (Ok.size (by first | assumption | exact Ok.node (by assumption) | exact xOk.cells (by assumption) | exact ChOk.ok (by assumption))) (Ok.one (by first | assumption | exact Ok.node (by assumption) | exact xOk.cells (by assumption) | exact ChOk.ok (by assumption))) (Ok.le (by first | assumption | exact Ok.node (by assumption) | exact xOk.cells (by assumption) | exact ChOk.ok (by assumption)))) rfl (h.r0 (over_full (Ok.size (by first | assumption | exact Ok.node (by assumption) | exact xOk.cells (by assumption) | exact ChOk.ok (by assumption))))) ?_
  intro w h
  refine x_val (r_assign ec) (nd_of rfl) rfl ?_
  refine xw_nil ?_
  refine hK5 _ _ ?_
  refine xc_gen (fun g hg => ?_)
  have s0 := (hg 0).trans (en rfl (en rfl s0))
  have s2 := (hg 2).trans (en rfl (en rfl s2))
  have s3 := (hg 3).trans es
  have s5 := (hg 5).trans (en rfl (en rfl s5))
  have s9 := (hg 9).trans (en rfl (en rfl s9))
  clear hg
  refine xc_ret ?_
  refine bodyR_ct rfl s2 (lv_agg h 0 rfl Try.isAgg58 Try.sizeOf58 (Ok.size (by first | assumption | exact Ok.node (by assumption) | exact xOk.cells (by assumption) | exact ChOk.ok (by assumption)))) s3 ?_
  exact ⟨rfl, h.drop⟩
theorem of_ok (hv : Reads E R v .i32 zs) (ho : ChOk zs) (h : SatL E w R) : Calls Try.prog 30 #[v] w (Ret fun u w' => u = .tuple #[.agg (chC zs), .int .i64 0] ∧ SatL E w' R) := by
  have hnil := chOk_nil
  have hlen := ho.len
  obtain ⟨a, cap, rfl, hl1, hl2⟩ := hv.slice h
  obtain ⟨u32, hu32⟩ := chC_put0_get hlen
  refine calls_x Try.func30 rfl Try.ntmps30 rfl ?_
  refine xc_gen (fun g hg => ?_)
  have s0 := (hg 0).trans arg0
  clear hg
  refine xc_seq (fun K hK1 => ?_)
  refine xc_region ?_
  refine x_allocA h zC rfl ?_
  intro b2 w h
  refine x_val (r_assign ec) (nd_of rfl) rfl ?_
  refine xw_nil ?_
  refine hK1 _ _ ?_
  refine xc_gen (fun g hg => ?_)
  have s0 := (hg 0).trans (en rfl (en rfl s0))
  have s2 := (hg 2).trans (en rfl es)
  have s3 := (hg 3).trans es
  clear hg
  refine xc_seq (fun K hK2 => ?_)
  refine xc_block ?_
  refine xc_seq (fun K hK3 => ?_)
  refine xc_region ?_
  refine x_val (r_move s0) (nd_of rfl) rfl ?_
  refine x_enter (r_call Try.call64 (.cons es (.cons ef .nil))) (nd_of rfl) rfl (contains_all hv.up ho.code h) ?_
  rintro _ w ⟨rfl, h⟩
  refine x_val (r_assign es) (nd_of rfl) rfl ?_
  refine xw_nil ?_
  refine hK3 _ _ ?_
  refine xc_gen (fun g hg => ?_)
  have s0 := (hg 0).trans (en rfl (en rfl (en rfl s0)))
  have s2 := (hg 2).trans (en rfl (en rfl (en rfl s2)))
  have s3 := (hg 3).trans (en rfl (en rfl (en rfl s3)))
  have s5 := (hg 5).trans es
  clear hg
  refine xc_cond s5 (fun hc => by cases hc) (fun _ => ?_)
  refine xc_seq (fun K hK4 => ?_)
  refine xc_region ?_
  refine x_val (r_move s0) (nd_of rfl) rfl ?_
  refine x_val (r_len Try.underlying23 es) (nd_of rfl) rfl ?_
  refine x_val (r_gtr es ec (decide_eq_false (by omega))) (nd_of rfl) rfl ?_
  refine x_val (r_assign es) (nd_of rfl) rfl ?_
  refine xw_nil ?_
  refine hK4 _ _ ?_
  refine xc_gen (fun g hg => ?_)
  have s0 := (hg 0).trans (en rfl (en rfl (en rfl (en rfl s0))))
  have s2 := (hg 2).trans (en rfl (en rfl (en rfl (en rfl s2))))
  have s3 := (hg 3).trans (en rfl (en rfl (en rfl (en rfl s3))))
  have s5 := (hg 5).trans (en rfl (en rfl (en rfl (en rfl s5))))
  have s9 := (hg 9).trans es
  clear hg
  refine xc_cond s9 (fun hc => by cases hc) (fun _ => ?_)
  refine xc_skip ?_
  refine hK2 _ _ ?_
  refine xc_seq (fun K hK5 => ?_)
  refine xc_region ?_
  refine x_allocA h zC rfl ?_
  intro b4 w h
  refine xw_nil ?_
  refine hK5 _ _ ?_
  refine xc_gen (fun g hg => ?_)
  have s0 := (hg 0).trans (en rfl s0)
  have s2 := (hg 2).trans (en rfl s2)
  have s3 := (hg 3).trans (en rfl s3)
  have s4 := (hg 4).trans es
  have s5 := (hg 5).trans (en rfl s5)
  have s9 := (hg 9).trans (en rfl s9)
  clear hg
  refine xc_seq (fun K hK6 => ?_)
  refine xc_region ?_
  refine x_val (r_fieldAddr (o' := 0) Try.underlying58 rfl Try.sizeOf56 rfl s4 rfl) (nd_of rfl) rfl ?_
  refine x_val (r_sliceArr Try.underlying56 Try.sizeOf21 rfl es) (nd_of rfl) rfl ?_
  refine x_val (r_move (en rfl (en rfl s0))) (nd_of rfl) rfl ?_
  refine x_copy h Try.underlying23 (by kernel_rfl) (en rfl es) es (hv _ h.drop.drop) hlen (by rw [hnil.ok.size]; omega) rfl ?_; intro w h
  refine x_val (r_fieldAddr (o' := 32) Try.underlying58 rfl Try.sizeOf3 rfl (en rfl (en rfl (en rfl (en rfl s4)))) rfl) (nd_of rfl) rfl ?_
  refine x_st (r_store h 0 rfl Try.sizeOf3 es (en rfl es) rfl hu32) rfl (h.u0 (chC_put0 hlen)) ?_
  intro w h
  refine xw_nil ?_
  refine hK6 _ _ ?_
  refine xc_gen (fun g hg => ?_)
  have s0 := (hg 0).trans (en rfl (en rfl (en rfl (en rfl (en rfl s0)))))
  have s2 := (hg 2).trans (en rfl (en rfl (en rfl (en rfl (en rfl s2)))))
  have s3 := (hg 3).trans (en rfl (en rfl (en rfl (en rfl (en rfl s3)))))
  have s4 := (hg 4).trans (en rfl (en rfl (en rfl (en rfl (en rfl s4)))))
  have s5 := (hg 5).trans (en rfl (en rfl (en rfl (en rfl (en rfl s5)))))
  have s9 := (hg 9).trans (en rfl (en rfl (en rfl (en rfl (en rfl s9)))))
  clear hg
  refine xc_seq (fun K hK7 => ?_)
  refine xc_region ?_
  refine x_val (r_loadAgg h 0 rfl Try.isAgg58 Try.sizeOf58 s4 (Ok.le (by first | assumption | exact Ok.node (by assumption) | exact xOk.cells (by assumption) | exact ChOk.ok (by assumption))) (ext_full (Ok.size (by first | assumption | exact Ok.node (by assumption) | exact xOk.cells (by assumption) | exact ChOk.ok (by assumption))))) (nd_of rfl) rfl ?_
  refine x_st (r_storeAgg h 1 rfl Try.sizeOf58 (en rfl s2) es (Ok.size (by first | assumption | exact Ok.node (by assumption) | exact xOk.cells (by assumption) | exact ChOk.ok (by assumption))) (Ok.one (by first | assumption | exact Ok.node (by assumption) | exact xOk.cells (by assumption) | exact ChOk.ok (by assumption))) (Ok.le (by first | assumption | exact Ok.node (by assumption) | exact xOk.cells (by assumption) | exact ChOk.ok (by assumption)))) rfl (h.r1 (over_full (Ok.size (by first | assumption | exact Ok.node (by assumption) | exact xOk.cells (by assumption) | exact ChOk.ok (by assumption))))) ?_
  intro w h
  refine x_val (r_assign ec) (nd_of rfl) rfl ?_
  refine xw_nil ?_
  refine hK7 _ _ ?_
  refine xc_gen (fun g hg => ?_)
  have s0 := (hg 0).trans (en rfl (en rfl s0))
  have s2 := (hg 2).trans (en rfl (en rfl s2))
  have s3 := (hg 3).trans es
  have s4 := (hg 4).trans (en rfl (en rfl s4))
  have s5 := (hg 5).trans (en rfl (en rfl s5))
  have s9 := (hg 9).trans (en rfl (en rfl s9))
  clear hg
  refine xc_ret ?_
  refine bodyR_ct rfl s2 (lv_agg h 1 rfl Try.isAgg58 Try.sizeOf58 (Ok.size (by first | assumption | exact Ok.node (by assumption) | exact xOk.cells (by assumption) | exact ChOk.ok (by assumption)))) s3 ?_
  exact ⟨rfl, h.drop.drop⟩
theorem len_ok (ho : ChOk l) (h : SatL E w R) : Calls Try.prog 47 #[.agg (chC l)] w (Ret fun u w' => u = .int .i64 (l.length : Int) ∧ SatL E w' R) := by
  refine calls_x Try.func47 rfl Try.ntmps47 rfl ?_
  refine xc_gen (fun g hg => ?_)
  have s0 := (hg 0).trans arg0
  clear hg
  refine xc_seq (fun K hK1 => ?_)
  refine xc_region ?_
  refine x_boxA h s0 rfl ?_
  intro b1 w h
  refine x_val (r_assign ec) (nd_of rfl) rfl ?_
  refine xw_nil ?_
  refine hK1 _ _ ?_
  refine xc_gen (fun g hg => ?_)
  have s0 := (hg 0).trans (en rfl (en rfl s0))
  have s1 := (hg 1).trans (en rfl es)
  have s2 := (hg 2).trans es
  clear hg
  refine xc_seq (fun K hK2 => ?_)
  refine xc_region ?_
  refine x_val (r_fieldAddr (o' := 32) Try.underlying58 rfl Try.sizeOf3 rfl s1 rfl) (nd_of rfl) rfl ?_
  refine x_val (r_load h 0 rfl Try.isAgg3 es (chC_n (by assumption))) (nd_of rfl) rfl ?_
  refine x_val (r_assign es) (nd_of rfl) rfl ?_
  refine xw_nil ?_
  refine hK2 _ _ ?_
  refine xc_gen (fun g hg => ?_)
  have s0 := (hg 0).trans (en rfl (en rfl (en rfl s0)))
  have s1 := (hg 1).trans (en rfl (en rfl (en rfl s1)))
  have s2 := (hg 2).trans es
  clear hg
  refine xc_ret ?_
  refine bodyR_1 rfl s2 ?_
  exact ⟨rfl, h.drop⟩
theorem chAt_ok {i : Nat} (ho : ChOk l) (hr : l[i]? = some r) (h : SatL E w R) : Calls Try.prog 41 #[.agg (chC l), .int .i64 (i : Int)] w (Ret fun u w' => u = .tuple #[.int .i32 r, .int .i64 0] ∧ SatL E w' R) := by
  have hi := (List.getElem?_eq_some_iff.1 hr).1
  have hlen := ho.len
  refine calls_x Try.func41 rfl Try.ntmps41 rfl ?_
  refine xc_gen (fun g hg => ?_)
  have s0 := (hg 0).trans arg0
  have s1 := (hg 1).trans arg1
  clear hg
  refine xc_seq (fun K hK1 => ?_)
  refine xc_region ?_
  refine x_boxA h s0 rfl ?_
  intro b2 w h
  refine x_val (r_assign ec) (nd_of rfl) rfl ?_
  refine x_val (r_assign ec) (nd_of rfl) rfl ?_
  refine xw_nil ?_
  refine hK1 _ _ ?_
  refine xc_gen (fun g hg => ?_)
  have s0 := (hg 0).trans (en rfl (en rfl (en rfl s0)))
  have s1 := (hg 1).trans (en rfl (en rfl (en rfl s1)))
  have s2 := (hg 2).trans (en rfl (en rfl es))
  have s4 := (hg 4).trans (en rfl es)
  have s5 := (hg 5).trans es
  clear hg
  refine xc_seq (fun K hK2 => ?_)
  refine xc_seq (fun K hK3 => ?_)
  refine xc_region ?_
  refine x_val (r_move s1) (nd_of rfl) rfl ?_
  refine x_val (r_lss es ec (decide_eq_false (by omega))) (nd_of rfl) rfl ?_
  refine x_val (r_move es) (nd_of rfl) rfl ?_
  refine x_take (d := 8) rfl rfl es ?_
  refine x_val (r_move (en rfl (en rfl (en rfl s1)))) (nd_of rfl) rfl ?_
  refine x_take (d := 8) rfl rfl (en rfl es) ?_
  refine x_val (r_fieldAddr (o' := 32) Try.underlying58 rfl Try.sizeOf3 rfl (en rfl (en rfl (en rfl (en rfl s2)))) rfl) (nd_of rfl) rfl ?_
  refine x_take (d := 8) rfl rfl (en rfl (en rfl es)) ?_
  refine x_val (r_load h 0 rfl Try.isAgg3 es (chC_n (by assumption))) (nd_of rfl) rfl ?_
  refine x_take (d := 8) rfl rfl (en rfl (en rfl (en rfl es))) ?_
  refine x_val (r_geq (en rfl (en rfl es)) es (decide_eq_false (by omega))) (nd_of rfl) rfl ?_
  refine x_val (r_pick_f (en rfl (en rfl (en rfl (en rfl es)))) es) (nd_of rfl) rfl ?_
  refine xw_nil ?_
  refine hK3 _ _ ?_
  refine xc_gen (fun g hg => ?_)
  have s0 := (hg 0).trans (en rfl (en rfl (en rfl (en rfl (en rfl (en rfl (en rfl (en rfl s0))))))))
  have s1 := (hg 1).trans (en rfl (en rfl (en rfl (en rfl (en rfl (en rfl (en rfl (en rfl s1))))))))
  have s2 := (hg 2).trans (en rfl (en rfl (en rfl (en rfl (en rfl (en rfl (en rfl (en rfl s2))))))))
  have s4 := (hg 4).trans (en rfl (en rfl (en rfl (en rfl (en rfl (en rfl (en rfl (en rfl s4))))))))
  have s5 := (hg 5).trans (en rfl (en rfl (en rfl (en rfl (en rfl (en rfl (en rfl (en rfl s5))))))))
  have s13 := (hg 13).trans es
  clear hg
  refine xc_cond s13 (fun hc => by cases hc) (fun _ => ?_)
  refine xc_skip ?_
  refine hK2 _ _ ?_
  refine xc_seq (fun K hK4 => ?_)
  refine xc_region ?_
  refine x_val (r_move s1) (nd_of rfl) rfl ?_
  refine x_val (r_fieldAddr (o' := 0) Try.underlying58 rfl Try.sizeOf56 rfl (en rfl s2) rfl) (nd_of rfl) rfl ?_
  refine x_val (r_indexArr Try.underlying56 Try.sizeOf21 es (en rfl es) (by omega)) (nd_of rfl) rfl ?_
  refine x_val (r_load h 0 rfl Try.isAgg21 es (by rw [Nat.mul_one]; exact chC_get hr)) (nd_of rfl) rfl ?_
  refine x_val (r_assign es) (nd_of rfl) rfl ?_
  refine x_val (r_assign ec) (nd_of rfl) rfl ?_
  refine xw_nil ?_
  refine hK4 _ _ ?_
  refine xc_gen (fun g hg => ?_)
  have s0 := (hg 0).trans (en rfl (en rfl (en rfl (en rfl (en rfl (en rfl s0))))))
  have s1 := (hg 1).trans (en rfl (en rfl (en rfl (en rfl (en rfl (en rfl s1))))))
  have s2 := (hg 2).trans (en rfl (en rfl (en rfl (en rfl (en rfl (en rfl s2))))))
  have s4 := (hg 4).trans (en rfl es)
  have s5 := (hg 5).trans es
  have s13 := (hg 13).trans (en rfl (en rfl (en rfl (en rfl (en rfl (en rfl s13))))))
  clear hg
  refine xc_ret ?_
  refine bodyR_2 rfl s4 s5 ?_
  exact ⟨rfl, h.drop⟩
theorem chAt_neg {i : Int} (hi : i < 0) (h : SatL E w R) : Calls Try.prog 41 #[.agg (chC l), .int .i64 i] w (Ret fun u w' => u = .tuple #[.int .i32 0, .int .i64 5] ∧ SatL E w' R) := by
  refine calls_x Try.func41 rfl Try.ntmps41 rfl ?_
  refine xc_gen (fun g hg => ?_)
  have s0 := (hg 0).trans arg0
  have s1 := (hg 1).trans arg1
  clear hg
  refine xc_seq (fun K hK1 => ?_)
  refine xc_region ?_
  refine x_boxA h s0 rfl ?_
  intro b2 w h
  refine x_val (r_assign ec) (nd_of rfl) rfl ?_
  refine x_val (r_assign ec) (nd_of rfl) rfl ?_
  refine xw_nil ?_
  refine hK1 _ _ ?_
  refine xc_gen (fun g hg => ?_)
  have s0 := (hg 0).trans (en rfl (en rfl (en rfl s0)))
  have s1 := (hg 1).trans (en rfl (en rfl (en rfl s1)))
  have s2 := (hg 2).trans (en rfl (en rfl es))
  have s4 := (hg 4).trans (en rfl es)
  have s5 := (hg 5).trans es
  clear hg
  refine xc_seq (fun K hK2 => ?_)
  refine xc_seq (fun K hK3 => ?_)
  refine xc_region ?_
  refine x_val (r_move s1) (nd_of rfl) rfl ?_
  refine x_val (r_lss es ec (decide_eq_true (by omega))) (nd_of rfl) rfl ?_
  refine x_val (r_move es) (nd_of rfl) rfl ?_
  refine x_pass (d := 8) rfl rfl es rfl ?_
  refine x_pass (d := 8) rfl rfl (en rfl es) rfl ?_
  refine x_pass (d := 8) rfl rfl (en rfl (en rfl es)) rfl ?_
  refine x_pass (d := 8) rfl rfl (en rfl (en rfl (en rfl es))) rfl ?_
  refine x_val (r_pick_t (en rfl (en rfl (en rfl (en rfl es)))) ec) (nd_of rfl) rfl ?_
  refine xw_nil ?_
  refine hK3 _ _ ?_
  refine xc_gen (fun g hg => ?_)
  have s0 := (hg 0).trans (en rfl (en rfl (en rfl (en rfl (en rfl (en rfl (en rfl (en rfl s0))))))))
  have s1 := (hg 1).trans (en rfl (en rfl (en rfl (en rfl (en rfl (en rfl (en rfl (en rfl s1))))))))
  have s2 := (hg 2).trans (en rfl (en rfl (en rfl (en rfl (en rfl (en rfl (en rfl (en rfl s2))))))))
  have s4 := (hg 4).trans (en rfl (en rfl (en rfl (en rfl (en rfl (en rfl (en rfl (en rfl s4))))))))
  have s5 := (hg 5).trans (en rfl (en rfl (en rfl (en rfl (en rfl (en rfl (en rfl (en rfl s5))))))))
  have s13 := (hg 13).trans es
  clear hg
  refine xc_cond s13 (fun _ => ?_) (fun hc => by cases hc)
  refine xc_seq (fun K hK4 => ?_)
  refine xc_region ?_
  refine x_val (r_assign ec) (nd_of rfl) rfl ?_
  refine x_val (r_assign ec) (nd_of rfl) rfl ?_
  refine xw_nil ?_
  refine hK4 _ _ ?_
  refine xc_gen (fun g hg => ?_)
  have s0 := (hg 0).trans (en rfl (en rfl s0))
  have s1 := (hg 1).trans (en rfl (en rfl s1))
  have s2 := (hg 2).trans (en rfl (en rfl s2))
  have s4 := (hg 4).trans (en rfl es)
  have s5 := (hg 5).trans es
  have s13 := (hg 13).trans (en rfl (en rfl s13))
  clear hg
  refine xc_ret ?_
  refine bodyR_2 rfl s4 s5 ?_
  exact ⟨rfl, h.drop⟩
theorem chAt_far {i : Int} (ho : ChOk l) (hi : (l.length : Int) ≤ i) (h : SatL E w R) : Calls Try.prog 41 #[.agg (chC l), .int .i64 i] w (Ret fun u w' => u = .tuple #[.int .i32 0, .int .i64 5] ∧ SatL E w' R) := by
  refine calls_x Try.func41 rfl Try.ntmps41 rfl ?_
  refine xc_gen (fun g hg => ?_)
  have s0 := (hg 0).trans arg0
  have s1 := (hg 1).trans arg1
  clear hg
  refine xc_seq (fun K hK1 => ?_)
  refine xc_region ?_
  refine x_boxA h s0 rfl ?_
  intro b2 w h
  refine x_val (r_assign ec) (nd_of rfl) rfl ?_
  refine x_val (r_assign ec) (nd_of rfl) rfl ?_
  refine xw_nil ?_
  refine hK1 _ _ ?_
  refine xc_gen (fun g hg => ?_)
  have s0 := (hg 0).trans (en rfl (en rfl (en rfl s0)))
  have s1 := (hg 1).trans (en rfl (en rfl (en rfl s1)))
  have s2 := (hg 2).trans (en rfl (en rfl es))
  have s4 := (hg 4).trans (en rfl es)
  have s5 := (hg 5).trans es
  clear hg
  refine xc_seq (fun K hK2 => ?_)
  refine xc_seq (fun K hK3 => ?_)
  refine xc_region ?_
  refine x_val (r_move s1) (nd_of rfl) rfl ?_
  refine x_val (r_lss es ec (decide_eq_false (by omega))) (nd_of rfl) rfl ?_
  refine x_val (r_move es) (nd_of rfl) rfl ?_
  refine x_take (d := 8) rfl rfl es ?_
  refine x_val (r_move (en rfl (en rfl (en rfl s1)))) (nd_of rfl) rfl ?_
  refine x_take (d := 8) rfl rfl (en rfl es) ?_
  refine x_val (r_fieldAddr (o' := 32) Try.underlying58 rfl Try.sizeOf3 rfl (en rfl (en rfl (en rfl (en rfl s2)))) rfl) (nd_of rfl) rfl ?_
  refine x_take (d := 8) rfl rfl (en rfl (en rfl es)) ?_
  refine x_val (r_load h 0 rfl Try.isAgg3 es (chC_n (by assumption))) (nd_of rfl) rfl ?_
  refine x_take (d := 8) rfl rfl (en rfl (en rfl (en rfl es))) ?_
  refine x_val (r_geq (en rfl (en rfl es)) es (decide_eq_true (by omega))) (nd_of rfl) rfl ?_
  refine x_val (r_pick_f (en rfl (en rfl (en rfl (en rfl es)))) es) (nd_of rfl) rfl ?_
  refine xw_nil ?_
  refine hK3 _ _ ?_
  refine xc_gen (fun g hg => ?_)
  have s0 := (hg 0).trans (en rfl (en rfl (en rfl (en rfl (en rfl (en rfl (en rfl (en rfl s0))))))))
  have s1 := (hg 1).trans (en rfl (en rfl (en rfl (en rfl (en rfl (en rfl (en rfl (en rfl s1))))))))
  have s2 := (hg 2).trans (en rfl (en rfl (en rfl (en rfl (en rfl (en rfl (en rfl (en rfl s2))))))))
  have s4 := (hg 4).trans (en rfl (en rfl (en rfl (en rfl (en rfl (en rfl (en rfl (en rfl s4))))))))
  have s5 := (hg 5).trans (en rfl (en rfl (en rfl (en rfl (en rfl (en rfl (en rfl (en rfl s5))))))))
  have s13 := (hg 13).trans es
  clear hg
  refine xc_cond s13 (fun _ => ?_) (fun hc => by cases hc)
  refine xc_seq (fun K hK4 => ?_)
  refine xc_region ?_
  refine x_val (r_assign ec) (nd_of rfl) rfl ?_
  refine x_val (r_assign ec) (nd_of rfl) rfl ?_
  refine xw_nil ?_
  refine hK4 _ _ ?_
  refine xc_gen (fun g hg => ?_)
  have s0 := (hg 0).trans (en rfl (en rfl s0))
  have s1 := (hg 1).trans (en rfl (en rfl s1))
  have s2 := (hg 2).trans (en rfl (en rfl s2))
  have s4 := (hg 4).trans (en rfl es)
  have s5 := (hg 5).trans es
  have s13 := (hg 13).trans (en rfl (en rfl s13))
  clear hg
  refine xc_ret ?_
  refine bodyR_2 rfl s4 s5 ?_
  exact ⟨rfl, h.drop⟩

theorem count_step {j : Nat} (hr : l[j]? = some r) : (l.take (j + 1)).count 10 = (l.take j).count 10 + (if r = 10 then 1 else 0) := by
  rw [List.take_add_one, hr, List.count_append]
  by_cases h : r = 10 <;> simp [h]
theorem count_le {j : Nat} (ho : ChOk l) : (l.take j).count 10 ≤ 32 := by
  have h1 := List.count_le_length (a := (10 : Int)) (l := l.take j)
  have h2 := (ho.take j).len
  omega
theorem ahead_ok {i : Int} (ho : ChOk l) (h : SatL E w R) : Calls Try.prog 36 #[.agg (chC l), .int .i64 i] w (Ret fun u w' => u = .int .i64 ((l.take i.toNat).count 10 : Int) ∧ SatL E w' R) := by
  have hlen := ho.len
  obtain ⟨k, hk⟩ : ∃ k, k = min i.toNat l.length := ⟨_, rfl⟩
  have htk : l.take i.toNat = l.take k := by
    rw [hk]
    rcases Nat.le_total i.toNat l.length with h1 | h1
    · rw [Nat.min_eq_left h1]
    · rw [Nat.min_eq_right h1, List.take_length, List.take_of_length_le h1]
  rw [htk]
  refine calls_x Try.func36 rfl Try.ntmps36 rfl ?_
  refine xc_gen (fun g hg => ?_)
  have s0 := (hg 0).trans arg0
  have s1 := (hg 1).trans arg1
  clear hg
  refine xc_seq (fun K hK1 => ?_)
  refine xc_region ?_
  refine x_boxA h s0 rfl ?_
  intro b2 w h
  refine x_val (r_assign ec) (nd_of rfl) rfl ?_
  refine xw_nil ?_
  refine hK1 _ _ ?_
  refine xc_gen (fun g hg => ?_)
  have s0 := (hg 0).trans (en rfl (en rfl s0))
  have s1 := (hg 1).trans (en rfl (en rfl s1))
  have s2 := (hg 2).trans (en rfl es)
  have s4 := (hg 4).trans es
  clear hg
  refine xc_seq (fun K hK2 => ?_)
  refine xc_seq (fun K hK3 => ?_)
  refine xc_region ?_
  refine x_val (r_move s1) (nd_of rfl) rfl ?_
  refine x_val (r_max es ec (show _ = ((i.toNat : Int) : Int) from by split <;> omega)) (nd_of rfl) rfl ?_
  refine x_val (r_fieldAddr (o' := 32) Try.underlying58 rfl Try.sizeOf3 rfl (en rfl (en rfl s2)) rfl) (nd_of rfl) rfl ?_
  refine x_val (r_load h 0 rfl Try.isAgg3 es (chC_n (by assumption))) (nd_of rfl) rfl ?_
  refine x_val (r_min (en rfl (en rfl es)) es (show _ = ((k : Int) : Int) from by split <;> omega)) (nd_of rfl) rfl ?_
  refine x_val (r_move ec) (nd_of rfl) rfl ?_
  refine xw_nil ?_
  refine hK3 _ _ ?_
  refine xc_gen (fun g hg => ?_)
  have s0 := (hg 0).trans (en rfl (en rfl (en rfl (en rfl (en rfl (en rfl s0))))))
  have s1 := (hg 1).trans (en rfl (en rfl (en rfl (en rfl (en rfl (en rfl s1))))))
  have s2 := (hg 2).trans (en rfl (en rfl (en rfl (en rfl (en rfl (en rfl s2))))))
  have s4 := (hg 4).trans (en rfl (en rfl (en rfl (en rfl (en rfl (en rfl s4))))))
  have s10 := (hg 10).trans (en rfl es)
  have s11 := (hg 11).trans es
  clear hg
  refine xc_block ?_
  obtain ⟨G4, hG4⟩ : ∃ g0 : Nat → Value, g0 = g := ⟨_, rfl⟩
  have zG4_0 : G4 0 = _ := (congrFun hG4 0).trans s0
  have zG4_1 : G4 1 = _ := (congrFun hG4 1).trans s1
  have zG4_2 : G4 2 = _ := (congrFun hG4 2).trans s2
  have zG4_10 : G4 10 = _ := (congrFun hG4 10).trans s10
  refine xc_loop (fun m f w => (∃ j : Nat, m = k - j ∧ j ≤ k ∧ f 11 = .int .i64 (j : Int) ∧ f 4 = .int .i64 ((l.take j).count 10 : Int) ∧ SatL E w (Cells b2 (chC l) 58 :: R)) ∧ (f 0 = G4 0 ∧ f 1 = G4 1 ∧ f 2 = G4 2 ∧ f 10 = G4 10)) (k) ⟨⟨0, by omega, by omega, s11, s4, h⟩, ⟨congrFun hG4.symm 0, congrFun hG4.symm 1, congrFun hG4.symm 2, congrFun hG4.symm 10⟩⟩ ?_
  rintro m g w ⟨⟨j, hm, hj, s11, s4, h⟩, ⟨y0, y1, y2, y10⟩⟩
  have s0 := y0.trans zG4_0
  have s1 := y1.trans zG4_1
  have s2 := y2.trans zG4_2
  have s10 := y10.trans zG4_10
  refine xc_seq (fun K hK5 => ?_)
  refine xc_region ?_
  refine x_val (r_lss s11 s10 rfl) (nd_of rfl) rfl ?_
  refine xw_nil ?_
  refine hK5 _ _ ?_
  refine xc_gen (fun g hg => ?_)
  have s0 := (hg 0).trans (en rfl s0)
  have s1 := (hg 1).trans (en rfl s1)
  have s2 := (hg 2).trans (en rfl s2)
  have s4 := (hg 4).trans (en rfl s4)
  have s10 := (hg 10).trans (en rfl s10)
  have s11 := (hg 11).trans (en rfl s11)
  have s12 := (hg 12).trans es
  clear hg
  refine xc_seq (fun K hK6 => ?_)
  refine xc_cond s12 (fun hc => ?_) (fun hc => ?_)
  ·
    refine xc_skip ?_
    refine hK6 _ _ ?_
    refine xc_seq (fun K hK7 => ?_)
    refine xc_block ?_
    refine xc_seq (fun K hK8 => ?_)
    have hjk : j < k := by have := of_decide_eq_true hc; omega
    have hi : j < l.length := by omega
    obtain ⟨r, hr⟩ : ∃ r, l[j]? = some r := ⟨_, List.getElem?_eq_getElem hi⟩
    have hcs := count_step hr
    have hcl := count_le (j := j) ho
    have hcl1 := count_le (j := j + 1) ho
    refine xc_region ?_
    refine x_val (r_move s11) (nd_of rfl) rfl ?_
    refine x_val (r_assign es) (nd_of rfl) rfl ?_
    refine xw_nil ?_
    refine hK8 _ _ ?_
    refine xc_gen (fun g hg => ?_)
    have s0 := (hg 0).trans (en rfl (en rfl s0))
    have s1 := (hg 1).trans (en rfl (en rfl s1))
    have s2 := (hg 2).trans (en rfl (en rfl s2))
    have s4 := (hg 4).trans (en rfl (en rfl s4))
    have s5 := (hg 5).trans es
    have s10 := (hg 10).trans (en rfl (en rfl s10))
    have s11 := (hg 11).trans (en rfl (en rfl s11))
    have s12 := (hg 12).trans (en rfl (en rfl s12))
    clear hg
    refine xc_seq (fun K hK9 => ?_)
    refine xc_region ?_
    refine x_val (r_move s5) (nd_of rfl) rfl ?_
    refine x_val (r_fieldAddr (o' := 0) Try.underlying58 rfl Try.sizeOf56 rfl (en rfl s2) rfl) (nd_of rfl) rfl ?_
    refine x_val (r_indexArr Try.underlying56 Try.sizeOf21 es (en rfl es) (by omega)) (nd_of rfl) rfl ?_
    refine x_val (r_load h 0 rfl Try.isAgg21 es (by rw [Nat.mul_one]; exact chC_get hr)) (nd_of rfl) rfl ?_
    refine x_val (r_eql es ec rfl) (nd_of rfl) rfl ?_
    refine xw_nil ?_
    refine hK9 _ _ ?_
    refine xc_gen (fun g hg => ?_)
    have s0 := (hg 0).trans (en rfl (en rfl (en rfl (en rfl (en rfl s0)))))
    have s1 := (hg 1).trans (en rfl (en rfl (en rfl (en rfl (en rfl s1)))))
    have s2 := (hg 2).trans (en rfl (en rfl (en rfl (en rfl (en rfl s2)))))
    have s4 := (hg 4).trans (en rfl (en rfl (en rfl (en rfl (en rfl s4)))))
    have s5 := (hg 5).trans (en rfl (en rfl (en rfl (en rfl (en rfl s5)))))
    have s10 := (hg 10).trans (en rfl (en rfl (en rfl (en rfl (en rfl s10)))))
    have s11 := (hg 11).trans (en rfl (en rfl (en rfl (en rfl (en rfl s11)))))
    have s12 := (hg 12).trans (en rfl (en rfl (en rfl (en rfl (en rfl s12)))))
    have s18 := (hg 18).trans es
    clear hg
    refine xc_cond s18 (fun hc => ?_) (fun hc => ?_)
    ·
      have h10 : r = 10 := of_decide_eq_true (by assumption)
      refine xc_region ?_
      refine x_val (r_move s4) (nd_of rfl) rfl ?_
      refine x_val (r_add es ec (show _ = ((((l.take (j + 1)).count 10 : Nat) : Int) : Int) from by rw [hcs, if_pos h10]; rfl) (by unfold I64; omega)) (nd_of rfl) rfl ?_
      refine x_val (r_assign es) (nd_of rfl) rfl ?_
      refine xw_nil ?_
      refine hK7 _ _ ?_
      refine xc_gen (fun g hg => ?_)
      have s0 := (hg 0).trans (en rfl (en rfl (en rfl s0)))
      have s1 := (hg 1).trans (en rfl (en rfl (en rfl s1)))
      have s2 := (hg 2).trans (en rfl (en rfl (en rfl s2)))
      have s4 := (hg 4).trans es
      have s5 := (hg 5).trans (en rfl (en rfl (en rfl s5)))
      have s10 := (hg 10).trans (en rfl (en rfl (en rfl s10)))
      have s11 := (hg 11).trans (en rfl (en rfl (en rfl s11)))
      have s12 := (hg 12).trans (en rfl (en rfl (en rfl s12)))
      have s18 := (hg 18).trans (en rfl (en rfl (en rfl s18)))
      clear hg
      refine xc_region ?_
      refine x_val (r_add s11 ec (show _ = (((j + 1 : Nat) : Int) : Int) from by omega) (by unfold I64; omega)) (nd_of rfl) rfl ?_
      refine x_val (r_move es) (nd_of rfl) rfl ?_
      refine xw_nil ?_
      exact ⟨k - (j + 1), by omega, ⟨j + 1, rfl, by omega, es, (en rfl (en rfl s4)), h⟩, ⟨((en rfl (en rfl s0))).trans zG4_0.symm, ((en rfl (en rfl s1))).trans zG4_1.symm, ((en rfl (en rfl s2))).trans zG4_2.symm, ((en rfl (en rfl s10))).trans zG4_10.symm⟩⟩
    ·
      refine xc_skip ?_
      refine hK7 _ _ ?_
      have h10 : ¬ r = 10 := of_decide_eq_false (by assumption)
      simp only [if_neg h10, Nat.add_zero] at hcs
      rw [← hcs] at s4
      refine xc_region ?_
      refine x_val (r_add s11 ec (show _ = (((j + 1 : Nat) : Int) : Int) from by omega) (by unfold I64; omega)) (nd_of rfl) rfl ?_
      refine x_val (r_move es) (nd_of rfl) rfl ?_
      refine xw_nil ?_
      exact ⟨k - (j + 1), by omega, ⟨j + 1, rfl, by omega, es, (en rfl (en rfl s4)), h⟩, ⟨((en rfl (en rfl s0))).trans zG4_0.symm, ((en rfl (en rfl s1))).trans zG4_1.symm, ((en rfl (en rfl s2))).trans zG4_2.symm, ((en rfl (en rfl s10))).trans zG4_10.symm⟩⟩
  ·
    refine xc_exit ?_
    refine hK2 _ _ ?_
    refine xc_seq (fun K hK10 => ?_)
    obtain rfl : j = k := by have := of_decide_eq_false hc; omega
    refine xc_region ?_
    refine x_val (r_move s4) (nd_of rfl) rfl ?_
    refine x_val (r_assign es) (nd_of rfl) rfl ?_
    refine xw_nil ?_
    refine hK10 _ _ ?_
    refine xc_gen (fun g hg => ?_)
    have s0 := (hg 0).trans (en rfl (en rfl s0))
    have s1 := (hg 1).trans (en rfl (en rfl s1))
    have s2 := (hg 2).trans (en rfl (en rfl s2))
    have s4 := (hg 4).trans es
    have s10 := (hg 10).trans (en rfl (en rfl s10))
    have s11 := (hg 11).trans (en rfl (en rfl s11))
    have s12 := (hg 12).trans (en rfl (en rfl s12))
    clear hg
    refine xc_ret ?_
    refine bodyR_1 rfl s4 ?_
    exact ⟨rfl, h.drop⟩
theorem newlines_ok (ho : ChOk l) (h : SatL E w R) : Calls Try.prog 48 #[.agg (chC l)] w (Ret fun u w' => u = .int .i64 (l.count 10 : Int) ∧ SatL E w' R) := by
  refine calls_x Try.func48 rfl Try.ntmps48 rfl ?_
  refine xc_gen (fun g hg => ?_)
  have s0 := (hg 0).trans arg0
  clear hg
  refine xc_seq (fun K hK1 => ?_)
  refine xc_region ?_
  refine x_boxA h s0 rfl ?_
  intro b1 w h
  refine x_val (r_assign ec) (nd_of rfl) rfl ?_
  refine xw_nil ?_
  refine hK1 _ _ ?_
  refine xc_gen (fun g hg => ?_)
  have s0 := (hg 0).trans (en rfl (en rfl s0))
  have s1 := (hg 1).trans (en rfl es)
  have s2 := (hg 2).trans es
  clear hg
  refine xc_seq (fun K hK2 => ?_)
  refine xc_region ?_
  refine x_val (r_loadAgg h 0 rfl Try.isAgg58 Try.sizeOf58 s1 (Ok.le (by first | assumption | exact Ok.node (by assumption) | exact xOk.cells (by assumption) | exact ChOk.ok (by assumption))) (ext_full (Ok.size (by first | assumption | exact Ok.node (by assumption) | exact xOk.cells (by assumption) | exact ChOk.ok (by assumption))))) (nd_of rfl) rfl ?_
  refine x_val (r_fieldAddr (o' := 32) Try.underlying58 rfl Try.sizeOf3 rfl (en rfl s1) rfl) (nd_of rfl) rfl ?_
  refine x_val (r_load h 0 rfl Try.isAgg3 es (chC_n (by assumption))) (nd_of rfl) rfl ?_
  refine x_enter (r_call Try.call36 (.cons (en rfl (en rfl es)) (.cons es .nil))) (nd_of rfl) rfl (ahead_ok ho h) ?_
  rintro _ w ⟨rfl, h⟩
  refine x_val (r_assign es) (nd_of rfl) rfl ?_
  refine xw_nil ?_
  refine hK2 _ _ ?_
  refine xc_gen (fun g hg => ?_)
  have s0 := (hg 0).trans (en rfl (en rfl (en rfl (en rfl (en rfl s0)))))
  have s1 := (hg 1).trans (en rfl (en rfl (en rfl (en rfl (en rfl s1)))))
  have s2 := (hg 2).trans es
  clear hg
  refine xc_ret ?_
  refine bodyR_1 rfl s2 ?_
  exact ⟨by simp, h.drop⟩

/-- the place of the k-th newline -/
def nlAt : List Int → Int → Option Nat
  | [], _ => none
  | r :: l, k => if r = 10 then (if k = 0 then some 0 else (nlAt l (k - 1)).map (· + 1)) else (nlAt l k).map (· + 1)
def nlRes (o : Option Nat) : Value := match o with | some i => .tuple #[.int .i64 (i : Int), .bool true] | none => .tuple #[.int .i64 0, .bool false]
theorem nlAt_step {j : Nat} {k : Int} (hr : l[j]? = some r) : nlAt (l.drop j) k = if r = 10 then (if k = 0 then some 0 else (nlAt (l.drop (j + 1)) (k - 1)).map (· + 1)) else (nlAt (l.drop (j + 1)) k).map (· + 1) := by
  have hi := (List.getElem?_eq_some_iff.1 hr).1
  rw [List.drop_eq_getElem_cons hi, (List.getElem?_eq_some_iff.1 hr).2, nlAt]
theorem map_add (o : Option Nat) (j : Nat) : (o.map (· + 1)).map (· + j) = o.map (· + (j + 1)) := by
  cases o <;> simp; omega
theorem newlineAt_ok {k : Int} (ho : ChOk l) (hk0 : -1000000 ≤ k) (hk1 : k ≤ 1000000000000) (h : SatL E w R) : Calls Try.prog 39 #[.agg (chC l), .int .i64 k] w (Ret fun u w' => u = nlRes (nlAt l k) ∧ SatL E w' R) := by
  have hlen := ho.len
  refine calls_x Try.func39 rfl Try.ntmps39 rfl ?_
  refine xc_gen (fun g hg => ?_)
  have s0 := (hg 0).trans arg0
  have s1 := (hg 1).trans arg1
  clear hg
  refine xc_seq (fun K hK1 => ?_)
  refine xc_region ?_
  refine x_boxA h s0 rfl ?_
  intro b2 w h
  refine x_val (r_assign ec) (nd_of rfl) rfl ?_
  refine x_val (r_assign ec) (nd_of rfl) rfl ?_
  refine xw_nil ?_
  refine hK1 _ _ ?_
  refine xc_gen (fun g hg => ?_)
  have s0 := (hg 0).trans (en rfl (en rfl (en rfl s0)))
  have s1 := (hg 1).trans (en rfl (en rfl (en rfl s1)))
  have s2 := (hg 2).trans (en rfl (en rfl es))
  have s4 := (hg 4).trans (en rfl es)
  have s5 := (hg 5).trans es
  clear hg
  refine xc_seq (fun K hK2 => ?_)
  refine xc_seq (fun K hK3 => ?_)
  refine xc_region ?_
  refine x_val (r_fieldAddr (o' := 32) Try.underlying58 rfl Try.sizeOf3 rfl s2 rfl) (nd_of rfl) rfl ?_
  refine x_val (r_load h 0 rfl Try.isAgg3 es (chC_n (by assumption))) (nd_of rfl) rfl ?_
  refine x_val (r_move ec) (nd_of rfl) rfl ?_
  refine xw_nil ?_
  refine hK3 _ _ ?_
  refine xc_gen (fun g hg => ?_)
  have s0 := (hg 0).trans (en rfl (en rfl (en rfl s0)))
  have s1 := (hg 1).trans (en rfl (en rfl (en rfl s1)))
  have s2 := (hg 2).trans (en rfl (en rfl (en rfl s2)))
  have s4 := (hg 4).trans (en rfl (en rfl (en rfl s4)))
  have s5 := (hg 5).trans (en rfl (en rfl (en rfl s5)))
  have s8 := (hg 8).trans (en rfl es)
  have s9 := (hg 9).trans es
  clear hg
  refine xc_block ?_
  obtain ⟨G4, hG4⟩ : ∃ g0 : Nat → Value, g0 = g := ⟨_, rfl⟩
  have zG4_0 : G4 0 = _ := (congrFun hG4 0).trans s0
  have zG4_2 : G4 2 = _ := (congrFun hG4 2).trans s2
  have zG4_8 : G4 8 = _ := (congrFun hG4 8).trans s8
  refine xc_loop (fun m f w => (∃ (j : Nat) (q : Int), m = l.length - j ∧ j ≤ l.length ∧ f 9 = .int .i64 (j : Int) ∧ f 1 = .int .i64 q ∧ q ≤ k ∧ k - j ≤ q ∧ nlAt l k = (nlAt (l.drop j) q).map (· + j) ∧ SatL E w (Cells b2 (chC l) 58 :: R)) ∧ (f 0 = G4 0 ∧ f 2 = G4 2 ∧ f 8 = G4 8)) (l.length) ⟨⟨0, k, by omega, by omega, s9, s1, by omega, by omega, by simp, h⟩, ⟨congrFun hG4.symm 0, congrFun hG4.symm 2, congrFun hG4.symm 8⟩⟩ ?_
  rintro m g w ⟨⟨j, q, hm, hj, s9, s1, hq1, hq2, hnl, h⟩, ⟨y0, y2, y8⟩⟩
  have s0 := y0.trans zG4_0
  have s2 := y2.trans zG4_2
  have s8 := y8.trans zG4_8
  refine xc_seq (fun K hK5 => ?_)
  refine xc_region ?_
  refine x_val (r_lss s9 s8 rfl) (nd_of rfl) rfl ?_
  refine xw_nil ?_
  refine hK5 _ _ ?_
  refine xc_gen (fun g hg => ?_)
  have s0 := (hg 0).trans (en rfl s0)
  have s1 := (hg 1).trans (en rfl s1)
  have s2 := (hg 2).trans (en rfl s2)
  have s8 := (hg 8).trans (en rfl s8)
  have s9 := (hg 9).trans (en rfl s9)
  have s10 := (hg 10).trans es
  clear hg
  refine xc_seq (fun K hK6 => ?_)
  refine xc_cond s10 (fun hc => ?_) (fun hc => ?_)
  ·
    refine xc_skip ?_
    refine hK6 _ _ ?_
    refine xc_seq (fun K hK7 => ?_)
    refine xc_block ?_
    refine xc_seq (fun K hK8 => ?_)
    have hi : j < l.length := by have := of_decide_eq_true hc; omega
    obtain ⟨r, hr⟩ : ∃ r, l[j]? = some r := ⟨_, List.getElem?_eq_getElem hi⟩
    have hst := nlAt_step (k := q) hr
    refine xc_region ?_
    refine x_val (r_move s9) (nd_of rfl) rfl ?_
    refine x_val (r_assign es) (nd_of rfl) rfl ?_
    refine xw_nil ?_
    refine hK8 _ _ ?_
    refine xc_gen (fun g hg => ?_)
    have s0 := (hg 0).trans (en rfl (en rfl s0))
    have s1 := (hg 1).trans (en rfl (en rfl s1))
    have s2 := (hg 2).trans (en rfl (en rfl s2))
    have s6 := (hg 6).trans es
    have s8 := (hg 8).trans (en rfl (en rfl s8))
    have s9 := (hg 9).trans (en rfl (en rfl s9))
    have s10 := (hg 10).trans (en rfl (en rfl s10))
    clear hg
    refine xc_seq (fun K hK9 => ?_)
    refine xc_seq (fun K hK10 => ?_)
    refine xc_region ?_
    refine x_val (r_move s6) (nd_of rfl) rfl ?_
    refine x_val (r_fieldAddr (o' := 0) Try.underlying58 rfl Try.sizeOf56 rfl (en rfl s2) rfl) (nd_of rfl) rfl ?_
    refine x_val (r_indexArr Try.underlying56 Try.sizeOf21 es (en rfl es) (by omega)) (nd_of rfl) rfl ?_
    refine x_val (r_load h 0 rfl Try.isAgg21 es (by rw [Nat.mul_one]; exact chC_get hr)) (nd_of rfl) rfl ?_
    refine x_val (r_neq es ec rfl) (nd_of rfl) rfl ?_
    refine xw_nil ?_
    refine hK10 _ _ ?_
    refine xc_gen (fun g hg => ?_)
    have s0 := (hg 0).trans (en rfl (en rfl (en rfl (en rfl (en rfl s0)))))
    have s1 := (hg 1).trans (en rfl (en rfl (en rfl (en rfl (en rfl s1)))))
    have s2 := (hg 2).trans (en rfl (en rfl (en rfl (en rfl (en rfl s2)))))
    have s6 := (hg 6).trans (en rfl (en rfl (en rfl (en rfl (en rfl s6)))))
    have s8 := (hg 8).trans (en rfl (en rfl (en rfl (en rfl (en rfl s8)))))
    have s9 := (hg 9).trans (en rfl (en rfl (en rfl (en rfl (en rfl s9)))))
    have s10 := (hg 10).trans (en rfl (en rfl (en rfl (en rfl (en rfl s10)))))
    have s16 := (hg 16).trans es
    clear hg
    refine xc_cond s16 (fun hc => ?_) (fun hc => ?_)
    ·
      refine xc_exit ?_
      refine hK7 _ _ ?_
      have h10 : ¬ r = 10 := by simpa using of_decide_eq_true hc
      rw [if_neg h10] at hst
      refine xc_region ?_
      refine x_val (r_add s9 ec (show _ = (((j + 1 : Nat) : Int) : Int) from by omega) (by unfold I64; omega)) (nd_of rfl) rfl ?_
      refine x_val (r_move es) (nd_of rfl) rfl ?_
      refine xw_nil ?_
      exact ⟨l.length - (j + 1), by omega, ⟨j + 1, q, rfl, by omega, es, (en rfl (en rfl s1)), hq1, by omega, by rw [hnl, hst, map_add], h⟩, ⟨((en rfl (en rfl s0))).trans zG4_0.symm, ((en rfl (en rfl s2))).trans zG4_2.symm, ((en rfl (en rfl s8))).trans zG4_8.symm⟩⟩
    ·
      refine xc_skip ?_
      refine hK9 _ _ ?_
      refine xc_seq (fun K hK11 => ?_)
      refine xc_seq (fun K hK12 => ?_)
      have h10 : r = 10 := by simpa using of_decide_eq_false hc
      rw [if_pos h10] at hst
      refine xc_region ?_
      refine x_val (r_move s1) (nd_of rfl) rfl ?_
      refine x_val (r_eql es ec rfl) (nd_of rfl) rfl ?_
      refine xw_nil ?_
      refine hK12 _ _ ?_
      refine xc_gen (fun g hg => ?_)
      have s0 := (hg 0).trans (en rfl (en rfl s0))
      have s1 := (hg 1).trans (en rfl (en rfl s1))
      have s2 := (hg 2).trans (en rfl (en rfl s2))
      have s6 := (hg 6).trans (en rfl (en rfl s6))
      have s8 := (hg 8).trans (en rfl (en rfl s8))
      have s9 := (hg 9).trans (en rfl (en rfl s9))
      have s10 := (hg 10).trans (en rfl (en rfl s10))
      have s16 := (hg 16).trans (en rfl (en rfl s16))
      have s18 := (hg 18).trans es
      clear hg
      refine xc_cond s18 (fun hc => ?_) (fun hc => ?_)
      ·
        refine xc_seq (fun K hK13 => ?_)
        have h0 : q = 0 := of_decide_eq_true (by assumption)
        refine xc_region ?_
        refine x_val (r_move s6) (nd_of rfl) rfl ?_
        refine x_val (r_assign es) (nd_of rfl) rfl ?_
        refine x_val (r_assign ec) (nd_of rfl) rfl ?_
        refine xw_nil ?_
        refine hK13 _ _ ?_
        refine xc_gen (fun g hg => ?_)
        have s0 := (hg 0).trans (en rfl (en rfl (en rfl s0)))
        have s1 := (hg 1).trans (en rfl (en rfl (en rfl s1)))
        have s2 := (hg 2).trans (en rfl (en rfl (en rfl s2)))
        have s4 := (hg 4).trans (en rfl es)
        have s5 := (hg 5).trans es
        have s6 := (hg 6).trans (en rfl (en rfl (en rfl s6)))
        have s8 := (hg 8).trans (en rfl (en rfl (en rfl s8)))
        have s9 := (hg 9).trans (en rfl (en rfl (en rfl s9)))
        have s10 := (hg 10).trans (en rfl (en rfl (en rfl s10)))
        have s16 := (hg 16).trans (en rfl (en rfl (en rfl s16)))
        have s18 := (hg 18).trans (en rfl (en rfl (en rfl s18)))
        clear hg
        refine xc_ret ?_
        refine bodyR_2 rfl s4 s5 ?_
        exact ⟨by rw [hnl, hst, if_pos h0]; simp [nlRes], h.drop⟩
      ·
        refine xc_skip ?_
        refine hK11 _ _ ?_
        have h0 : ¬ q = 0 := of_decide_eq_false (by assumption)
        rw [if_neg h0] at hst
        refine xc_region ?_
        refine x_val (r_move s1) (nd_of rfl) rfl ?_
        refine x_val (r_sub es ec (show _ = (q - 1 : Int) from by rfl) (by unfold I64; omega)) (nd_of rfl) rfl ?_
        refine x_val (r_assign es) (nd_of rfl) rfl ?_
        refine xw_nil ?_
        refine hK7 _ _ ?_
        refine xc_gen (fun g hg => ?_)
        have s0 := (hg 0).trans (en rfl (en rfl (en rfl s0)))
        have s1 := (hg 1).trans es
        have s2 := (hg 2).trans (en rfl (en rfl (en rfl s2)))
        have s6 := (hg 6).trans (en rfl (en rfl (en rfl s6)))
        have s8 := (hg 8).trans (en rfl (en rfl (en rfl s8)))
        have s9 := (hg 9).trans (en rfl (en rfl (en rfl s9)))
        have s10 := (hg 10).trans (en rfl (en rfl (en rfl s10)))
        have s16 := (hg 16).trans (en rfl (en rfl (en rfl s16)))
        have s18 := (hg 18).trans (en rfl (en rfl (en rfl s18)))
        clear hg
        refine xc_region ?_
        refine x_val (r_add s9 ec (show _ = (((j + 1 : Nat) : Int) : Int) from by omega) (by unfold I64; omega)) (nd_of rfl) rfl ?_
        refine x_val (r_move es) (nd_of rfl) rfl ?_
        refine xw_nil ?_
        exact ⟨l.length - (j + 1), by omega, ⟨j + 1, q - 1, rfl, by omega, es, (en rfl (en rfl s1)), by omega, by omega, by rw [hnl, hst, map_add], h⟩, ⟨((en rfl (en rfl s0))).trans zG4_0.symm, ((en rfl (en rfl s2))).trans zG4_2.symm, ((en rfl (en rfl s8))).trans zG4_8.symm⟩⟩
  ·
    refine xc_exit ?_
    refine hK2 _ _ ?_
    refine xc_seq (fun K hK14 => ?_)
    have hjl : j = l.length := by have := of_decide_eq_false hc; omega
    rw [hjl, List.drop_length] at hnl
    refine xc_region ?_
    refine x_val (r_assign ec) (nd_of rfl) rfl ?_
    refine x_val (r_assign ec) (nd_of rfl) rfl ?_
    refine xw_nil ?_
    refine hK14 _ _ ?_
    refine xc_gen (fun g hg => ?_)
    have s0 := (hg 0).trans (en rfl (en rfl s0))
    have s1 := (hg 1).trans (en rfl (en rfl s1))
    have s2 := (hg 2).trans (en rfl (en rfl s2))
    have s4 := (hg 4).trans (en rfl es)
    have s5 := (hg 5).trans es
    have s8 := (hg 8).trans (en rfl (en rfl s8))
    have s9 := (hg 9).trans (en rfl (en rfl s9))
    have s10 := (hg 10).trans (en rfl (en rfl s10))
    clear hg
    refine xc_ret ?_
    refine bodyR_2 rfl s4 s5 ?_
    exact ⟨by rw [hnl]; rfl, h.drop⟩
end
end Go.Proofs.Ytmfkhfmidnojhaa
