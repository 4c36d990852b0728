/-
ChunkIs: the walk.
-/
import Derived.Test.YtimieinmphhmmaaH7
namespace Go.Proofs.Ytimieinmphhmmaa
open Go Go.RowKit
section
variable {E : Env} {R L : List SProp} {w : World} {l zs ys xs : List Int} {v u t : Value} {r : Int}
theorem is_big (hv : Reads E R v .i32 zs) (hb : 1000 < zs.length) (h : SatL E w R) : Calls Try.prog 4 #[v] w (Ret fun u w' => u = .bool true ∧ SatL E w' R) := by
  obtain ⟨a, cap, rfl, _, _⟩ := hv.slice h
  refine calls_x Try.func4 rfl Try.ntmps4 rfl ?_
  refine xc_gen (fun g hg => ?_)
  have s0 := (hg 0).trans arg0
  clear hg
  refine xc_seq (fun K hK1 => ?_)
  refine xc_region ?_
  refine x_val (r_assign ec) (nd_of rfl) rfl ?_
  refine xw_nil ?_
  refine hK1 _ _ ?_
  refine xc_gen (fun g hg => ?_)
  have s0 := (hg 0).trans (en rfl s0)
  have s2 := (hg 2).trans es
  clear hg
  refine xc_seq (fun K hK2 => ?_)
  refine xc_seq (fun K hK3 => ?_)
  refine xc_region ?_
  refine x_val (r_move s0) (nd_of rfl) rfl ?_
  refine x_val (r_len Try.underlying22 es) (nd_of rfl) rfl ?_
  refine x_val (r_gtr es ec (decide_eq_true (by omega))) (nd_of rfl) rfl ?_
  refine xw_nil ?_
  refine hK3 _ _ ?_
  refine xc_gen (fun g hg => ?_)
  have s0 := (hg 0).trans (en rfl (en rfl (en rfl s0)))
  have s2 := (hg 2).trans (en rfl (en rfl (en rfl s2)))
  have s9 := (hg 9).trans es
  clear hg
  refine xc_cond s9 (fun _ => ?_) (fun hc => by cases hc)
  refine xc_seq (fun K hK4 => ?_)
  refine xc_region ?_
  refine x_enter (r_call Try.call9 .nil) (nd_of rfl) rfl (known_ok h) ?_
  rintro _ w ⟨rfl, h⟩
  refine x_val (r_assign es) (nd_of rfl) rfl ?_
  refine xw_nil ?_
  refine hK4 _ _ ?_
  refine xc_gen (fun g hg => ?_)
  have s0 := (hg 0).trans (en rfl (en rfl s0))
  have s2 := (hg 2).trans es
  have s9 := (hg 9).trans (en rfl (en rfl s9))
  clear hg
  refine xc_ret ?_
  refine bodyR_1 rfl s2 ?_
  exact ⟨rfl, h⟩
/-- a slice of ints is appended -/
theorem append_reads {P : Program} {e t ty : TypeId} {bytes k : Nat} {v v2 : Value} {xs : List Value} (h : SatL E w (Row e 1 v k xs :: L)) (ht : P.underlying t = some (.slice e)) (hinfo : (P.info? e).map (fun i => (i.zero.map (·.cells.size), i.size, i.bytes)) = some (some 1, 1, bytes))
    {kk : IntKind} (hv : ReadsW w v2 kk zs) (hbytes : (k + zs.length) * bytes ≤ 140737488355328) (h63 : k + zs.length ≤ 9223372036854775807) :
    ∃ v' w', (Builtin.append_ #[t, t] ty #[v, v2]).run P w = .ok v' w' ∧ SatL E w' (Row e 1 v' (k + zs.length) (xs ++ zs.map fun r => Value.int kk r) :: L) := by
  obtain ⟨a, cap, rfl, h1, h2, hr⟩ := hv
  cases a with
  | some a =>
    exact run_append_at h ht hinfo (by simp) (fun j u hj => by
      rw [List.getElem?_map] at hj
      obtain ⟨r, hj1, rfl⟩ := Option.map_eq_some_iff.1 hj
      obtain ⟨a', e1, hc⟩ := hr j r hj1
      cases e1; exact hc) (fun u hu => by simp only [List.mem_map] at hu; obtain ⟨r, _, rfl⟩ := hu; rfl) hbytes h63
  | none =>
    have hz : zs = [] := by
      cases zs with
      | nil => rfl
      | cons r zs => obtain ⟨a', h, _⟩ := hr 0 r rfl; cases h
    subst hz
    obtain ⟨a0, c0, rfl, hle, hcm⟩ := h.rowVal
    refine ⟨.slice a0 k c0, w, ?_, ?_⟩
    · obtain ⟨i, hi, _⟩ := Option.map_eq_some_iff.1 hinfo
      cases a0 <;> simp [Builtin.append_, run_underlying ht, sizeOf, typeInfo, hi, Builtin.lenOf, Builtin.firstCells, hle, storeCells]
    · simpa using h
theorem is_err {e : Int} (hof : ∀ {v : Value} {R : List SProp} {w : World}, Reads E R v .i32 zs → SatL E w R → Calls Try.prog 10 #[v] w (Ret fun u w' => u = .tuple #[.agg (chC []), .int .i64 e] ∧ SatL E w' R))
    (hrf : ∀ {v : Value} {R : List SProp} {w : World}, Reads E R v .i32 zs → SatL E w R → Calls Try.prog 11 #[v] w (Ret fun u w' => u = .int .i64 e ∧ SatL E w' R)) (he : e ≠ 0)
    (hv : Reads E R v .i32 zs) (hz : zs.length ≤ 1000) (h : SatL E w R) : Calls Try.prog 4 #[v] w (Ret fun u w' => u = .bool true ∧ SatL E w' R) := by
  obtain ⟨a, cap, rfl, hl1, hl2⟩ := hv.slice h
  have hnil := chOk_nil
  refine calls_x Try.func4 rfl Try.ntmps4 rfl ?_
  refine xc_gen (fun g hg => ?_)
  have s0 := (hg 0).trans arg0
  clear hg
  refine xc_seq (fun K hK1 => ?_)
  refine xc_region ?_
  refine x_val (r_assign ec) (nd_of rfl) rfl ?_
  refine xw_nil ?_
  refine hK1 _ _ ?_
  refine xc_gen (fun g hg => ?_)
  have s0 := (hg 0).trans (en rfl s0)
  have s2 := (hg 2).trans es
  clear hg
  refine xc_seq (fun K hK2 => ?_)
  refine xc_seq (fun K hK3 => ?_)
  refine xc_region ?_
  refine x_val (r_move s0) (nd_of rfl) rfl ?_
  refine x_val (r_len Try.underlying22 es) (nd_of rfl) rfl ?_
  refine x_val (r_gtr es ec (decide_eq_false (by omega))) (nd_of rfl) rfl ?_
  refine xw_nil ?_
  refine hK3 _ _ ?_
  refine xc_gen (fun g hg => ?_)
  have s0 := (hg 0).trans (en rfl (en rfl (en rfl s0)))
  have s2 := (hg 2).trans (en rfl (en rfl (en rfl s2)))
  have s9 := (hg 9).trans es
  clear hg
  refine xc_cond s9 (fun hc => by cases hc) (fun _ => ?_)
  refine xc_skip ?_
  refine hK2 _ _ ?_
  refine xc_seq (fun K hK4 => ?_)
  refine xc_region ?_
  refine x_bslice0 h Try.underlying22 Try.sizeOf21 rfl ?_; intro bn w h
  refine x_val (r_move (en rfl s0)) (nd_of rfl) rfl ?_
  obtain ⟨v2, w2, hrun, h2⟩ := append_reads (P := Try.prog) (ty := 22) (bytes := 4) h Try.underlying22 (by kernel_rfl) (hv _ h.drop) (by omega) (by omega); clear h; refine x_val (r_append (en rfl es) es hrun) (nd_of rfl) rfl ?_; have h := h2; rw [Nat.zero_add, List.nil_append] at h
  refine x_val (r_assign es) (nd_of rfl) rfl ?_
  refine xw_nil ?_
  refine hK4 _ _ ?_
  refine xc_gen (fun g hg => ?_)
  have s0 := (hg 0).trans (en rfl (en rfl (en rfl (en rfl s0))))
  have s2 := (hg 2).trans (en rfl (en rfl (en rfl (en rfl s2))))
  have s3 := (hg 3).trans es
  have s9 := (hg 9).trans (en rfl (en rfl (en rfl (en rfl s9))))
  clear hg
  refine xc_seq (fun K hK5 => ?_)
  refine xc_region ?_
  refine x_val (r_move s3) (nd_of rfl) rfl ?_
  refine x_enter (r_call Try.call10 (.cons es .nil)) (nd_of rfl) rfl (hof rowReads h) ?_
  rintro _ w ⟨rfl, h⟩
  refine x_val (r_move es) (nd_of rfl) rfl ?_
  refine x_val (r_extract es gc0) (nd_of rfl) rfl ?_
  refine x_val (r_extract (en rfl es) gc1) (nd_of rfl) rfl ?_
  refine x_declA h Try.zeroValue26 Try.sizeOf26 rfl (en rfl (en rfl es)) (by first | assumption | exact Ok.node (by assumption) | exact ChOk.ok (by assumption)) rfl ?_
  intro b4 w h
  refine x_val (r_assign (en rfl es)) (nd_of rfl) rfl ?_
  refine xw_nil ?_
  refine hK5 _ _ ?_
  refine xc_gen (fun g hg => ?_)
  have s0 := (hg 0).trans (en rfl (en rfl (en rfl (en rfl (en rfl (en rfl (en rfl s0)))))))
  have s2 := (hg 2).trans (en rfl (en rfl (en rfl (en rfl (en rfl (en rfl (en rfl s2)))))))
  have s3 := (hg 3).trans (en rfl (en rfl (en rfl (en rfl (en rfl (en rfl (en rfl s3)))))))
  have s4 := (hg 4).trans (en rfl es)
  have s5 := (hg 5).trans es
  have s9 := (hg 9).trans (en rfl (en rfl (en rfl (en rfl (en rfl (en rfl (en rfl s9)))))))
  clear hg
  refine xc_seq (fun K hK6 => ?_)
  refine xc_seq (fun K hK7 => ?_)
  refine xc_region ?_
  refine x_val (r_move s5) (nd_of rfl) rfl ?_
  refine x_val (r_move (en rfl s0)) (nd_of rfl) rfl ?_
  refine x_enter (r_call Try.call11 (.cons es .nil)) (nd_of rfl) rfl (hrf hv.up.up h) ?_
  rintro _ w ⟨rfl, h⟩
  refine x_val (r_neq (en rfl (en rfl es)) es (decide_eq_false (by omega))) (nd_of rfl) rfl ?_
  refine x_val (r_move es) (nd_of rfl) rfl ?_
  refine x_take (d := 23) rfl rfl es ?_
  refine x_val (r_move (en rfl (en rfl (en rfl (en rfl (en rfl s3)))))) (nd_of rfl) rfl ?_
  refine x_take (d := 23) rfl rfl (en rfl es) ?_
  refine x_val (r_move (en rfl (en rfl (en rfl (en rfl (en rfl (en rfl s0))))))) (nd_of rfl) rfl ?_
  refine x_take (d := 23) rfl rfl (en rfl (en rfl es)) ?_
  refine x_enter (r_call Try.call12 (.cons (en rfl es) (.cons es .nil))) (nd_of rfl) rfl (same_yes (zs := zs) rowReads.up hv.up.up (by omega) h) ?_
  rintro _ w ⟨rfl, h⟩
  refine x_take (d := 23) rfl rfl (en rfl (en rfl (en rfl es))) ?_
  refine x_val (r_not es rfl) (nd_of rfl) rfl ?_
  refine x_val (r_pick_f (en rfl (en rfl (en rfl (en rfl es)))) es) (nd_of rfl) rfl ?_
  refine xw_nil ?_
  refine hK7 _ _ ?_
  refine xc_gen (fun g hg => ?_)
  have s0 := (hg 0).trans (en rfl (en rfl (en rfl (en rfl (en rfl (en rfl (en rfl (en rfl (en rfl (en rfl s0))))))))))
  have s2 := (hg 2).trans (en rfl (en rfl (en rfl (en rfl (en rfl (en rfl (en rfl (en rfl (en rfl (en rfl s2))))))))))
  have s3 := (hg 3).trans (en rfl (en rfl (en rfl (en rfl (en rfl (en rfl (en rfl (en rfl (en rfl (en rfl s3))))))))))
  have s4 := (hg 4).trans (en rfl (en rfl (en rfl (en rfl (en rfl (en rfl (en rfl (en rfl (en rfl (en rfl s4))))))))))
  have s5 := (hg 5).trans (en rfl (en rfl (en rfl (en rfl (en rfl (en rfl (en rfl (en rfl (en rfl (en rfl s5))))))))))
  have s9 := (hg 9).trans (en rfl (en rfl (en rfl (en rfl (en rfl (en rfl (en rfl (en rfl (en rfl (en rfl s9))))))))))
  have s28 := (hg 28).trans es
  clear hg
  refine xc_cond s28 (fun hc => by cases hc) (fun _ => ?_)
  refine xc_skip ?_
  refine hK6 _ _ ?_
  refine xc_seq (fun K hK8 => ?_)
  refine xc_seq (fun K hK9 => ?_)
  refine xc_region ?_
  refine x_val (r_move s5) (nd_of rfl) rfl ?_
  refine x_val (r_neq es ec (decide_eq_true (by omega))) (nd_of rfl) rfl ?_
  refine xw_nil ?_
  refine hK9 _ _ ?_
  refine xc_gen (fun g hg => ?_)
  have s0 := (hg 0).trans (en rfl (en rfl s0))
  have s2 := (hg 2).trans (en rfl (en rfl s2))
  have s3 := (hg 3).trans (en rfl (en rfl s3))
  have s4 := (hg 4).trans (en rfl (en rfl s4))
  have s5 := (hg 5).trans (en rfl (en rfl s5))
  have s9 := (hg 9).trans (en rfl (en rfl s9))
  have s28 := (hg 28).trans (en rfl (en rfl s28))
  have s30 := (hg 30).trans es
  clear hg
  refine xc_cond s30 (fun _ => ?_) (fun hc => by cases hc)
  refine xc_seq (fun K hK10 => ?_)
  refine xc_region ?_
  refine x_val (r_loadAgg h 0 rfl Try.isAgg26 Try.sizeOf26 s4 (Ok.le (by first | assumption | exact Ok.node (by assumption) | exact ChOk.ok (by assumption))) (ext_full (Ok.size (by first | assumption | exact Ok.node (by assumption) | exact ChOk.ok (by assumption))))) (nd_of rfl) rfl ?_
  refine x_val (r_buildZ Try.underlying26 zC Try.sizeOf24 Try.sizeOf3) (nd_of rfl) rfl ?_
  refine x_val (r_eqCh (r := true) hnil hnil (en rfl es) es Try.underlying26 Try.underlying24 Try.underlying21 Try.underlying3 (by kernel_rfl) (by kernel_rfl) (by kernel_rfl) (by kernel_rfl) rfl rfl (by decide) (by decide) (by kernel_rfl) (by kernel_rfl) (decide_eq_true rfl)) (nd_of rfl) rfl ?_
  refine x_val (r_move es) (nd_of rfl) rfl ?_
  refine x_take (d := 34) rfl rfl es ?_
  refine x_enter (r_call Try.call9 .nil) (nd_of rfl) rfl (known_ok h) ?_
  rintro _ w ⟨rfl, h⟩
  refine x_val (r_pick_t (en rfl es) es) (nd_of rfl) rfl ?_
  refine x_val (r_assign es) (nd_of rfl) rfl ?_
  refine xw_nil ?_
  refine hK10 _ _ ?_
  refine xc_gen (fun g hg => ?_)
  have s0 := (hg 0).trans (en rfl (en rfl (en rfl (en rfl (en rfl (en rfl (en rfl s0)))))))
  have s2 := (hg 2).trans es
  have s3 := (hg 3).trans (en rfl (en rfl (en rfl (en rfl (en rfl (en rfl (en rfl s3)))))))
  have s4 := (hg 4).trans (en rfl (en rfl (en rfl (en rfl (en rfl (en rfl (en rfl s4)))))))
  have s5 := (hg 5).trans (en rfl (en rfl (en rfl (en rfl (en rfl (en rfl (en rfl s5)))))))
  have s9 := (hg 9).trans (en rfl (en rfl (en rfl (en rfl (en rfl (en rfl (en rfl s9)))))))
  have s28 := (hg 28).trans (en rfl (en rfl (en rfl (en rfl (en rfl (en rfl (en rfl s28)))))))
  have s30 := (hg 30).trans (en rfl (en rfl (en rfl (en rfl (en rfl (en rfl (en rfl s30)))))))
  clear hg
  refine xc_ret ?_
  refine bodyR_1 rfl s2 ?_
  exact ⟨rfl, h.drop.drop⟩
theorem is_good (hv : Reads E R v .i32 zs) (ho : ChOk zs) (h : SatL E w R) : Calls Try.prog 4 #[v] w (Ret fun u w' => u = .bool true ∧ SatL E w' R) := by
  obtain ⟨a, cap, rfl, hl1, hl2⟩ := hv.slice h
  have hz := ho.len
  have hnil := chOk_nil
  refine calls_x Try.func4 rfl Try.ntmps4 rfl ?_
  refine xc_gen (fun g hg => ?_)
  have s0 := (hg 0).trans arg0
  clear hg
  refine xc_seq (fun K hK1 => ?_)
  refine xc_region ?_
  refine x_val (r_assign ec) (nd_of rfl) rfl ?_
  refine xw_nil ?_
  refine hK1 _ _ ?_
  refine xc_gen (fun g hg => ?_)
  have s0 := (hg 0).trans (en rfl s0)
  have s2 := (hg 2).trans es
  clear hg
  refine xc_seq (fun K hK2 => ?_)
  refine xc_seq (fun K hK3 => ?_)
  refine xc_region ?_
  refine x_val (r_move s0) (nd_of rfl) rfl ?_
  refine x_val (r_len Try.underlying22 es) (nd_of rfl) rfl ?_
  refine x_val (r_gtr es ec (decide_eq_false (by omega))) (nd_of rfl) rfl ?_
  refine xw_nil ?_
  refine hK3 _ _ ?_
  refine xc_gen (fun g hg => ?_)
  have s0 := (hg 0).trans (en rfl (en rfl (en rfl s0)))
  have s2 := (hg 2).trans (en rfl (en rfl (en rfl s2)))
  have s9 := (hg 9).trans es
  clear hg
  refine xc_cond s9 (fun hc => by cases hc) (fun _ => ?_)
  refine xc_skip ?_
  refine hK2 _ _ ?_
  refine xc_seq (fun K hK4 => ?_)
  refine xc_region ?_
  refine x_bslice0 h Try.underlying22 Try.sizeOf21 rfl ?_; intro bn w h
  refine x_val (r_move (en rfl s0)) (nd_of rfl) rfl ?_
  obtain ⟨v2, w2, hrun, h2⟩ := append_reads (P := Try.prog) (ty := 22) (bytes := 4) h Try.underlying22 (by kernel_rfl) (hv _ h.drop) (by omega) (by omega); clear h; refine x_val (r_append (en rfl es) es hrun) (nd_of rfl) rfl ?_; have h := h2; rw [Nat.zero_add, List.nil_append] at h
  refine x_val (r_assign es) (nd_of rfl) rfl ?_
  refine xw_nil ?_
  refine hK4 _ _ ?_
  refine xc_gen (fun g hg => ?_)
  have s0 := (hg 0).trans (en rfl (en rfl (en rfl (en rfl s0))))
  have s2 := (hg 2).trans (en rfl (en rfl (en rfl (en rfl s2))))
  have s3 := (hg 3).trans es
  have s9 := (hg 9).trans (en rfl (en rfl (en rfl (en rfl s9))))
  clear hg
  refine xc_seq (fun K hK5 => ?_)
  refine xc_region ?_
  refine x_val (r_move s3) (nd_of rfl) rfl ?_
  refine x_enter (r_call Try.call10 (.cons es .nil)) (nd_of rfl) rfl (of_ok (zs := zs) rowReads ho h) ?_
  rintro _ w ⟨rfl, h⟩
  refine x_val (r_move es) (nd_of rfl) rfl ?_
  refine x_val (r_extract es gc0) (nd_of rfl) rfl ?_
  refine x_val (r_extract (en rfl es) gc1) (nd_of rfl) rfl ?_
  refine x_declA h Try.zeroValue26 Try.sizeOf26 rfl (en rfl (en rfl es)) (by first | assumption | exact Ok.node (by assumption) | exact ChOk.ok (by assumption)) rfl ?_
  intro b4 w h
  refine x_val (r_assign (en rfl es)) (nd_of rfl) rfl ?_
  refine xw_nil ?_
  refine hK5 _ _ ?_
  refine xc_gen (fun g hg => ?_)
  have s0 := (hg 0).trans (en rfl (en rfl (en rfl (en rfl (en rfl (en rfl (en rfl s0)))))))
  have s2 := (hg 2).trans (en rfl (en rfl (en rfl (en rfl (en rfl (en rfl (en rfl s2)))))))
  have s3 := (hg 3).trans (en rfl (en rfl (en rfl (en rfl (en rfl (en rfl (en rfl s3)))))))
  have s4 := (hg 4).trans (en rfl es)
  have s5 := (hg 5).trans es
  have s9 := (hg 9).trans (en rfl (en rfl (en rfl (en rfl (en rfl (en rfl (en rfl s9)))))))
  clear hg
  refine xc_seq (fun K hK6 => ?_)
  refine xc_seq (fun K hK7 => ?_)
  refine xc_region ?_
  refine x_val (r_move s5) (nd_of rfl) rfl ?_
  refine x_val (r_move (en rfl s0)) (nd_of rfl) rfl ?_
  refine x_enter (r_call Try.call11 (.cons es .nil)) (nd_of rfl) rfl (refOf_all (ee := 0) hv.up.up ho.code (by omega) (by rw [if_neg (by omega)]) h) ?_
  rintro _ w ⟨rfl, h⟩
  refine x_val (r_neq (en rfl (en rfl es)) es (r := false) rfl) (nd_of rfl) rfl ?_
  refine x_val (r_move es) (nd_of rfl) rfl ?_
  refine x_take (d := 23) rfl rfl es ?_
  refine x_val (r_move (en rfl (en rfl (en rfl (en rfl (en rfl s3)))))) (nd_of rfl) rfl ?_
  refine x_take (d := 23) rfl rfl (en rfl es) ?_
  refine x_val (r_move (en rfl (en rfl (en rfl (en rfl (en rfl (en rfl s0))))))) (nd_of rfl) rfl ?_
  refine x_take (d := 23) rfl rfl (en rfl (en rfl es)) ?_
  refine x_enter (r_call Try.call12 (.cons (en rfl es) (.cons es .nil))) (nd_of rfl) rfl (same_yes (zs := zs) rowReads.up hv.up.up (by omega) h) ?_
  rintro _ w ⟨rfl, h⟩
  have h := h.f1
  obtain ⟨gg, cg, rfl, _, _⟩ := h.rowVal
  refine x_take (d := 23) rfl rfl (en rfl (en rfl (en rfl es))) ?_
  refine x_val (r_not es rfl) (nd_of rfl) rfl ?_
  refine x_val (r_pick_f (en rfl (en rfl (en rfl (en rfl es)))) es) (nd_of rfl) rfl ?_
  refine xw_nil ?_
  refine hK7 _ _ ?_
  refine xc_gen (fun g hg => ?_)
  have s0 := (hg 0).trans (en rfl (en rfl (en rfl (en rfl (en rfl (en rfl (en rfl (en rfl (en rfl (en rfl s0))))))))))
  have s2 := (hg 2).trans (en rfl (en rfl (en rfl (en rfl (en rfl (en rfl (en rfl (en rfl (en rfl (en rfl s2))))))))))
  have s3 := (hg 3).trans (en rfl (en rfl (en rfl (en rfl (en rfl (en rfl (en rfl (en rfl (en rfl (en rfl s3))))))))))
  have s4 := (hg 4).trans (en rfl (en rfl (en rfl (en rfl (en rfl (en rfl (en rfl (en rfl (en rfl (en rfl s4))))))))))
  have s5 := (hg 5).trans (en rfl (en rfl (en rfl (en rfl (en rfl (en rfl (en rfl (en rfl (en rfl (en rfl s5))))))))))
  have s9 := (hg 9).trans (en rfl (en rfl (en rfl (en rfl (en rfl (en rfl (en rfl (en rfl (en rfl (en rfl s9))))))))))
  have s28 := (hg 28).trans es
  clear hg
  refine xc_cond s28 (fun hc => by cases hc) (fun _ => ?_)
  refine xc_skip ?_
  refine hK6 _ _ ?_
  refine xc_seq (fun K hK8 => ?_)
  refine xc_seq (fun K hK9 => ?_)
  refine xc_region ?_
  refine x_val (r_move s5) (nd_of rfl) rfl ?_
  refine x_val (r_neq es ec (r := false) rfl) (nd_of rfl) rfl ?_
  refine xw_nil ?_
  refine hK9 _ _ ?_
  refine xc_gen (fun g hg => ?_)
  have s0 := (hg 0).trans (en rfl (en rfl s0))
  have s2 := (hg 2).trans (en rfl (en rfl s2))
  have s3 := (hg 3).trans (en rfl (en rfl s3))
  have s4 := (hg 4).trans (en rfl (en rfl s4))
  have s5 := (hg 5).trans (en rfl (en rfl s5))
  have s9 := (hg 9).trans (en rfl (en rfl s9))
  have s28 := (hg 28).trans (en rfl (en rfl s28))
  have s30 := (hg 30).trans es
  clear hg
  refine xc_cond s30 (fun hc => by cases hc) (fun _ => ?_)
  refine xc_skip ?_
  refine hK8 _ _ ?_
  refine xc_seq (fun K hK10 => ?_)
  refine xc_seq (fun K hK11 => ?_)
  refine xc_region ?_
  refine x_val (r_move s3) (nd_of rfl) rfl ?_
  refine x_val (r_len Try.underlying22 es) (nd_of rfl) rfl ?_
  refine x_val (r_move ec) (nd_of rfl) rfl ?_
  refine xw_nil ?_
  refine hK11 _ _ ?_
  refine xc_gen (fun g hg => ?_)
  have s0 := (hg 0).trans (en rfl (en rfl (en rfl s0)))
  have s2 := (hg 2).trans (en rfl (en rfl (en rfl s2)))
  have s3 := (hg 3).trans (en rfl (en rfl (en rfl s3)))
  have s4 := (hg 4).trans (en rfl (en rfl (en rfl s4)))
  have s5 := (hg 5).trans (en rfl (en rfl (en rfl s5)))
  have s9 := (hg 9).trans (en rfl (en rfl (en rfl s9)))
  have s28 := (hg 28).trans (en rfl (en rfl (en rfl s28)))
  have s30 := (hg 30).trans (en rfl (en rfl (en rfl s30)))
  have s38 := (hg 38).trans (en rfl es)
  have s39 := (hg 39).trans es
  clear hg
  refine xc_block ?_
  obtain ⟨G12, hG12⟩ : ∃ g0 : Nat → Value, g0 = g := ⟨_, rfl⟩
  have z0 : G12 0 = _ := (congrFun hG12 0).trans s0
  have z2 : G12 2 = _ := (congrFun hG12 2).trans s2
  have z3 : G12 3 = _ := (congrFun hG12 3).trans s3
  have z4 : G12 4 = _ := (congrFun hG12 4).trans s4
  have z5 : G12 5 = _ := (congrFun hG12 5).trans s5
  have z9 : G12 9 = _ := (congrFun hG12 9).trans s9
  have z28 : G12 28 = _ := (congrFun hG12 28).trans s28
  have z30 : G12 30 = _ := (congrFun hG12 30).trans s30
  have z38 : G12 38 = _ := (congrFun hG12 38).trans s38
  refine xc_loop (fun m f w => (∃ (k : Nat) (cs : List Value), m = zs.length - k ∧ k ≤ zs.length ∧ f 39 = .int .i64 (k : Int) ∧ SatL E w (Row 21 1 (.slice gg zs.length cg) zs.length cs :: Cells b4 (chC zs) 26 :: R)) ∧ (f 0 = G12 0 ∧ f 2 = G12 2 ∧ f 3 = G12 3 ∧ f 4 = G12 4 ∧ f 5 = G12 5 ∧ f 9 = G12 9 ∧ f 28 = G12 28 ∧ f 30 = G12 30 ∧ f 38 = G12 38)) (zs.length) ⟨⟨0, _, by omega, by omega, s39, h⟩, ⟨congrFun hG12.symm 0, congrFun hG12.symm 2, congrFun hG12.symm 3, congrFun hG12.symm 4, congrFun hG12.symm 5, congrFun hG12.symm 9, congrFun hG12.symm 28, congrFun hG12.symm 30, congrFun hG12.symm 38⟩⟩ ?_
  rintro m g w ⟨⟨k, cs, hm, hk, s39, h⟩, ⟨y0, y2, y3, y4, y5, y9, y28, y30, y38⟩⟩
  have s0 := y0.trans z0
  have s2 := y2.trans z2
  have s3 := y3.trans z3
  have s4 := y4.trans z4
  have s5 := y5.trans z5
  have s9 := y9.trans z9
  have s28 := y28.trans z28
  have s30 := y30.trans z30
  have s38 := y38.trans z38
  refine xc_seq (fun K hK13 => ?_)
  refine xc_region ?_
  refine x_val (r_lss s39 s38 rfl) (nd_of rfl) rfl ?_
  refine xw_nil ?_
  refine hK13 _ _ ?_
  refine xc_gen (fun g hg => ?_)
  have s0 := (hg 0).trans (en rfl s0)
  have s2 := (hg 2).trans (en rfl s2)
  have s3 := (hg 3).trans (en rfl s3)
  have s4 := (hg 4).trans (en rfl s4)
  have s5 := (hg 5).trans (en rfl s5)
  have s9 := (hg 9).trans (en rfl s9)
  have s28 := (hg 28).trans (en rfl s28)
  have s30 := (hg 30).trans (en rfl s30)
  have s38 := (hg 38).trans (en rfl s38)
  have s39 := (hg 39).trans (en rfl s39)
  have s40 := (hg 40).trans es
  clear hg
  refine xc_seq (fun K hK14 => ?_)
  refine xc_cond s40 (fun hc => ?_) (fun hc => ?_)
  ·
    refine xc_skip ?_
    refine hK14 _ _ ?_
    refine xc_seq (fun K hK15 => ?_)
    refine xc_block ?_
    refine xc_seq (fun K hK16 => ?_)
    have hi : k < zs.length := by have := of_decide_eq_true hc; omega
    obtain ⟨g', cp, cur, hr, h'⟩ := h.openRow (by omega)
    clear h
    have hvv := hr.val
    simp at hvv
    obtain ⟨rfl, rfl⟩ := hvv
    have h := h'
    have hsz : k * 1 < cur.size := by have h1 := hr.size; have h2 := hr.le; omega
    refine xc_region ?_
    refine x_val (r_move s39) (nd_of rfl) rfl ?_
    refine x_val (r_assign es) (nd_of rfl) rfl ?_
    refine xw_nil ?_
    refine hK16 _ _ ?_
    refine xc_gen (fun g hg => ?_)
    have s0 := (hg 0).trans (en rfl (en rfl s0))
    have s2 := (hg 2).trans (en rfl (en rfl s2))
    have s3 := (hg 3).trans (en rfl (en rfl s3))
    have s4 := (hg 4).trans (en rfl (en rfl s4))
    have s5 := (hg 5).trans (en rfl (en rfl s5))
    have s6 := (hg 6).trans es
    have s9 := (hg 9).trans (en rfl (en rfl s9))
    have s28 := (hg 28).trans (en rfl (en rfl s28))
    have s30 := (hg 30).trans (en rfl (en rfl s30))
    have s38 := (hg 38).trans (en rfl (en rfl s38))
    have s39 := (hg 39).trans (en rfl (en rfl s39))
    have s40 := (hg 40).trans (en rfl (en rfl s40))
    clear hg
    refine xc_region ?_
    refine x_val (r_move s3) (nd_of rfl) rfl ?_
    refine x_val (r_move (en rfl s6)) (nd_of rfl) rfl ?_
    refine x_val (r_indexAddrN Try.underlying22 Try.sizeOf21 (en rfl es) es (by omega)) (nd_of rfl) rfl ?_
    refine x_st (r_store h 0 rfl Try.sizeOf21 es ec rfl (Array.getElem?_eq_getElem hsz)) rfl (h.u0 rfl) ?_
    intro w h
    refine xw_nil ?_
    refine hK15 _ _ ?_
    refine xc_gen (fun g hg => ?_)
    have s0 := (hg 0).trans (en rfl (en rfl (en rfl s0)))
    have s2 := (hg 2).trans (en rfl (en rfl (en rfl s2)))
    have s3 := (hg 3).trans (en rfl (en rfl (en rfl s3)))
    have s4 := (hg 4).trans (en rfl (en rfl (en rfl s4)))
    have s5 := (hg 5).trans (en rfl (en rfl (en rfl s5)))
    have s6 := (hg 6).trans (en rfl (en rfl (en rfl s6)))
    have s9 := (hg 9).trans (en rfl (en rfl (en rfl s9)))
    have s28 := (hg 28).trans (en rfl (en rfl (en rfl s28)))
    have s30 := (hg 30).trans (en rfl (en rfl (en rfl s30)))
    have s38 := (hg 38).trans (en rfl (en rfl (en rfl s38)))
    have s39 := (hg 39).trans (en rfl (en rfl (en rfl s39)))
    have s40 := (hg 40).trans (en rfl (en rfl (en rfl s40)))
    clear hg
    refine xc_region ?_
    refine x_val (r_add s39 ec (show _ = (((k + 1 : Nat) : Int) : Int) from by omega) (by unfold I64; omega)) (nd_of rfl) rfl ?_
    refine x_val (r_move es) (nd_of rfl) rfl ?_
    refine xw_nil ?_
    exact ⟨zs.length - (k + 1), by omega, ⟨k + 1, _, rfl, by omega, es, h.closeRow (hr.set _ _)⟩, ⟨((en rfl (en rfl s0))).trans z0.symm, ((en rfl (en rfl s2))).trans z2.symm, ((en rfl (en rfl s3))).trans z3.symm, ((en rfl (en rfl s4))).trans z4.symm, ((en rfl (en rfl s5))).trans z5.symm, ((en rfl (en rfl s9))).trans z9.symm, ((en rfl (en rfl s28))).trans z28.symm, ((en rfl (en rfl s30))).trans z30.symm, ((en rfl (en rfl s38))).trans z38.symm⟩⟩
  ·
    refine xc_exit ?_
    refine hK10 _ _ ?_
    refine xc_seq (fun K hK17 => ?_)
    have h := h.drop
    refine xc_region ?_
    refine x_val (r_loadAgg h 0 rfl Try.isAgg26 Try.sizeOf26 s4 (Ok.le (by first | assumption | exact Ok.node (by assumption) | exact ChOk.ok (by assumption))) (ext_full (Ok.size (by first | assumption | exact Ok.node (by assumption) | exact ChOk.ok (by assumption))))) (nd_of rfl) rfl ?_
    refine x_val (r_move (en rfl s0)) (nd_of rfl) rfl ?_
    refine x_enter (r_call Try.call13 (.cons (en rfl es) (.cons es .nil))) (nd_of rfl) rfl (is_ok hv.up ho h) ?_
    rintro _ w ⟨rfl, h⟩
    refine x_val (r_move es) (nd_of rfl) rfl ?_
    refine x_take (d := 49) rfl rfl es ?_
    refine x_enter (r_call Try.call9 .nil) (nd_of rfl) rfl (known_ok h) ?_
    rintro _ w ⟨rfl, h⟩
    refine x_val (r_pick_t (en rfl es) es) (nd_of rfl) rfl ?_
    refine x_val (r_assign es) (nd_of rfl) rfl ?_
    refine xw_nil ?_
    refine hK17 _ _ ?_
    refine xc_gen (fun g hg => ?_)
    have s0 := (hg 0).trans (en rfl (en rfl (en rfl (en rfl (en rfl (en rfl (en rfl s0)))))))
    have s2 := (hg 2).trans es
    have s3 := (hg 3).trans (en rfl (en rfl (en rfl (en rfl (en rfl (en rfl (en rfl s3)))))))
    have s4 := (hg 4).trans (en rfl (en rfl (en rfl (en rfl (en rfl (en rfl (en rfl s4)))))))
    have s5 := (hg 5).trans (en rfl (en rfl (en rfl (en rfl (en rfl (en rfl (en rfl s5)))))))
    have s9 := (hg 9).trans (en rfl (en rfl (en rfl (en rfl (en rfl (en rfl (en rfl s9)))))))
    have s28 := (hg 28).trans (en rfl (en rfl (en rfl (en rfl (en rfl (en rfl (en rfl s28)))))))
    have s30 := (hg 30).trans (en rfl (en rfl (en rfl (en rfl (en rfl (en rfl (en rfl s30)))))))
    have s38 := (hg 38).trans (en rfl (en rfl (en rfl (en rfl (en rfl (en rfl (en rfl s38)))))))
    have s39 := (hg 39).trans (en rfl (en rfl (en rfl (en rfl (en rfl (en rfl (en rfl s39)))))))
    have s40 := (hg 40).trans (en rfl (en rfl (en rfl (en rfl (en rfl (en rfl (en rfl s40)))))))
    clear hg
    refine xc_ret ?_
    refine bodyR_1 rfl s2 ?_
    exact ⟨rfl, h.drop⟩
theorem is_all (hv : Reads E R v .i32 zs) (h : SatL E w R) : Calls Try.prog 4 #[v] w (Ret fun u w' => u = .bool true ∧ SatL E w' R) := by
  by_cases h1 : 1000 < zs.length
  · exact is_big hv h1 h
  by_cases hb : ∃ r ∈ zs, ¬ rune r
  · exact is_err (e := 3) (fun hv h => of_bad hv hb h) (fun hv h => refOf_bad hv hb (by omega) h) (by omega) hv (by omega) h
  · have ha : ∀ r ∈ zs, rune r := fun r hr => Decidable.byContradiction fun hc => hb ⟨r, hr, hc⟩
    by_cases hl : 32 < zs.length
    · exact is_err (e := 8) (fun hv h => of_long hv ha hl h) (fun hv h => refOf_all hv ha (by omega) (by rw [if_pos hl]) h) (by omega) hv (by omega) h
    · exact is_good hv ⟨by omega, ha⟩ h
end
end Go.Proofs.Ytimieinmphhmmaa
