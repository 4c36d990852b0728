/-
The chunks' functions: Split, Runes; the reference's Same; the known case.
-/
import Derived.Test.YtmfkhfmidnojhaaH2
namespace Go.Proofs.Ytmfkhfmidnojhaa
open Go Go.RowKit
section
variable {E : Env} {R L : List SProp} {w : World} {l m zs : List Int} {v : Value} {r : Int}
theorem ckReads {b i : Nat} {t : TypeId} (ho : ChOk l) (hi : i ≤ l.length) (k : Nat) (hk : L[k]? = some (Cells b (chC l) t)) (h : SatL E w L) : ReadsW w (.slice (some ⟨b, 0, none⟩) i 32) .i32 (l.take i) := by
  have hl := ho.len
  refine ⟨some ⟨b, 0, none⟩, 32, by rw [List.length_take, Nat.min_eq_left hi], by simp; omega, by decide, fun j r hj => ⟨_, rfl, ?_⟩⟩
  have hj' : l[j]? = some r := by
    rw [List.getElem?_take] at hj
    split at hj
    · exact hj
    · cases hj
  rw [add_pt, Nat.zero_add]
  exact h.cell k hk (chC_get hj')
theorem ckReadsFrom {b i : Nat} {t : TypeId} (ho : ChOk l) (k : Nat) (hk : L[k]? = some (Cells b (chC l) t)) (h : SatL E w L) : ReadsW w (.slice (some ⟨b, if 32 = i then 0 else i * 1, none⟩) (l.length - i) (32 - i)) .i32 (l.drop i) := by
  have hl := ho.len
  refine ⟨_, _, by rw [List.length_drop], by simp; omega, by have : maxLen = 9223372036854775807 := (by decide); omega, fun j r hj => ⟨_, rfl, ?_⟩⟩
  rw [List.getElem?_drop] at hj
  have hlt := (List.getElem?_eq_some_iff.1 hj).1
  rw [if_neg (by omega), add_pt, Nat.mul_one]
  exact h.cell k hk (chC_get hj)

theorem split_ok {i : Nat} (ho : ChOk l) (hi : i ≤ l.length) (h : SatL E w R) : Calls Try.prog 50 #[.agg (chC l), .int .i64 (i : Int)] w (Ret fun u w' => u = .tuple #[.agg (chC (l.take i)), .agg (chC (l.drop i)), .int .i64 0] ∧ SatL E w' R) := by
  have hnil := chOk_nil
  have hlen := ho.len
  have hot := ho.take i
  have hod := ho.drop i
  obtain ⟨u1, hu1⟩ := chC_put0_get hot.len
  obtain ⟨u2, hu2⟩ := chC_put0_get hod.len
  refine calls_x Try.func50 rfl Try.ntmps50 rfl ?_
  refine xc_gen (fun g hg => ?_)
  have s0 := (hg 0).trans arg0
  have s1 := (hg 1).trans arg1
  clear hg
  refine xc_seq (fun K hK1 => ?_)
  refine xc_region ?_
  refine x_boxA h s0 rfl ?_
  intro b2 w h
  refine x_allocA h zC rfl ?_
  intro b4 w h
  refine x_allocA h zC rfl ?_
  intro b5 w h
  refine x_val (r_assign ec) (nd_of rfl) rfl ?_
  refine xw_nil ?_
  refine hK1 _ _ ?_
  refine xc_gen (fun g hg => ?_)
  have s0 := (hg 0).trans (en rfl (en rfl (en rfl (en rfl s0))))
  have s1 := (hg 1).trans (en rfl (en rfl (en rfl (en rfl s1))))
  have s2 := (hg 2).trans (en rfl (en rfl (en rfl es)))
  have s4 := (hg 4).trans (en rfl (en rfl es))
  have s5 := (hg 5).trans (en rfl es)
  have s6 := (hg 6).trans es
  clear hg
  refine xc_seq (fun K hK2 => ?_)
  refine xc_seq (fun K hK3 => ?_)
  refine xc_region ?_
  refine x_val (r_move s1) (nd_of rfl) rfl ?_
  refine x_val (r_lss es ec (decide_eq_false (by omega))) (nd_of rfl) rfl ?_
  refine x_val (r_move es) (nd_of rfl) rfl ?_
  refine x_take (d := 9) rfl rfl es ?_
  refine x_val (r_move (en rfl (en rfl (en rfl s1)))) (nd_of rfl) rfl ?_
  refine x_take (d := 9) rfl rfl (en rfl es) ?_
  refine x_val (r_fieldAddr (o' := 32) Try.underlying58 rfl Try.sizeOf3 rfl (en rfl (en rfl (en rfl (en rfl s2)))) rfl) (nd_of rfl) rfl ?_
  refine x_take (d := 9) rfl rfl (en rfl (en rfl es)) ?_
  refine x_val (r_load h 2 rfl Try.isAgg3 es (chC_n (by assumption))) (nd_of rfl) rfl ?_
  refine x_take (d := 9) rfl rfl (en rfl (en rfl (en rfl es))) ?_
  refine x_val (r_gtr (en rfl (en rfl es)) es (decide_eq_false (by omega))) (nd_of rfl) rfl ?_
  have h := h.f2
  have h := h.f2
  refine x_val (r_pick_f (en rfl (en rfl (en rfl (en rfl es)))) es) (nd_of rfl) rfl ?_
  refine xw_nil ?_
  refine hK3 _ _ ?_
  refine xc_gen (fun g hg => ?_)
  have s0 := (hg 0).trans (en rfl (en rfl (en rfl (en rfl (en rfl (en rfl (en rfl (en rfl s0))))))))
  have s1 := (hg 1).trans (en rfl (en rfl (en rfl (en rfl (en rfl (en rfl (en rfl (en rfl s1))))))))
  have s2 := (hg 2).trans (en rfl (en rfl (en rfl (en rfl (en rfl (en rfl (en rfl (en rfl s2))))))))
  have s4 := (hg 4).trans (en rfl (en rfl (en rfl (en rfl (en rfl (en rfl (en rfl (en rfl s4))))))))
  have s5 := (hg 5).trans (en rfl (en rfl (en rfl (en rfl (en rfl (en rfl (en rfl (en rfl s5))))))))
  have s6 := (hg 6).trans (en rfl (en rfl (en rfl (en rfl (en rfl (en rfl (en rfl (en rfl s6))))))))
  have s14 := (hg 14).trans es
  clear hg
  refine xc_cond s14 (fun hc => by cases hc) (fun _ => ?_)
  refine xc_skip ?_
  refine hK2 _ _ ?_
  refine xc_seq (fun K hK4 => ?_)
  have hS := h
  have hS := (hS.f0).drop
  have hS := (hS.f1).drop
  refine xc_plan 7 [(0, 2), (1, 2), (2, 2), (3, 2), (4, 2), (5, 0), (6, 2), (7, 0)] (by kernel_rfl) rfl (by kernel_rfl) hS ?_
  have h := h.drew
  refine xp_read (i := 0) rfl (fun W => r_fieldAddr (o' := 0) Try.underlying58 rfl Try.sizeOf56 rfl s4 rfl) rfl (fun _ _ _ hh => by first | exact bodyR_np hh | exact bodyY_np hh | exact hh) ?_
  refine xp_read (i := 1) rfl (fun W => r_sliceArr Try.underlying56 Try.sizeOf21 rfl es) rfl (fun _ _ _ hh => by first | exact bodyR_np hh | exact bodyY_np hh | exact hh) ?_
  refine xp_read (i := 2) rfl (fun W => r_fieldAddr (o' := 0) Try.underlying58 rfl Try.sizeOf56 rfl (en rfl (en rfl s2)) rfl) rfl (fun _ _ _ hh => by first | exact bodyR_np hh | exact bodyY_np hh | exact hh) ?_
  refine xp_read (i := 3) rfl (fun W => r_move (en rfl (en rfl (en rfl s1)))) rfl (fun _ _ _ hh => by first | exact bodyR_np hh | exact bodyY_np hh | exact hh) ?_
  refine xp_read (i := 4) rfl (fun W => r_sliceArrTo Try.underlying56 Try.sizeOf21 rfl (en rfl es) es (by omega)) rfl (fun _ _ _ hh => by first | exact bodyR_np hh | exact bodyY_np hh | exact hh) ?_
  refine xp_copy (i := 5) h rfl Try.underlying23 (by kernel_rfl) (en rfl (en rfl (en rfl es))) es (ckReads ho hi 1 rfl h) hot.len (by rw [hnil.ok.size]; have := hot.len; omega) rfl ?_; intro w h; refine ⟨fun _ => (h.drop.f1).drop, ?_⟩
  refine xp_read (i := 6) rfl (fun W => r_fieldAddr (o' := 32) Try.underlying58 rfl Try.sizeOf3 rfl (en rfl (en rfl (en rfl (en rfl (en rfl (en rfl s4)))))) rfl) rfl (fun _ _ _ hh => by first | exact bodyR_np hh | exact bodyY_np hh | exact hh) ?_
  refine xp_st (i := 7) rfl (r_store h 0 rfl Try.sizeOf3 es (en rfl es) rfl hu1) (h.u0 (chC_put0 hot.len)) (fun hh => absurd rfl hh) ?_
  intro w h
  refine xp_nil ?_
  refine hK4 _ _ ?_
  refine xc_gen (fun g hg => ?_)
  have s0 := (hg 0).trans (en rfl (en rfl (en rfl (en rfl (en rfl (en rfl (en rfl s0)))))))
  have s1 := (hg 1).trans (en rfl (en rfl (en rfl (en rfl (en rfl (en rfl (en rfl s1)))))))
  have s2 := (hg 2).trans (en rfl (en rfl (en rfl (en rfl (en rfl (en rfl (en rfl s2)))))))
  have s4 := (hg 4).trans (en rfl (en rfl (en rfl (en rfl (en rfl (en rfl (en rfl s4)))))))
  have s5 := (hg 5).trans (en rfl (en rfl (en rfl (en rfl (en rfl (en rfl (en rfl s5)))))))
  have s6 := (hg 6).trans (en rfl (en rfl (en rfl (en rfl (en rfl (en rfl (en rfl s6)))))))
  have s14 := (hg 14).trans (en rfl (en rfl (en rfl (en rfl (en rfl (en rfl (en rfl s14)))))))
  clear hg
  refine xc_seq (fun K hK5 => ?_)
  have h := h.f1
  have h := h.f2
  have hS := h
  have hS := (hS.f0).drop
  have hS := (hS.f1).drop
  refine xc_plan 9 [(0, 2), (1, 2), (2, 2), (3, 2), (4, 2), (5, 1), (6, 2), (7, 0), (8, 2), (9, 0)] (by kernel_rfl) rfl (by kernel_rfl) hS ?_
  have h := h.drew
  refine xp_read (i := 0) rfl (fun W => r_fieldAddr (o' := 0) Try.underlying58 rfl Try.sizeOf56 rfl s5 rfl) rfl (fun _ _ _ hh => by first | exact bodyR_np hh | exact bodyY_np hh | exact hh) ?_
  refine xp_read (i := 1) rfl (fun W => r_sliceArr Try.underlying56 Try.sizeOf21 rfl es) rfl (fun _ _ _ hh => by first | exact bodyR_np hh | exact bodyY_np hh | exact hh) ?_
  refine xp_read (i := 2) rfl (fun W => r_fieldAddr (o' := 0) Try.underlying58 rfl Try.sizeOf56 rfl (en rfl (en rfl s2)) rfl) rfl (fun _ _ _ hh => by first | exact bodyR_np hh | exact bodyY_np hh | exact hh) ?_
  refine xp_read (i := 3) rfl (fun W => r_move (en rfl (en rfl (en rfl s1)))) rfl (fun _ _ _ hh => by first | exact bodyR_np hh | exact bodyY_np hh | exact hh) ?_
  refine xp_read (i := 4) rfl (fun W => r_fieldAddr (o' := 32) Try.underlying58 rfl Try.sizeOf3 rfl (en rfl (en rfl (en rfl (en rfl s2)))) rfl) rfl (fun _ _ _ hh => by first | exact bodyR_np hh | exact bodyY_np hh | exact hh) ?_
  refine xp_load (i := 5) rfl (fun W hW => r_load hW 0 rfl Try.isAgg3 es (chC_n (by assumption))) rfl (fun _ _ _ hh => by first | exact bodyR_np hh | exact bodyY_np hh | exact hh) ?_
  refine xp_read (i := 6) rfl (fun W => r_sliceArrFT Try.underlying56 Try.sizeOf21 (en rfl (en rfl (en rfl es))) (en rfl (en rfl es)) es hi (by omega)) rfl (fun _ _ _ hh => by first | exact bodyR_np hh | exact bodyY_np hh | exact hh) ?_
  refine xp_copy (i := 7) h rfl Try.underlying23 (by kernel_rfl) (en rfl (en rfl (en rfl (en rfl (en rfl es))))) es (ckReadsFrom ho 1 rfl h) hod.len (by rw [hnil.ok.size]; have := hod.len; omega) rfl ?_; intro w h; refine ⟨fun _ => (h.drop.f1).drop, ?_⟩
  refine xp_read (i := 8) rfl (fun W => r_fieldAddr (o' := 32) Try.underlying58 rfl Try.sizeOf3 rfl (en rfl (en rfl (en rfl (en rfl (en rfl (en rfl (en rfl (en rfl s5)))))))) rfl) rfl (fun _ _ _ hh => by first | exact bodyR_np hh | exact bodyY_np hh | exact hh) ?_
  refine xp_st (i := 9) rfl (r_store h 0 rfl Try.sizeOf3 es (en rfl es) rfl hu2) (h.u0 (chC_put0 hod.len)) (fun hh => absurd rfl hh) ?_
  intro w h
  refine xp_nil ?_
  refine hK5 _ _ ?_
  refine xc_gen (fun g hg => ?_)
  have s0 := (hg 0).trans (en rfl (en rfl (en rfl (en rfl (en rfl (en rfl (en rfl (en rfl (en rfl s0)))))))))
  have s1 := (hg 1).trans (en rfl (en rfl (en rfl (en rfl (en rfl (en rfl (en rfl (en rfl (en rfl s1)))))))))
  have s2 := (hg 2).trans (en rfl (en rfl (en rfl (en rfl (en rfl (en rfl (en rfl (en rfl (en rfl s2)))))))))
  have s4 := (hg 4).trans (en rfl (en rfl (en rfl (en rfl (en rfl (en rfl (en rfl (en rfl (en rfl s4)))))))))
  have s5 := (hg 5).trans (en rfl (en rfl (en rfl (en rfl (en rfl (en rfl (en rfl (en rfl (en rfl s5)))))))))
  have s6 := (hg 6).trans (en rfl (en rfl (en rfl (en rfl (en rfl (en rfl (en rfl (en rfl (en rfl s6)))))))))
  have s14 := (hg 14).trans (en rfl (en rfl (en rfl (en rfl (en rfl (en rfl (en rfl (en rfl (en rfl s14)))))))))
  clear hg
  refine xc_seq (fun K hK6 => ?_)
  have h := h.f1
  have h := h.f1
  have h := h.f2
  refine xc_region ?_
  refine x_val (r_loadAgg h 0 rfl Try.isAgg58 Try.sizeOf58 s4 (Ok.le (by first | assumption | exact Ok.node (by assumption) | exact xOk.cells (by assumption) | exact ChOk.ok (by assumption))) (ext_full (Ok.size (by first | assumption | exact Ok.node (by assumption) | exact xOk.cells (by assumption) | exact ChOk.ok (by assumption))))) (nd_of rfl) rfl ?_
  refine x_val (r_loadAgg h 1 rfl Try.isAgg58 Try.sizeOf58 (en rfl s5) (Ok.le (by first | assumption | exact Ok.node (by assumption) | exact xOk.cells (by assumption) | exact ChOk.ok (by assumption))) (ext_full (Ok.size (by first | assumption | exact Ok.node (by assumption) | exact xOk.cells (by assumption) | exact ChOk.ok (by assumption))))) (nd_of rfl) rfl ?_
  refine x_st (r_storeAgg h 0 rfl Try.sizeOf58 (en rfl (en rfl s4)) (en rfl es) (Ok.size (by first | assumption | exact Ok.node (by assumption) | exact xOk.cells (by assumption) | exact ChOk.ok (by assumption))) (Ok.one (by first | assumption | exact Ok.node (by assumption) | exact xOk.cells (by assumption) | exact ChOk.ok (by assumption))) (Ok.le (by first | assumption | exact Ok.node (by assumption) | exact xOk.cells (by assumption) | exact ChOk.ok (by assumption)))) rfl (h.r0 (over_full (Ok.size (by first | assumption | exact Ok.node (by assumption) | exact xOk.cells (by assumption) | exact ChOk.ok (by assumption))))) ?_
  intro w h
  refine x_st (r_storeAgg h 1 rfl Try.sizeOf58 (en rfl (en rfl s5)) es (Ok.size (by first | assumption | exact Ok.node (by assumption) | exact xOk.cells (by assumption) | exact ChOk.ok (by assumption))) (Ok.one (by first | assumption | exact Ok.node (by assumption) | exact xOk.cells (by assumption) | exact ChOk.ok (by assumption))) (Ok.le (by first | assumption | exact Ok.node (by assumption) | exact xOk.cells (by assumption) | exact ChOk.ok (by assumption)))) rfl (h.r1 (over_full (Ok.size (by first | assumption | exact Ok.node (by assumption) | exact xOk.cells (by assumption) | exact ChOk.ok (by assumption))))) ?_
  intro w h
  refine x_val (r_assign ec) (nd_of rfl) rfl ?_
  refine xw_nil ?_
  refine hK6 _ _ ?_
  refine xc_gen (fun g hg => ?_)
  have s0 := (hg 0).trans (en rfl (en rfl (en rfl s0)))
  have s1 := (hg 1).trans (en rfl (en rfl (en rfl s1)))
  have s2 := (hg 2).trans (en rfl (en rfl (en rfl s2)))
  have s4 := (hg 4).trans (en rfl (en rfl (en rfl s4)))
  have s5 := (hg 5).trans (en rfl (en rfl (en rfl s5)))
  have s6 := (hg 6).trans es
  have s14 := (hg 14).trans (en rfl (en rfl (en rfl s14)))
  clear hg
  refine xc_ret ?_
  refine bodyR_cct rfl s4 (lv_agg h 0 rfl Try.isAgg58 Try.sizeOf58 (Ok.size (by first | assumption | exact Ok.node (by assumption) | exact xOk.cells (by assumption) | exact ChOk.ok (by assumption)))) s5 (lv_agg h 1 rfl Try.isAgg58 Try.sizeOf58 (Ok.size (by first | assumption | exact Ok.node (by assumption) | exact xOk.cells (by assumption) | exact ChOk.ok (by assumption)))) s6 ?_
  exact ⟨rfl, h.drop.drop.drop⟩
theorem split_neg {i : Int} (hi : i < 0) (h : SatL E w R) : Calls Try.prog 50 #[.agg (chC l), .int .i64 i] w (Ret fun u w' => u = .tuple #[.agg (chC []), .agg (chC []), .int .i64 5] ∧ SatL E w' R) := by
  have hnil := chOk_nil
  refine calls_x Try.func50 rfl Try.ntmps50 rfl ?_
  refine xc_gen (fun g hg => ?_)
  have s0 := (hg 0).trans arg0
  have s1 := (hg 1).trans arg1
  clear hg
  refine xc_seq (fun K hK1 => ?_)
  refine xc_region ?_
  refine x_boxA h s0 rfl ?_
  intro b2 w h
  refine x_allocA h zC rfl ?_
  intro b4 w h
  refine x_allocA h zC rfl ?_
  intro b5 w h
  refine x_val (r_assign ec) (nd_of rfl) rfl ?_
  refine xw_nil ?_
  refine hK1 _ _ ?_
  refine xc_gen (fun g hg => ?_)
  have s0 := (hg 0).trans (en rfl (en rfl (en rfl (en rfl s0))))
  have s1 := (hg 1).trans (en rfl (en rfl (en rfl (en rfl s1))))
  have s2 := (hg 2).trans (en rfl (en rfl (en rfl es)))
  have s4 := (hg 4).trans (en rfl (en rfl es))
  have s5 := (hg 5).trans (en rfl es)
  have s6 := (hg 6).trans es
  clear hg
  refine xc_seq (fun K hK2 => ?_)
  refine xc_seq (fun K hK3 => ?_)
  refine xc_region ?_
  refine x_val (r_move s1) (nd_of rfl) rfl ?_
  refine x_val (r_lss es ec (decide_eq_true (by omega))) (nd_of rfl) rfl ?_
  refine x_val (r_move es) (nd_of rfl) rfl ?_
  refine x_pass (d := 9) rfl rfl es rfl ?_
  refine x_pass (d := 9) rfl rfl (en rfl es) rfl ?_
  refine x_pass (d := 9) rfl rfl (en rfl (en rfl es)) rfl ?_
  refine x_pass (d := 9) rfl rfl (en rfl (en rfl (en rfl es))) rfl ?_
  refine x_val (r_pick_t (en rfl (en rfl (en rfl (en rfl es)))) ec) (nd_of rfl) rfl ?_
  refine xw_nil ?_
  refine hK3 _ _ ?_
  refine xc_gen (fun g hg => ?_)
  have s0 := (hg 0).trans (en rfl (en rfl (en rfl (en rfl (en rfl (en rfl (en rfl (en rfl s0))))))))
  have s1 := (hg 1).trans (en rfl (en rfl (en rfl (en rfl (en rfl (en rfl (en rfl (en rfl s1))))))))
  have s2 := (hg 2).trans (en rfl (en rfl (en rfl (en rfl (en rfl (en rfl (en rfl (en rfl s2))))))))
  have s4 := (hg 4).trans (en rfl (en rfl (en rfl (en rfl (en rfl (en rfl (en rfl (en rfl s4))))))))
  have s5 := (hg 5).trans (en rfl (en rfl (en rfl (en rfl (en rfl (en rfl (en rfl (en rfl s5))))))))
  have s6 := (hg 6).trans (en rfl (en rfl (en rfl (en rfl (en rfl (en rfl (en rfl (en rfl s6))))))))
  have s14 := (hg 14).trans es
  clear hg
  refine xc_cond s14 (fun _ => ?_) (fun hc => by cases hc)
  refine xc_seq (fun K hK4 => ?_)
  refine xc_region ?_
  refine x_val (r_loadAgg h 1 rfl Try.isAgg58 Try.sizeOf58 s4 (Ok.le (by first | assumption | exact Ok.node (by assumption) | exact xOk.cells (by assumption) | exact ChOk.ok (by assumption))) (ext_full (Ok.size (by first | assumption | exact Ok.node (by assumption) | exact xOk.cells (by assumption) | exact ChOk.ok (by assumption))))) (nd_of rfl) rfl ?_
  refine x_val (r_loadAgg h 0 rfl Try.isAgg58 Try.sizeOf58 (en rfl s5) (Ok.le (by first | assumption | exact Ok.node (by assumption) | exact xOk.cells (by assumption) | exact ChOk.ok (by assumption))) (ext_full (Ok.size (by first | assumption | exact Ok.node (by assumption) | exact xOk.cells (by assumption) | exact ChOk.ok (by assumption))))) (nd_of rfl) rfl ?_
  refine x_st (r_storeAgg h 1 rfl Try.sizeOf58 (en rfl (en rfl s4)) (en rfl es) (Ok.size (by first | assumption | exact Ok.node (by assumption) | exact xOk.cells (by assumption) | exact ChOk.ok (by assumption))) (Ok.one (by first | assumption | exact Ok.node (by assumption) | exact xOk.cells (by assumption) | exact ChOk.ok (by assumption))) (Ok.le (by first | assumption | exact Ok.node (by assumption) | exact xOk.cells (by assumption) | exact ChOk.ok (by assumption)))) rfl (h.r1 (over_full (Ok.size (by first | assumption | exact Ok.node (by assumption) | exact xOk.cells (by assumption) | exact ChOk.ok (by assumption))))) ?_
  intro w h
  refine x_st (r_storeAgg h 0 rfl Try.sizeOf58 (en rfl (en rfl s5)) es (Ok.size (by first | assumption | exact Ok.node (by assumption) | exact xOk.cells (by assumption) | exact ChOk.ok (by assumption))) (Ok.one (by first | assumption | exact Ok.node (by assumption) | exact xOk.cells (by assumption) | exact ChOk.ok (by assumption))) (Ok.le (by first | assumption | exact Ok.node (by assumption) | exact xOk.cells (by assumption) | exact ChOk.ok (by assumption)))) rfl (h.r0 (over_full (Ok.size (by first | assumption | exact Ok.node (by assumption) | exact xOk.cells (by assumption) | exact ChOk.ok (by assumption))))) ?_
  intro w h
  refine x_val (r_assign ec) (nd_of rfl) rfl ?_
  refine xw_nil ?_
  refine hK4 _ _ ?_
  refine xc_gen (fun g hg => ?_)
  have s0 := (hg 0).trans (en rfl (en rfl (en rfl s0)))
  have s1 := (hg 1).trans (en rfl (en rfl (en rfl s1)))
  have s2 := (hg 2).trans (en rfl (en rfl (en rfl s2)))
  have s4 := (hg 4).trans (en rfl (en rfl (en rfl s4)))
  have s5 := (hg 5).trans (en rfl (en rfl (en rfl s5)))
  have s6 := (hg 6).trans es
  have s14 := (hg 14).trans (en rfl (en rfl (en rfl s14)))
  clear hg
  refine xc_ret ?_
  refine bodyR_cct rfl s4 (lv_agg h 1 rfl Try.isAgg58 Try.sizeOf58 (Ok.size (by first | assumption | exact Ok.node (by assumption) | exact xOk.cells (by assumption) | exact ChOk.ok (by assumption)))) s5 (lv_agg h 0 rfl Try.isAgg58 Try.sizeOf58 (Ok.size (by first | assumption | exact Ok.node (by assumption) | exact xOk.cells (by assumption) | exact ChOk.ok (by assumption)))) s6 ?_
  exact ⟨rfl, h.drop.drop.drop⟩
theorem split_far {i : Int} (ho : ChOk l) (hi : (l.length : Int) < i) (h : SatL E w R) : Calls Try.prog 50 #[.agg (chC l), .int .i64 i] w (Ret fun u w' => u = .tuple #[.agg (chC []), .agg (chC []), .int .i64 5] ∧ SatL E w' R) := by
  have hnil := chOk_nil
  refine calls_x Try.func50 rfl Try.ntmps50 rfl ?_
  refine xc_gen (fun g hg => ?_)
  have s0 := (hg 0).trans arg0
  have s1 := (hg 1).trans arg1
  clear hg
  refine xc_seq (fun K hK1 => ?_)
  refine xc_region ?_
  refine x_boxA h s0 rfl ?_
  intro b2 w h
  refine x_allocA h zC rfl ?_
  intro b4 w h
  refine x_allocA h zC rfl ?_
  intro b5 w h
  refine x_val (r_assign ec) (nd_of rfl) rfl ?_
  refine xw_nil ?_
  refine hK1 _ _ ?_
  refine xc_gen (fun g hg => ?_)
  have s0 := (hg 0).trans (en rfl (en rfl (en rfl (en rfl s0))))
  have s1 := (hg 1).trans (en rfl (en rfl (en rfl (en rfl s1))))
  have s2 := (hg 2).trans (en rfl (en rfl (en rfl es)))
  have s4 := (hg 4).trans (en rfl (en rfl es))
  have s5 := (hg 5).trans (en rfl es)
  have s6 := (hg 6).trans es
  clear hg
  refine xc_seq (fun K hK2 => ?_)
  refine xc_seq (fun K hK3 => ?_)
  refine xc_region ?_
  refine x_val (r_move s1) (nd_of rfl) rfl ?_
  refine x_val (r_lss es ec (decide_eq_false (by omega))) (nd_of rfl) rfl ?_
  refine x_val (r_move es) (nd_of rfl) rfl ?_
  refine x_take (d := 9) rfl rfl es ?_
  refine x_val (r_move (en rfl (en rfl (en rfl s1)))) (nd_of rfl) rfl ?_
  refine x_take (d := 9) rfl rfl (en rfl es) ?_
  refine x_val (r_fieldAddr (o' := 32) Try.underlying58 rfl Try.sizeOf3 rfl (en rfl (en rfl (en rfl (en rfl s2)))) rfl) (nd_of rfl) rfl ?_
  refine x_take (d := 9) rfl rfl (en rfl (en rfl es)) ?_
  refine x_val (r_load h 2 rfl Try.isAgg3 es (chC_n (by assumption))) (nd_of rfl) rfl ?_
  refine x_take (d := 9) rfl rfl (en rfl (en rfl (en rfl es))) ?_
  refine x_val (r_gtr (en rfl (en rfl es)) es (decide_eq_true (by omega))) (nd_of rfl) rfl ?_
  refine x_val (r_pick_f (en rfl (en rfl (en rfl (en rfl es)))) es) (nd_of rfl) rfl ?_
  refine xw_nil ?_
  refine hK3 _ _ ?_
  refine xc_gen (fun g hg => ?_)
  have s0 := (hg 0).trans (en rfl (en rfl (en rfl (en rfl (en rfl (en rfl (en rfl (en rfl s0))))))))
  have s1 := (hg 1).trans (en rfl (en rfl (en rfl (en rfl (en rfl (en rfl (en rfl (en rfl s1))))))))
  have s2 := (hg 2).trans (en rfl (en rfl (en rfl (en rfl (en rfl (en rfl (en rfl (en rfl s2))))))))
  have s4 := (hg 4).trans (en rfl (en rfl (en rfl (en rfl (en rfl (en rfl (en rfl (en rfl s4))))))))
  have s5 := (hg 5).trans (en rfl (en rfl (en rfl (en rfl (en rfl (en rfl (en rfl (en rfl s5))))))))
  have s6 := (hg 6).trans (en rfl (en rfl (en rfl (en rfl (en rfl (en rfl (en rfl (en rfl s6))))))))
  have s14 := (hg 14).trans es
  clear hg
  refine xc_cond s14 (fun _ => ?_) (fun hc => by cases hc)
  refine xc_seq (fun K hK4 => ?_)
  refine xc_region ?_
  refine x_val (r_loadAgg h 1 rfl Try.isAgg58 Try.sizeOf58 s4 (Ok.le (by first | assumption | exact Ok.node (by assumption) | exact xOk.cells (by assumption) | exact ChOk.ok (by assumption))) (ext_full (Ok.size (by first | assumption | exact Ok.node (by assumption) | exact xOk.cells (by assumption) | exact ChOk.ok (by assumption))))) (nd_of rfl) rfl ?_
  refine x_val (r_loadAgg h 0 rfl Try.isAgg58 Try.sizeOf58 (en rfl s5) (Ok.le (by first | assumption | exact Ok.node (by assumption) | exact xOk.cells (by assumption) | exact ChOk.ok (by assumption))) (ext_full (Ok.size (by first | assumption | exact Ok.node (by assumption) | exact xOk.cells (by assumption) | exact ChOk.ok (by assumption))))) (nd_of rfl) rfl ?_
  refine x_st (r_storeAgg h 1 rfl Try.sizeOf58 (en rfl (en rfl s4)) (en rfl es) (Ok.size (by first | assumption | exact Ok.node (by assumption) | exact xOk.cells (by assumption) | exact ChOk.ok (by assumption))) (Ok.one (by first | assumption | exact Ok.node (by assumption) | exact xOk.cells (by assumption) | exact ChOk.ok (by assumption))) (Ok.le (by first | assumption | exact Ok.node (by assumption) | exact xOk.cells (by assumption) | exact ChOk.ok (by assumption)))) rfl (h.r1 (over_full (Ok.size (by first | assumption | exact Ok.node (by assumption) | exact xOk.cells (by assumption) | exact ChOk.ok (by assumption))))) ?_
  intro w h
  refine x_st (r_storeAgg h 0 rfl Try.sizeOf58 (en rfl (en rfl s5)) es (Ok.size (by first | assumption | exact Ok.node (by assumption) | exact xOk.cells (by assumption) | exact ChOk.ok (by assumption))) (Ok.one (by first | assumption | exact Ok.node (by assumption) | exact xOk.cells (by assumption) | exact ChOk.ok (by assumption))) (Ok.le (by first | assumption | exact Ok.node (by assumption) | exact xOk.cells (by assumption) | exact ChOk.ok (by assumption)))) rfl (h.r0 (over_full (Ok.size (by first | assumption | exact Ok.node (by assumption) | exact xOk.cells (by assumption) | exact ChOk.ok (by assumption))))) ?_
  intro w h
  refine x_val (r_assign ec) (nd_of rfl) rfl ?_
  refine xw_nil ?_
  refine hK4 _ _ ?_
  refine xc_gen (fun g hg => ?_)
  have s0 := (hg 0).trans (en rfl (en rfl (en rfl s0)))
  have s1 := (hg 1).trans (en rfl (en rfl (en rfl s1)))
  have s2 := (hg 2).trans (en rfl (en rfl (en rfl s2)))
  have s4 := (hg 4).trans (en rfl (en rfl (en rfl s4)))
  have s5 := (hg 5).trans (en rfl (en rfl (en rfl s5)))
  have s6 := (hg 6).trans es
  have s14 := (hg 14).trans (en rfl (en rfl (en rfl s14)))
  clear hg
  refine xc_ret ?_
  refine bodyR_cct rfl s4 (lv_agg h 1 rfl Try.isAgg58 Try.sizeOf58 (Ok.size (by first | assumption | exact Ok.node (by assumption) | exact xOk.cells (by assumption) | exact ChOk.ok (by assumption)))) s5 (lv_agg h 0 rfl Try.isAgg58 Try.sizeOf58 (Ok.size (by first | assumption | exact Ok.node (by assumption) | exact xOk.cells (by assumption) | exact ChOk.ok (by assumption)))) s6 ?_
  exact ⟨rfl, h.drop.drop.drop⟩

theorem clone_ok {a : Addr} {n cap : Nat} (hv : Reads E R (.slice (some a) n cap) .i32 zs) (hb : zs.length ≤ 1000000) (h : SatL E w R) : Calls Try.prog 69 #[.slice (some a) n cap] w (Ret fun u w' => SatL E w' (Row 21 1 u zs.length (i32s zs) :: R)) := by
  obtain ⟨a2, cap2, he, hl1, hl2⟩ := hv.slice h
  cases he
  refine calls_x Try.func69 rfl Try.ntmps69 rfl ?_
  refine xc_gen (fun g hg => ?_)
  have s0 := (hg 0).trans arg0
  clear hg
  refine xc_seq (fun K hK1 => ?_)
  refine xc_region ?_
  refine x_val (r_assign ec) (nd_of rfl) rfl ?_
  refine xw_nil ?_
  refine hK1 _ _ ?_
  refine xc_gen (fun g hg => ?_)
  have s0 := (hg 0).trans (en rfl s0)
  have s2 := (hg 2).trans es
  clear hg
  refine xc_seq (fun K hK2 => ?_)
  refine xc_seq (fun K hK3 => ?_)
  refine xc_region ?_
  refine x_val (r_move s0) (nd_of rfl) rfl ?_
  refine x_val (r_eqnilS Try.underlying23 es ec rfl) (nd_of rfl) rfl ?_
  refine xw_nil ?_
  refine hK3 _ _ ?_
  refine xc_gen (fun g hg => ?_)
  have s0 := (hg 0).trans (en rfl (en rfl s0))
  have s2 := (hg 2).trans (en rfl (en rfl s2))
  have s4 := (hg 4).trans es
  clear hg
  refine xc_cond s4 (fun hc => by cases hc) (fun _ => ?_)
  refine xc_skip ?_
  refine hK2 _ _ ?_
  refine xc_seq (fun K hK4 => ?_)
  refine xc_region ?_
  refine x_bslice0 h Try.underlying23 Try.sizeOf21 rfl ?_; intro bn w h
  refine x_val (r_move (en rfl s0)) (nd_of rfl) rfl ?_
  refine x_append_at (bytes := 4) (news := i32s zs) h Try.underlying23 (by kernel_rfl) (en rfl es) es (by simp [i32s]) (fun j u hj => by rw [i32s, List.getElem?_map] at hj; obtain ⟨r, hr, rfl⟩ := Option.map_eq_some_iff.1 hj; obtain ⟨a', he, hc⟩ := hv.get h.drop hr; cases he; exact hc) i32s_one (by omega) (by omega) rfl ?_; intro v2 w h
  have h : SatL E w (Row 21 1 v2 zs.length (i32s zs) :: R) := by have h2 := h; rw [Nat.zero_add, List.nil_append] at h2; exact h2
  refine x_val (r_assign es) (nd_of rfl) rfl ?_
  refine xw_nil ?_
  refine hK4 _ _ ?_
  refine xc_gen (fun g hg => ?_)
  have s0 := (hg 0).trans (en rfl (en rfl (en rfl (en rfl s0))))
  have s2 := (hg 2).trans es
  have s4 := (hg 4).trans (en rfl (en rfl (en rfl (en rfl s4))))
  clear hg
  refine xc_ret ?_
  refine bodyR_1 rfl s2 ?_
  exact h
theorem runes_ok (ho : ChOk l) (h : SatL E w R) : Calls Try.prog 32 #[.agg (chC l)] w (Ret fun u w' => SatL E w' (Row 21 1 u l.length (i32s l) :: R)) := by
  have hlen := ho.len
  refine calls_x Try.func32 rfl Try.ntmps32 rfl ?_
  refine xc_gen (fun g hg => ?_)
  have s0 := (hg 0).trans arg0
  clear hg
  refine xc_seq (fun K hK1 => ?_)
  refine xc_region ?_
  refine x_boxA h s0 rfl ?_
  intro b1 w h
  refine x_val (r_assign ec) (nd_of rfl) rfl ?_
  refine xw_nil ?_
  refine hK1 _ _ ?_
  refine xc_gen (fun g hg => ?_)
  have s0 := (hg 0).trans (en rfl (en rfl s0))
  have s1 := (hg 1).trans (en rfl es)
  have s2 := (hg 2).trans es
  clear hg
  refine xc_seq (fun K hK2 => ?_)
  refine xc_region ?_
  refine x_val (r_fieldAddr (o' := 0) Try.underlying58 rfl Try.sizeOf56 rfl s1 rfl) (nd_of rfl) rfl ?_
  refine x_val (r_fieldAddr (o' := 32) Try.underlying58 rfl Try.sizeOf3 rfl (en rfl s1) rfl) (nd_of rfl) rfl ?_
  refine x_val (r_load h 0 rfl Try.isAgg3 es (chC_n (by assumption))) (nd_of rfl) rfl ?_
  refine x_val (r_sliceArrTo Try.underlying56 Try.sizeOf21 rfl (en rfl (en rfl es)) es (by omega)) (nd_of rfl) rfl ?_
  refine x_enter (r_call Try.call69 (.cons es .nil)) (nd_of rfl) rfl (clone_ok (zs := l) (fun w h => by have h1 := ckReads ho (Nat.le_refl _) 0 rfl h; rw [List.take_length] at h1; exact h1) (by omega) h) ?_
  rintro _ w h
  refine x_val (r_assign es) (nd_of rfl) rfl ?_
  refine xw_nil ?_
  refine hK2 _ _ ?_
  refine xc_gen (fun g hg => ?_)
  have s0 := (hg 0).trans (en rfl (en rfl (en rfl (en rfl (en rfl (en rfl s0))))))
  have s1 := (hg 1).trans (en rfl (en rfl (en rfl (en rfl (en rfl (en rfl s1))))))
  have s2 := (hg 2).trans es
  clear hg
  refine xc_ret ?_
  refine bodyR_1 rfl s2 ?_
  exact (h.f1).drop
theorem rowReads : Reads E (Row 21 1 v zs.length (i32s zs) :: R) v .i32 zs := fun w h => by
  rcases Nat.eq_zero_or_pos zs.length with h1 | h1
  · obtain ⟨a, cap, rfl, h2, h3⟩ := h.rowVal
    refine ⟨a, cap, rfl, h2, h3, fun i r hi => ?_⟩
    have := (List.getElem?_eq_some_iff.1 hi).1
    omega
  · obtain ⟨g, cap, cur, hr, h2⟩ := h.openRow h1
    obtain rfl := hr.val
    refine ⟨_, cap, rfl, hr.le, hr.capm, fun i r hi => ⟨_, rfl, ?_⟩⟩
    rw [add_pt, Nat.zero_add]
    exact h2.cell 0 rfl (hr.get (i32s_get hi))
theorem cellsReads {b : Nat} {c : Array Value} {t : TypeId} {n : Nat} (hc : c.toList = i32s zs) (hn : n = zs.length) (h0 : zs.length ≤ 1000000) : Reads E (Cells b c t :: R) (.slice (some ⟨b, 0, none⟩) n n) .i32 zs := fun w h => by
  subst hn
  refine ⟨_, _, rfl, Nat.le_refl _, by have : maxLen = 9223372036854775807 := (by decide); omega, fun i r hi => ⟨_, rfl, ?_⟩⟩
  rw [add_pt, Nat.zero_add]
  refine h.cell 0 rfl ?_
  rw [← Array.getElem?_toList, hc]
  exact i32s_get hi

theorem same_yes {v2 : Value} (hv : Reads E R v .i32 zs) (hv2 : Reads E R v2 .i32 zs) (h0 : zs.length ≤ 1000000) (h : SatL E w R) : Calls Try.prog 15 #[v, v2] w (Ret fun u w' => u = .bool true ∧ SatL E w' R) := by
  obtain ⟨a, cap, rfl, _, _⟩ := hv.slice h
  obtain ⟨a2, cap2, rfl, _, _⟩ := hv2.slice h
  refine calls_x Try.func15 rfl Try.ntmps15 rfl ?_
  refine xc_gen (fun g hg => ?_)
  have s0 := (hg 0).trans arg0
  have s1 := (hg 1).trans arg1
  clear hg
  refine xc_seq (fun K hK1 => ?_)
  refine xc_region ?_
  refine x_val (r_assign ec) (nd_of rfl) rfl ?_
  refine xw_nil ?_
  refine hK1 _ _ ?_
  refine xc_gen (fun g hg => ?_)
  have s0 := (hg 0).trans (en rfl s0)
  have s1 := (hg 1).trans (en rfl s1)
  have s4 := (hg 4).trans es
  clear hg
  refine xc_seq (fun K hK2 => ?_)
  refine xc_seq (fun K hK3 => ?_)
  refine xc_region ?_
  refine x_val (r_move s0) (nd_of rfl) rfl ?_
  refine x_val (r_len Try.underlying23 es) (nd_of rfl) rfl ?_
  refine x_val (r_move (en rfl (en rfl s1))) (nd_of rfl) rfl ?_
  refine x_val (r_len Try.underlying23 es) (nd_of rfl) rfl ?_
  refine x_val (r_neq (en rfl (en rfl es)) es (decide_eq_false (by omega))) (nd_of rfl) rfl ?_
  refine xw_nil ?_
  refine hK3 _ _ ?_
  refine xc_gen (fun g hg => ?_)
  have s0 := (hg 0).trans (en rfl (en rfl (en rfl (en rfl (en rfl s0)))))
  have s1 := (hg 1).trans (en rfl (en rfl (en rfl (en rfl (en rfl s1)))))
  have s4 := (hg 4).trans (en rfl (en rfl (en rfl (en rfl (en rfl s4)))))
  have s10 := (hg 10).trans es
  clear hg
  refine xc_cond s10 (fun hc => by cases hc) (fun _ => ?_)
  refine xc_skip ?_
  refine hK2 _ _ ?_
  refine xc_seq (fun K hK4 => ?_)
  refine xc_seq (fun K hK5 => ?_)
  refine xc_region ?_
  refine x_val (r_assign ec) (nd_of rfl) rfl ?_
  refine xw_nil ?_
  refine hK5 _ _ ?_
  refine xc_gen (fun g hg => ?_)
  have s0 := (hg 0).trans (en rfl s0)
  have s1 := (hg 1).trans (en rfl s1)
  have s4 := (hg 4).trans (en rfl s4)
  have s5 := (hg 5).trans es
  have s10 := (hg 10).trans (en rfl s10)
  clear hg
  refine xc_block ?_
  obtain ⟨G6, hG6⟩ : ∃ g0 : Nat → Value, g0 = g := ⟨_, rfl⟩
  have zG6_0 : G6 0 = _ := (congrFun hG6 0).trans s0
  have zG6_1 : G6 1 = _ := (congrFun hG6 1).trans s1
  have zG6_10 : G6 10 = _ := (congrFun hG6 10).trans s10
  refine xc_loop (fun m f w => (∃ k : Nat, m = zs.length - k ∧ k ≤ zs.length ∧ f 5 = .int .i64 (k : Int) ∧ SatL E w R) ∧ (f 0 = G6 0 ∧ f 1 = G6 1 ∧ f 10 = G6 10)) (zs.length) ⟨⟨0, by omega, by omega, s5, h⟩, ⟨congrFun hG6.symm 0, congrFun hG6.symm 1, congrFun hG6.symm 10⟩⟩ ?_
  rintro m g w ⟨⟨k, hm, hk, s5, h⟩, ⟨y0, y1, y10⟩⟩
  have s0 := y0.trans zG6_0
  have s1 := y1.trans zG6_1
  have s10 := y10.trans zG6_10
  refine xc_seq (fun K hK7 => ?_)
  refine xc_seq (fun K hK8 => ?_)
  refine xc_region ?_
  refine x_val (r_move s5) (nd_of rfl) rfl ?_
  refine x_val (r_move (en rfl s0)) (nd_of rfl) rfl ?_
  refine x_val (r_len Try.underlying23 es) (nd_of rfl) rfl ?_
  refine x_val (r_lss (en rfl (en rfl es)) es rfl) (nd_of rfl) rfl ?_
  refine xw_nil ?_
  refine hK8 _ _ ?_
  refine xc_gen (fun g hg => ?_)
  have s0 := (hg 0).trans (en rfl (en rfl (en rfl (en rfl s0))))
  have s1 := (hg 1).trans (en rfl (en rfl (en rfl (en rfl s1))))
  have s5 := (hg 5).trans (en rfl (en rfl (en rfl (en rfl s5))))
  have s10 := (hg 10).trans (en rfl (en rfl (en rfl (en rfl s10))))
  have s14 := (hg 14).trans es
  clear hg
  refine xc_cond s14 (fun hc => ?_) (fun hc => ?_)
  ·
    refine xc_skip ?_
    refine hK7 _ _ ?_
    refine xc_seq (fun K hK9 => ?_)
    refine xc_block ?_
    refine xc_seq (fun K hK10 => ?_)
    have hi : k < zs.length := by have := of_decide_eq_true hc; omega
    obtain ⟨r, hr⟩ : ∃ r, zs[k]? = some r := ⟨_, List.getElem?_eq_getElem hi⟩
    obtain ⟨a', rfl, _⟩ := hv.get h hr
    obtain ⟨a2', rfl, _⟩ := hv2.get h hr
    refine xc_plan 9 [(0, 2), (1, 2), (2, 2), (3, 1), (4, 2), (5, 2), (6, 2), (7, 1), (8, 2)] (by kernel_rfl) rfl (by kernel_rfl) h ?_
    have h := h.drew
    refine xp_read (i := 0) rfl (fun W => r_move s0) rfl (fun _ _ _ hh => by first | exact bodyR_np hh | exact bodyY_np hh | exact hh) ?_
    refine xp_read (i := 1) rfl (fun W => r_move (en rfl s5)) rfl (fun _ _ _ hh => by first | exact bodyR_np hh | exact bodyY_np hh | exact hh) ?_
    refine xp_read (i := 2) rfl (fun W => r_index1 Try.underlying23 Try.sizeOf21 (en rfl es) es hi) rfl (fun _ _ _ hh => by first | exact bodyR_np hh | exact bodyY_np hh | exact hh) ?_
    refine xp_load (i := 3) rfl (fun W hW => r_loadCell Try.isAgg21 es (by obtain ⟨b1, e1, c1⟩ := hv.get hW hr; cases e1; exact c1)) rfl (fun _ _ _ hh => by first | exact bodyR_np hh | exact bodyY_np hh | exact hh) ?_
    refine xp_read (i := 4) rfl (fun W => r_move (en rfl (en rfl (en rfl (en rfl s1))))) rfl (fun _ _ _ hh => by first | exact bodyR_np hh | exact bodyY_np hh | exact hh) ?_
    refine xp_read (i := 5) rfl (fun W => r_move (en rfl (en rfl (en rfl (en rfl (en rfl s5)))))) rfl (fun _ _ _ hh => by first | exact bodyR_np hh | exact bodyY_np hh | exact hh) ?_
    refine xp_read (i := 6) rfl (fun W => r_index1 Try.underlying23 Try.sizeOf21 (en rfl es) es hi) rfl (fun _ _ _ hh => by first | exact bodyR_np hh | exact bodyY_np hh | exact hh) ?_
    refine xp_load (i := 7) rfl (fun W hW => r_loadCell Try.isAgg21 es (by obtain ⟨b1, e1, c1⟩ := hv2.get hW hr; cases e1; exact c1)) rfl (fun _ _ _ hh => by first | exact bodyR_np hh | exact bodyY_np hh | exact hh) ?_
    refine xp_read (i := 8) rfl (fun W => r_neq (en rfl (en rfl (en rfl (en rfl es)))) es (decide_eq_false (by omega))) rfl (fun _ _ _ hh => by first | exact bodyR_np hh | exact bodyY_np hh | exact hh) ?_
    refine xp_nil ?_
    refine hK10 _ _ ?_
    refine xc_gen (fun g hg => ?_)
    have s0 := (hg 0).trans (en rfl (en rfl (en rfl (en rfl (en rfl (en rfl (en rfl (en rfl (en rfl s0)))))))))
    have s1 := (hg 1).trans (en rfl (en rfl (en rfl (en rfl (en rfl (en rfl (en rfl (en rfl (en rfl s1)))))))))
    have s5 := (hg 5).trans (en rfl (en rfl (en rfl (en rfl (en rfl (en rfl (en rfl (en rfl (en rfl s5)))))))))
    have s10 := (hg 10).trans (en rfl (en rfl (en rfl (en rfl (en rfl (en rfl (en rfl (en rfl (en rfl s10)))))))))
    have s14 := (hg 14).trans (en rfl (en rfl (en rfl (en rfl (en rfl (en rfl (en rfl (en rfl (en rfl s14)))))))))
    have s25 := (hg 25).trans es
    clear hg
    refine xc_cond s25 (fun hc => by cases hc) (fun _ => ?_)
    refine xc_skip ?_
    refine hK9 _ _ ?_
    refine xc_region ?_
    refine x_val (r_move s5) (nd_of rfl) rfl ?_
    refine x_val (r_add es ec (show _ = (((k + 1 : Nat) : Int) : Int) from by omega) (by unfold I64; omega)) (nd_of rfl) rfl ?_
    refine x_val (r_assign es) (nd_of rfl) rfl ?_
    refine xw_nil ?_
    exact ⟨zs.length - (k + 1), by omega, ⟨k + 1, rfl, by omega, es, h⟩, ⟨((en rfl (en rfl (en rfl s0)))).trans zG6_0.symm, ((en rfl (en rfl (en rfl s1)))).trans zG6_1.symm, ((en rfl (en rfl (en rfl s10)))).trans zG6_10.symm⟩⟩
  ·
    refine xc_exit ?_
    refine hK4 _ _ ?_
    refine xc_seq (fun K hK11 => ?_)
    refine xc_region ?_
    refine x_val (r_assign ec) (nd_of rfl) rfl ?_
    refine xw_nil ?_
    refine hK11 _ _ ?_
    refine xc_gen (fun g hg => ?_)
    have s0 := (hg 0).trans (en rfl s0)
    have s1 := (hg 1).trans (en rfl s1)
    have s4 := (hg 4).trans es
    have s5 := (hg 5).trans (en rfl s5)
    have s10 := (hg 10).trans (en rfl s10)
    have s14 := (hg 14).trans (en rfl s14)
    clear hg
    refine xc_ret ?_
    refine bodyR_1 rfl s4 ?_
    exact ⟨rfl, h⟩
end
end Go.Proofs.Ytmfkhfmidnojhaa
