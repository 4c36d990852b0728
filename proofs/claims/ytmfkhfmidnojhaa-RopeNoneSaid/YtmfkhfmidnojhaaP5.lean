/-
Ropes: Split, Concat; the known case.
-/
import Derived.Test.YtmfkhfmidnojhaaP4
namespace Go.Proofs.Ytmfkhfmidnojhaa
open Go Go.RowKit
theorem over_xok : ∀ {l : List X} {i j : Nat}, (∀ x ∈ l, xOk x) → ∀ y ∈ overL l i j, xOk y
  | [], _, _, _, y, hy => by simp [overL] at hy
  | x :: l, i, j, h, y, hy => by
    rcases List.mem_append.1 hy with h1 | h1
    · unfold oneL at h1
      split at h1
      · rename_i hlt
        rw [List.mem_singleton] at h1
        rw [h1, partX_txt hlt (Nat.min_le_right _ _)]
        exact ((h x (by simp)).ck.take _).drop _
      · simp at h1
    · exact over_xok (fun z hz => h z (by simp [hz])) y h1
section
variable {E : Env} {R : List SProp} {w : World} {b q bt ba B B' B2 : Nat} {t s zs : List Int} {xs ys l : List X} {v : Value}
theorem tree_oT (h : SatL E w (Cells b #[pT bt] 44 :: TreeB bt ba xs B :: R)) : Calls Try.prog 25 #[pT b] w (Ret fun v w' => v = pT bt ∧ SatL E w' (Cells b #[pT bt] 44 :: TreeB bt ba xs B :: R)) := by
  refine calls_x Try.func25 rfl Try.ntmps25 rfl ?_
  refine xc_gen (fun g hg => ?_)
  have s0 := (hg 0).trans arg0
  clear hg
  refine xc_seq (fun K hK1 => ?_)
  refine xc_region ?_
  refine x_val (r_assign ec) (nd_of rfl) rfl ?_
  refine xw_nil ?_
  refine hK1 _ _ ?_
  refine xc_gen (fun g hg => ?_)
  have s0 := (hg 0).trans (en rfl s0)
  have s2 := (hg 2).trans es
  clear hg
  refine xc_seq (fun K hK2 => ?_)
  refine xc_seq (fun K hK3 => ?_)
  refine xc_region ?_
  refine x_val (r_move s0) (nd_of rfl) rfl ?_
  refine x_val (r_nilCheck es) (nd_of rfl) rfl ?_
  refine x_val (r_fieldAddr (o' := 0) Try.underlying44 rfl Try.sizeOf42 rfl es rfl) (nd_of rfl) rfl ?_
  refine x_val (r_load h 0 rfl Try.isAgg42 es gc0) (nd_of rfl) rfl ?_
  refine x_val (r_eqnil Try.underlying42 es ec (r := false) rfl) (nd_of rfl) rfl ?_
  refine xw_nil ?_
  refine hK3 _ _ ?_
  refine xc_gen (fun g hg => ?_)
  have s0 := (hg 0).trans (en rfl (en rfl (en rfl (en rfl (en rfl s0)))))
  have s2 := (hg 2).trans (en rfl (en rfl (en rfl (en rfl (en rfl s2)))))
  have s7 := (hg 7).trans es
  clear hg
  refine xc_cond s7 (fun hc => by cases hc) (fun _ => ?_)
  refine xc_skip ?_
  refine hK2 _ _ ?_
  refine xc_seq (fun K hK4 => ?_)
  refine xc_region ?_
  refine x_val (r_move s0) (nd_of rfl) rfl ?_
  refine x_val (r_nilCheck es) (nd_of rfl) rfl ?_
  refine x_val (r_fieldAddr (o' := 0) Try.underlying44 rfl Try.sizeOf42 rfl es rfl) (nd_of rfl) rfl ?_
  refine x_val (r_load h 0 rfl Try.isAgg42 es gc0) (nd_of rfl) rfl ?_
  refine x_val (r_assign es) (nd_of rfl) rfl ?_
  refine xw_nil ?_
  refine hK4 _ _ ?_
  refine xc_gen (fun g hg => ?_)
  have s0 := (hg 0).trans (en rfl (en rfl (en rfl (en rfl (en rfl s0)))))
  have s2 := (hg 2).trans es
  have s7 := (hg 7).trans (en rfl (en rfl (en rfl (en rfl (en rfl s7)))))
  clear hg
  refine xc_ret ?_
  refine bodyR_1 rfl s2 ?_
  exact ⟨rfl, h⟩
theorem len_oT (h : SatL E w (Cells b #[pT bt] 44 :: TreeB bt ba xs B :: R)) : Calls Try.prog 11 #[pT b] w (Ret fun v w' => v = .int .i64 (sz xs : Int) ∧ SatL E w' (Cells b #[pT bt] 44 :: TreeB bt ba xs B :: R)) := by
  refine calls_x Try.func11 rfl Try.ntmps11 rfl ?_
  refine xc_gen (fun g hg => ?_)
  have s0 := (hg 0).trans arg0
  clear hg
  refine xc_seq (fun K hK1 => ?_)
  refine xc_region ?_
  refine x_val (r_assign ec) (nd_of rfl) rfl ?_
  refine xw_nil ?_
  refine hK1 _ _ ?_
  refine xc_gen (fun g hg => ?_)
  have s0 := (hg 0).trans (en rfl s0)
  have s2 := (hg 2).trans es
  clear hg
  refine xc_seq (fun K hK2 => ?_)
  refine xc_seq (fun K hK3 => ?_)
  refine xc_region ?_
  refine x_val (r_move s0) (nd_of rfl) rfl ?_
  refine x_val (r_eqnil Try.underlying24 es ec (r := false) rfl) (nd_of rfl) rfl ?_
  refine xw_nil ?_
  refine hK3 _ _ ?_
  refine xc_gen (fun g hg => ?_)
  have s0 := (hg 0).trans (en rfl (en rfl s0))
  have s2 := (hg 2).trans (en rfl (en rfl s2))
  have s4 := (hg 4).trans es
  clear hg
  refine xc_cond s4 (fun hc => by cases hc) (fun _ => ?_)
  refine xc_skip ?_
  refine hK2 _ _ ?_
  refine xc_seq (fun K hK4 => ?_)
  refine xc_region ?_
  refine x_val (r_move s0) (nd_of rfl) rfl ?_
  refine x_enter (r_call Try.call25 (.cons es .nil)) (nd_of rfl) rfl (tree_oT h) ?_
  rintro _ w ⟨rfl, h⟩
  have h := h.f1
  refine x_enter (r_call Try.call26 (.cons es .nil)) (nd_of rfl) rfl (size_t h) ?_
  rintro _ w ⟨rfl, h⟩
  refine x_val (r_assign es) (nd_of rfl) rfl ?_
  refine xw_nil ?_
  refine hK4 _ _ ?_
  refine xc_gen (fun g hg => ?_)
  have s0 := (hg 0).trans (en rfl (en rfl (en rfl (en rfl s0))))
  have s2 := (hg 2).trans es
  have s4 := (hg 4).trans (en rfl (en rfl (en rfl (en rfl s4))))
  clear hg
  refine xc_ret ?_
  refine bodyR_1 rfl s2 ?_
  exact ⟨rfl, h.f1⟩
theorem split_no {i : Int} (hp : ¬ isPart t.length i i) (h : SatL E w (Rp b t B :: R)) : Calls Try.prog 16 #[pT b, .int .i64 i] w (Ret fun u w' => u = .tuple #[.pointer none, .int .i64 5] ∧ SatL E w' (Rp b t B :: R)) := by
  refine calls_x Try.func16 rfl Try.ntmps16 rfl ?_
  refine xc_gen (fun g hg => ?_)
  have s0 := (hg 0).trans arg0
  have s1 := (hg 1).trans arg1
  clear hg
  refine xc_seq (fun K hK1 => ?_)
  refine xc_region ?_
  refine x_val (r_assign ec) (nd_of rfl) rfl ?_
  refine x_val (r_assign ec) (nd_of rfl) rfl ?_
  refine xw_nil ?_
  refine hK1 _ _ ?_
  refine xc_gen (fun g hg => ?_)
  have s0 := (hg 0).trans (en rfl (en rfl s0))
  have s1 := (hg 1).trans (en rfl (en rfl s1))
  have s4 := (hg 4).trans (en rfl es)
  have s5 := (hg 5).trans es
  clear hg
  refine xc_seq (fun K hK2 => ?_)
  refine xc_seq (fun K hK3 => ?_)
  refine xc_region ?_
  refine x_val (r_move s0) (nd_of rfl) rfl ?_
  refine x_val (r_move (en rfl s1)) (nd_of rfl) rfl ?_
  refine x_val (r_move (en rfl (en rfl s1))) (nd_of rfl) rfl ?_
  refine x_enter (r_call Try.call27 (.cons (en rfl (en rfl es)) (.cons (en rfl es) (.cons es .nil)))) (nd_of rfl) rfl (betweenR h) ?_
  rintro _ w ⟨rfl, h⟩
  refine x_val (r_assign es) (nd_of rfl) rfl ?_
  refine xw_nil ?_
  refine hK3 _ _ ?_
  refine xc_gen (fun g hg => ?_)
  have s0 := (hg 0).trans (en rfl (en rfl (en rfl (en rfl (en rfl s0)))))
  have s1 := (hg 1).trans (en rfl (en rfl (en rfl (en rfl (en rfl s1)))))
  have s4 := (hg 4).trans (en rfl (en rfl (en rfl (en rfl (en rfl s4)))))
  have s5 := (hg 5).trans (en rfl (en rfl (en rfl (en rfl (en rfl s5)))))
  have s6 := (hg 6).trans es
  clear hg
  refine xc_seq (fun K hK4 => ?_)
  refine xc_region ?_
  refine x_val (r_move s6) (nd_of rfl) rfl ?_
  refine x_val (r_neq es ec (decide_eq_true (by rw [if_neg hp]; decide))) (nd_of rfl) rfl ?_
  refine xw_nil ?_
  refine hK4 _ _ ?_
  refine xc_gen (fun g hg => ?_)
  have s0 := (hg 0).trans (en rfl (en rfl s0))
  have s1 := (hg 1).trans (en rfl (en rfl s1))
  have s4 := (hg 4).trans (en rfl (en rfl s4))
  have s5 := (hg 5).trans (en rfl (en rfl s5))
  have s6 := (hg 6).trans (en rfl (en rfl s6))
  have s13 := (hg 13).trans es
  clear hg
  refine xc_cond s13 (fun _ => ?_) (fun hc => by cases hc)
  refine xc_seq (fun K hK5 => ?_)
  refine xc_region ?_
  refine x_val (r_move s6) (nd_of rfl) rfl ?_
  refine x_val (r_assign ec) (nd_of rfl) rfl ?_
  refine x_val (r_assign (en rfl es)) (nd_of rfl) rfl ?_
  refine xw_nil ?_
  refine hK5 _ _ ?_
  refine xc_gen (fun g hg => ?_)
  have s0 := (hg 0).trans (en rfl (en rfl (en rfl s0)))
  have s1 := (hg 1).trans (en rfl (en rfl (en rfl s1)))
  have s4 := (hg 4).trans (en rfl es)
  have s5 := (hg 5).trans es
  have s6 := (hg 6).trans (en rfl (en rfl (en rfl s6)))
  have s13 := (hg 13).trans (en rfl (en rfl (en rfl s13)))
  clear hg
  refine xc_ret ?_
  refine bodyR_2 rfl s4 s5 ?_
  exact ⟨by rw [if_neg hp], h⟩
theorem splitR {i : Int} (hp : isPart t.length i i) (hB : t.length + 4 ≤ B') (hBB : B ≤ B') (hB' : B' ≤ 100000000) (h : SatL E w (Rp b t B :: R)) :
    Calls Try.prog 16 #[pT b, .int .i64 i] w (Ret fun u w' => ∃ q, u = .tuple #[pT q, .int .i64 0] ∧ SatL E w' (Rp q (t.drop i.toNat) B' :: Rp b (t.take i.toNat) B' :: R)) := by
  obtain ⟨xs, rfl, hh⟩ := h.openRp
  clear h
  have h := hh
  clear hh
  have hpl := ps_len h.objFacts.1
  have hst := sz_txt xs
  have hxok := h.objFacts.2.2
  rw [← sz_txt] at hp
  have hp2 := hp
  obtain ⟨h0, h1, h2⟩ := hp
  obtain ⟨ni, rfl⟩ := Int.eq_ofNat_of_zero_le h0
  have hov := txt_over xs ni (sz xs)
  have hol := over_len xs ni (sz xs)
  have hoz : sz (overL xs ni (sz xs)) ≤ sz xs := by rw [sz_txt, hov, List.length_drop, List.length_take]; omega
  have htr := txt_repl (xs := xs) (l := []) (i := ni) (j := sz xs) (by omega)
  have htr2 := txt_repl (xs := []) (l := overL xs ni (sz xs)) (i := 0) (j := 0) (Nat.le_refl _)
  have hoo : ∀ y ∈ overL xs ni (sz xs), xOk y := over_xok hxok
  refine calls_x Try.func16 rfl Try.ntmps16 rfl ?_
  refine xc_gen (fun g hg => ?_)
  have s0 := (hg 0).trans arg0
  have s1 := (hg 1).trans arg1
  clear hg
  refine xc_seq (fun K hK1 => ?_)
  refine xc_region ?_
  refine x_val (r_assign ec) (nd_of rfl) rfl ?_
  refine x_val (r_assign ec) (nd_of rfl) rfl ?_
  refine xw_nil ?_
  refine hK1 _ _ ?_
  refine xc_gen (fun g hg => ?_)
  have s0 := (hg 0).trans (en rfl (en rfl s0))
  have s1 := (hg 1).trans (en rfl (en rfl s1))
  have s4 := (hg 4).trans (en rfl es)
  have s5 := (hg 5).trans es
  clear hg
  refine xc_seq (fun K hK2 => ?_)
  refine xc_seq (fun K hK3 => ?_)
  refine xc_region ?_
  refine x_val (r_move s0) (nd_of rfl) rfl ?_
  refine x_val (r_move (en rfl s1)) (nd_of rfl) rfl ?_
  refine x_val (r_move (en rfl (en rfl s1))) (nd_of rfl) rfl ?_
  refine x_enter (r_call Try.call27 (.cons (en rfl (en rfl es)) (.cons (en rfl es) (.cons es .nil)))) (nd_of rfl) rfl (between_o h) ?_
  rintro _ w ⟨rfl, h⟩
  refine x_val (r_assign es) (nd_of rfl) rfl ?_
  refine xw_nil ?_
  refine hK3 _ _ ?_
  refine xc_gen (fun g hg => ?_)
  have s0 := (hg 0).trans (en rfl (en rfl (en rfl (en rfl (en rfl s0)))))
  have s1 := (hg 1).trans (en rfl (en rfl (en rfl (en rfl (en rfl s1)))))
  have s4 := (hg 4).trans (en rfl (en rfl (en rfl (en rfl (en rfl s4)))))
  have s5 := (hg 5).trans (en rfl (en rfl (en rfl (en rfl (en rfl s5)))))
  have s6 := (hg 6).trans es
  clear hg
  refine xc_seq (fun K hK4 => ?_)
  refine xc_region ?_
  refine x_val (r_move s6) (nd_of rfl) rfl ?_
  refine x_val (r_neq es ec (decide_eq_false (by rw [if_pos hp2]; decide))) (nd_of rfl) rfl ?_
  refine xw_nil ?_
  refine hK4 _ _ ?_
  refine xc_gen (fun g hg => ?_)
  have s0 := (hg 0).trans (en rfl (en rfl s0))
  have s1 := (hg 1).trans (en rfl (en rfl s1))
  have s4 := (hg 4).trans (en rfl (en rfl s4))
  have s5 := (hg 5).trans (en rfl (en rfl s5))
  have s6 := (hg 6).trans (en rfl (en rfl s6))
  have s13 := (hg 13).trans es
  clear hg
  refine xc_cond s13 (fun hc => by cases hc) (fun _ => ?_)
  refine xc_skip ?_
  refine hK2 _ _ ?_
  refine xc_seq (fun K hK5 => ?_)
  refine xc_region ?_
  refine x_enter (r_call Try.call9 .nil) (nd_of rfl) rfl (new_o h) ?_
  rintro _ w ⟨q, rfl, h⟩
  refine x_val (r_assign es) (nd_of rfl) rfl ?_
  refine xw_nil ?_
  refine hK5 _ _ ?_
  refine xc_gen (fun g hg => ?_)
  have s0 := (hg 0).trans (en rfl (en rfl s0))
  have s1 := (hg 1).trans (en rfl (en rfl s1))
  have s4 := (hg 4).trans (en rfl (en rfl s4))
  have s5 := (hg 5).trans (en rfl (en rfl s5))
  have s6 := (hg 6).trans (en rfl (en rfl s6))
  have s7 := (hg 7).trans es
  have s13 := (hg 13).trans (en rfl (en rfl s13))
  clear hg
  refine xc_seq (fun K hK6 => ?_)
  refine xc_region ?_
  refine x_val (r_move s7) (nd_of rfl) rfl ?_
  refine x_enter (r_call Try.call25 (.cons es .nil)) (nd_of rfl) rfl (tree_o h) ?_
  rintro _ w ⟨bq, aq, rfl, h⟩
  refine x_val (r_move (en rfl (en rfl s0))) (nd_of rfl) rfl ?_
  have h := h.f2
  refine x_enter (r_call Try.call25 (.cons es .nil)) (nd_of rfl) rfl (tree_o h) ?_
  rintro _ w ⟨bt, ba, rfl, h⟩
  refine x_val (r_move (en rfl (en rfl (en rfl (en rfl s1))))) (nd_of rfl) rfl ?_
  refine x_val (r_move (en rfl (en rfl (en rfl (en rfl (en rfl s0)))))) (nd_of rfl) rfl ?_
  have h := h.f1
  have h := h.f1
  refine x_enter (r_call Try.call11 (.cons es .nil)) (nd_of rfl) rfl (len_oT h) ?_
  rintro _ w ⟨rfl, h⟩
  refine x_enter (r_call Try.call31 (.cons (en rfl (en rfl (en rfl es))) (.cons (en rfl (en rfl es)) (.cons es .nil)))) (nd_of rfl) rfl (over_mk (i := ni) (j := sz xs) h) ?_
  rintro _ w ⟨c1, c2, c3, rfl, h⟩
  have h := h.f4
  have h := h.f3
  have h := h.f3
  have h := h.f3
  refine x_enter (r_call Try.call33 (.cons es .nil)) (nd_of rfl) rfl (collect_t (i := ni) (j := sz xs) (by omega) (by omega) (by omega) h) ?_
  rintro _ w h
  have h := h.f4
  refine x_enter (r_call Try.call28 (.cons (en rfl (en rfl (en rfl (en rfl (en rfl (en rfl (en rfl es))))))) (.cons ec (.cons ec (.cons es .nil))))) (nd_of rfl) rfl (replace_t (B' := B') (slc_row hoo h.drop) (i := 0) (j := 0) (Nat.le_refl _) (by simp [sz]) (by simp only [List.length_nil]; omega) (by omega) hB' (by simp only [sz]; omega) h) ?_
  rintro _ w h
  refine xw_nil ?_
  refine hK6 _ _ ?_
  refine xc_gen (fun g hg => ?_)
  have s0 := (hg 0).trans (en rfl (en rfl (en rfl (en rfl (en rfl (en rfl (en rfl (en rfl (en rfl (en rfl s0))))))))))
  have s1 := (hg 1).trans (en rfl (en rfl (en rfl (en rfl (en rfl (en rfl (en rfl (en rfl (en rfl (en rfl s1))))))))))
  have s4 := (hg 4).trans (en rfl (en rfl (en rfl (en rfl (en rfl (en rfl (en rfl (en rfl (en rfl (en rfl s4))))))))))
  have s5 := (hg 5).trans (en rfl (en rfl (en rfl (en rfl (en rfl (en rfl (en rfl (en rfl (en rfl (en rfl s5))))))))))
  have s6 := (hg 6).trans (en rfl (en rfl (en rfl (en rfl (en rfl (en rfl (en rfl (en rfl (en rfl (en rfl s6))))))))))
  have s7 := (hg 7).trans (en rfl (en rfl (en rfl (en rfl (en rfl (en rfl (en rfl (en rfl (en rfl (en rfl s7))))))))))
  have s13 := (hg 13).trans (en rfl (en rfl (en rfl (en rfl (en rfl (en rfl (en rfl (en rfl (en rfl (en rfl s13))))))))))
  clear hg
  refine xc_seq (fun K hK7 => ?_)
  refine xc_region ?_
  refine x_val (r_move s0) (nd_of rfl) rfl ?_
  have h := h.f2
  have h := h.f3
  refine x_enter (r_call Try.call25 (.cons es .nil)) (nd_of rfl) rfl (tree_oT h) ?_
  rintro _ w ⟨rfl, h⟩
  refine x_val (r_move (en rfl (en rfl s1))) (nd_of rfl) rfl ?_
  refine x_val (r_move (en rfl (en rfl (en rfl s0)))) (nd_of rfl) rfl ?_
  have h := h.f1
  have h := h.f1
  refine x_enter (r_call Try.call11 (.cons es .nil)) (nd_of rfl) rfl (len_oT h) ?_
  rintro _ w ⟨rfl, h⟩
  have h := h.f1
  refine x_enter (r_call Try.call28 (.cons (en rfl (en rfl (en rfl es))) (.cons (en rfl (en rfl es)) (.cons es (.cons ec .nil))))) (nd_of rfl) rfl (replace_t (B' := B') (l := []) slc_nil (i := ni) (j := sz xs) (by omega) (by omega) (by simp only [List.length_nil]; omega) hBB hB' (by simp only [sz]; omega) h) ?_
  rintro _ w h
  refine xw_nil ?_
  refine hK7 _ _ ?_
  refine xc_gen (fun g hg => ?_)
  have s0 := (hg 0).trans (en rfl (en rfl (en rfl (en rfl (en rfl (en rfl s0))))))
  have s1 := (hg 1).trans (en rfl (en rfl (en rfl (en rfl (en rfl (en rfl s1))))))
  have s4 := (hg 4).trans (en rfl (en rfl (en rfl (en rfl (en rfl (en rfl s4))))))
  have s5 := (hg 5).trans (en rfl (en rfl (en rfl (en rfl (en rfl (en rfl s5))))))
  have s6 := (hg 6).trans (en rfl (en rfl (en rfl (en rfl (en rfl (en rfl s6))))))
  have s7 := (hg 7).trans (en rfl (en rfl (en rfl (en rfl (en rfl (en rfl s7))))))
  have s13 := (hg 13).trans (en rfl (en rfl (en rfl (en rfl (en rfl (en rfl s13))))))
  clear hg
  refine xc_seq (fun K hK8 => ?_)
  have h := h.f3
  have h := h.f3
  have h := h.f4
  have h := h.f3
  have h := h.f4
  refine xc_region ?_
  refine x_val (r_move s7) (nd_of rfl) rfl ?_
  refine x_val (r_assign es) (nd_of rfl) rfl ?_
  refine x_val (r_assign ec) (nd_of rfl) rfl ?_
  refine xw_nil ?_
  refine hK8 _ _ ?_
  refine xc_gen (fun g hg => ?_)
  have s0 := (hg 0).trans (en rfl (en rfl (en rfl s0)))
  have s1 := (hg 1).trans (en rfl (en rfl (en rfl s1)))
  have s4 := (hg 4).trans (en rfl es)
  have s5 := (hg 5).trans es
  have s6 := (hg 6).trans (en rfl (en rfl (en rfl s6)))
  have s7 := (hg 7).trans (en rfl (en rfl (en rfl s7)))
  have s13 := (hg 13).trans (en rfl (en rfl (en rfl s13)))
  clear hg
  refine xc_ret ?_
  refine bodyR_2 rfl s4 s5 ?_
  exact ⟨_, rfl, SatL.closeRp (by rw [htr2, hov, hst, List.take_length]; simp) (SatL.closeObj (((SatL.closeRp (by rw [htr, hst, List.drop_length]; simp) (SatL.closeObj (h.f4.drop))).f2).f2))⟩
theorem concat_nil (h : SatL E w R) : Calls Try.prog 17 #[.pointer none, pT q] w (Ret fun u w' => u = .int .i64 1 ∧ SatL E w' R) := by
  refine calls_x Try.func17 rfl Try.ntmps17 rfl ?_
  refine xc_gen (fun g hg => ?_)
  have s0 := (hg 0).trans arg0
  have s1 := (hg 1).trans arg1
  clear hg
  refine xc_seq (fun K hK1 => ?_)
  refine xc_region ?_
  refine x_val (r_assign ec) (nd_of rfl) rfl ?_
  refine xw_nil ?_
  refine hK1 _ _ ?_
  refine xc_gen (fun g hg => ?_)
  have s0 := (hg 0).trans (en rfl s0)
  have s1 := (hg 1).trans (en rfl s1)
  have s4 := (hg 4).trans es
  clear hg
  refine xc_seq (fun K hK2 => ?_)
  refine xc_block ?_
  refine xc_seq (fun K hK3 => ?_)
  refine xc_region ?_
  refine x_val (r_move s0) (nd_of rfl) rfl ?_
  refine x_val (r_eqnil Try.underlying24 es ec (r := true) rfl) (nd_of rfl) rfl ?_
  refine x_val (r_move es) (nd_of rfl) rfl ?_
  refine x_pass (d := 8) rfl rfl es rfl ?_
  refine x_pass (d := 8) rfl rfl (en rfl es) rfl ?_
  refine x_val (r_pick_t (en rfl (en rfl es)) ec) (nd_of rfl) rfl ?_
  refine x_val (r_assign es) (nd_of rfl) rfl ?_
  refine xw_nil ?_
  refine hK3 _ _ ?_
  refine xc_gen (fun g hg => ?_)
  have s0 := (hg 0).trans (en rfl (en rfl (en rfl (en rfl (en rfl (en rfl (en rfl s0)))))))
  have s1 := (hg 1).trans (en rfl (en rfl (en rfl (en rfl (en rfl (en rfl (en rfl s1)))))))
  have s4 := (hg 4).trans (en rfl (en rfl (en rfl (en rfl (en rfl (en rfl (en rfl s4)))))))
  have s5 := (hg 5).trans es
  clear hg
  refine xc_cond s5 (fun _ => ?_) (fun hc => by cases hc)
  refine xc_seq (fun K hK4 => ?_)
  refine xc_region ?_
  refine x_val (r_assign ec) (nd_of rfl) rfl ?_
  refine xw_nil ?_
  refine hK4 _ _ ?_
  refine xc_gen (fun g hg => ?_)
  have s0 := (hg 0).trans (en rfl s0)
  have s1 := (hg 1).trans (en rfl s1)
  have s4 := (hg 4).trans es
  have s5 := (hg 5).trans (en rfl s5)
  clear hg
  refine xc_ret ?_
  refine bodyR_1 rfl s4 ?_
  exact ⟨rfl, h⟩
theorem concatR (hB : t.length + s.length + 4 ≤ B') (hBB : B ≤ B') (hB' : B' ≤ 100000000) (h : SatL E w (Rp b t B :: Rp q s B2 :: R)) :
    Calls Try.prog 17 #[pT b, pT q] w (Ret fun u w' => u = .int .i64 0 ∧ SatL E w' (Rp b (t ++ s) B' :: Rp q s B2 :: R)) := by
  obtain ⟨xs, rfl, hh⟩ := h.openRp
  clear h
  have h := hh
  clear hh
  obtain ⟨ys, rfl, hh⟩ := (h.f1).openRp
  clear h
  have h := hh.f1
  clear hh
  have hpl := ps_len h.objFacts.1
  have hpl2 := ps_len h.f1.objFacts.1
  have hst := sz_txt xs
  have hst2 := sz_txt ys
  have hyok := h.f1.objFacts.2.2
  have hov := txt_over ys 0 (sz ys)
  have hol := over_len ys 0 (sz ys)
  have hoz : sz (overL ys 0 (sz ys)) ≤ sz ys := by rw [sz_txt, hov, List.length_drop, List.length_take]; omega
  have htr := txt_repl (xs := xs) (l := overL ys 0 (sz ys)) (i := sz xs) (j := sz xs) (Nat.le_refl _)
  have hoo : ∀ y ∈ overL ys 0 (sz ys), xOk y := over_xok hyok
  refine calls_x Try.func17 rfl Try.ntmps17 rfl ?_
  refine xc_gen (fun g hg => ?_)
  have s0 := (hg 0).trans arg0
  have s1 := (hg 1).trans arg1
  clear hg
  refine xc_seq (fun K hK1 => ?_)
  refine xc_region ?_
  refine x_val (r_assign ec) (nd_of rfl) rfl ?_
  refine xw_nil ?_
  refine hK1 _ _ ?_
  refine xc_gen (fun g hg => ?_)
  have s0 := (hg 0).trans (en rfl s0)
  have s1 := (hg 1).trans (en rfl s1)
  have s4 := (hg 4).trans es
  clear hg
  refine xc_seq (fun K hK2 => ?_)
  refine xc_block ?_
  refine xc_seq (fun K hK3 => ?_)
  refine xc_region ?_
  refine x_val (r_move s0) (nd_of rfl) rfl ?_
  refine x_val (r_eqnil Try.underlying24 es ec (r := false) rfl) (nd_of rfl) rfl ?_
  refine x_val (r_move es) (nd_of rfl) rfl ?_
  refine x_take (d := 8) rfl rfl es ?_
  refine x_val (r_move (en rfl (en rfl (en rfl s1)))) (nd_of rfl) rfl ?_
  refine x_take (d := 8) rfl rfl (en rfl es) ?_
  refine x_val (r_eqnil Try.underlying24 es ec (r := false) rfl) (nd_of rfl) rfl ?_
  refine x_val (r_pick_f (en rfl (en rfl es)) es) (nd_of rfl) rfl ?_
  refine x_val (r_assign es) (nd_of rfl) rfl ?_
  refine xw_nil ?_
  refine hK3 _ _ ?_
  refine xc_gen (fun g hg => ?_)
  have s0 := (hg 0).trans (en rfl (en rfl (en rfl (en rfl (en rfl (en rfl (en rfl s0)))))))
  have s1 := (hg 1).trans (en rfl (en rfl (en rfl (en rfl (en rfl (en rfl (en rfl s1)))))))
  have s4 := (hg 4).trans (en rfl (en rfl (en rfl (en rfl (en rfl (en rfl (en rfl s4)))))))
  have s5 := (hg 5).trans es
  clear hg
  refine xc_cond s5 (fun hc => by cases hc) (fun _ => ?_)
  refine xc_seq (fun K hK4 => ?_)
  refine xc_region ?_
  refine x_val (r_move s1) (nd_of rfl) rfl ?_
  have h := h.f1
  refine x_enter (r_call Try.call11 (.cons es .nil)) (nd_of rfl) rfl (len_o h) ?_
  rintro _ w ⟨rfl, h⟩
  refine x_val (r_move (en rfl (en rfl s0))) (nd_of rfl) rfl ?_
  have h := h.f1
  refine x_enter (r_call Try.call11 (.cons es .nil)) (nd_of rfl) rfl (len_o h) ?_
  rintro _ w ⟨rfl, h⟩
  refine x_val (r_sub ec es (show _ = ((536870912 : Int) - sz xs : Int) from by rfl) (by unfold I64; omega)) (nd_of rfl) rfl ?_
  refine x_val (r_gtr (en rfl (en rfl (en rfl es))) es (decide_eq_false (by omega))) (nd_of rfl) rfl ?_
  refine x_val (r_assign es) (nd_of rfl) rfl ?_
  refine xw_nil ?_
  refine hK4 _ _ ?_
  refine xc_gen (fun g hg => ?_)
  have s0 := (hg 0).trans (en rfl (en rfl (en rfl (en rfl (en rfl (en rfl (en rfl s0)))))))
  have s1 := (hg 1).trans (en rfl (en rfl (en rfl (en rfl (en rfl (en rfl (en rfl s1)))))))
  have s4 := (hg 4).trans (en rfl (en rfl (en rfl (en rfl (en rfl (en rfl (en rfl s4)))))))
  have s5 := (hg 5).trans (en rfl (en rfl (en rfl (en rfl (en rfl (en rfl (en rfl s5)))))))
  have s12 := (hg 12).trans es
  clear hg
  refine xc_cond s12 (fun hc => by cases hc) (fun _ => ?_)
  refine xc_skip ?_
  refine hK2 _ _ ?_
  refine xc_seq (fun K hK5 => ?_)
  refine xc_region ?_
  refine x_val (r_move s0) (nd_of rfl) rfl ?_
  refine x_enter (r_call Try.call25 (.cons es .nil)) (nd_of rfl) rfl (tree_o h) ?_
  rintro _ w ⟨bt, ba, rfl, h⟩
  refine x_val (r_move (en rfl (en rfl s0))) (nd_of rfl) rfl ?_
  have h := h.f1
  have h := h.f1
  refine x_enter (r_call Try.call11 (.cons es .nil)) (nd_of rfl) rfl (len_oT h) ?_
  rintro _ w ⟨rfl, h⟩
  refine x_val (r_move (en rfl (en rfl (en rfl (en rfl s0))))) (nd_of rfl) rfl ?_
  have h := h.f1
  have h := h.f1
  refine x_enter (r_call Try.call11 (.cons es .nil)) (nd_of rfl) rfl (len_oT h) ?_
  rintro _ w ⟨rfl, h⟩
  refine x_val (r_move (en rfl (en rfl (en rfl (en rfl (en rfl (en rfl s1))))))) (nd_of rfl) rfl ?_
  have h := h.f2
  refine x_enter (r_call Try.call25 (.cons es .nil)) (nd_of rfl) rfl (tree_o h) ?_
  rintro _ w ⟨bq, aq, rfl, h⟩
  refine x_val (r_move (en rfl (en rfl (en rfl (en rfl (en rfl (en rfl (en rfl (en rfl s1))))))))) (nd_of rfl) rfl ?_
  have h := h.f1
  have h := h.f1
  refine x_enter (r_call Try.call11 (.cons es .nil)) (nd_of rfl) rfl (len_oT h) ?_
  rintro _ w ⟨rfl, h⟩
  refine x_enter (r_call Try.call31 (.cons (en rfl (en rfl es)) (.cons ec (.cons es .nil)))) (nd_of rfl) rfl (over_mk (i := 0) (j := sz ys) h) ?_
  rintro _ w ⟨c1, c2, c3, rfl, h⟩
  have h := h.f4
  have h := h.f3
  have h := h.f3
  have h := h.f3
  refine x_enter (r_call Try.call33 (.cons es .nil)) (nd_of rfl) rfl (collect_t (i := 0) (j := sz ys) (by omega) (by omega) (by omega) h) ?_
  rintro _ w h
  have h := h.f4
  refine x_enter (r_call Try.call28 (.cons (en rfl (en rfl (en rfl (en rfl (en rfl (en rfl (en rfl (en rfl (en rfl (en rfl es)))))))))) (.cons (en rfl (en rfl (en rfl (en rfl (en rfl (en rfl (en rfl (en rfl es)))))))) (.cons (en rfl (en rfl (en rfl (en rfl (en rfl (en rfl es)))))) (.cons es .nil))))) (nd_of rfl) rfl (replace_t (B' := B') (slc_row hoo h.drop) (i := sz xs) (j := sz xs) (Nat.le_refl _) (Nat.le_refl _) (by omega) hBB hB' (by omega) h) ?_
  rintro _ w h
  refine xw_nil ?_
  refine hK5 _ _ ?_
  refine xc_gen (fun g hg => ?_)
  have s0 := (hg 0).trans (en rfl (en rfl (en rfl (en rfl (en rfl (en rfl (en rfl (en rfl (en rfl (en rfl (en rfl (en rfl (en rfl s0)))))))))))))
  have s1 := (hg 1).trans (en rfl (en rfl (en rfl (en rfl (en rfl (en rfl (en rfl (en rfl (en rfl (en rfl (en rfl (en rfl (en rfl s1)))))))))))))
  have s4 := (hg 4).trans (en rfl (en rfl (en rfl (en rfl (en rfl (en rfl (en rfl (en rfl (en rfl (en rfl (en rfl (en rfl (en rfl s4)))))))))))))
  have s5 := (hg 5).trans (en rfl (en rfl (en rfl (en rfl (en rfl (en rfl (en rfl (en rfl (en rfl (en rfl (en rfl (en rfl (en rfl s5)))))))))))))
  have s12 := (hg 12).trans (en rfl (en rfl (en rfl (en rfl (en rfl (en rfl (en rfl (en rfl (en rfl (en rfl (en rfl (en rfl (en rfl s12)))))))))))))
  clear hg
  refine xc_seq (fun K hK6 => ?_)
  have h := h.f1
  have h := h.f1
  have h := h.f4
  have h := h.f3
  have h := h.f4
  refine xc_region ?_
  refine x_val (r_assign ec) (nd_of rfl) rfl ?_
  refine xw_nil ?_
  refine hK6 _ _ ?_
  refine xc_gen (fun g hg => ?_)
  have s0 := (hg 0).trans (en rfl s0)
  have s1 := (hg 1).trans (en rfl s1)
  have s4 := (hg 4).trans es
  have s5 := (hg 5).trans (en rfl s5)
  have s12 := (hg 12).trans (en rfl s12)
  clear hg
  refine xc_ret ?_
  refine bodyR_1 rfl s4 ?_
  exact ⟨rfl, SatL.closeRp (by rw [htr, hov, hst, hst2, List.take_length, List.take_length, List.drop_length]; simp) (SatL.closeObj (((SatL.closeRp rfl (SatL.closeObj (h.f4.drop))).f2).f2))⟩
end
end Go.Proofs.Ytmfkhfmidnojhaa
