/-
Ropes: Insert in one; the known case.
-/
import Derived.Test.YtmfkhfmidnojhaaP5
namespace Go.Proofs.Ytmfkhfmidnojhaa
open Go Go.RowKit
/-- why runes are not put in -/
def insE (t zs : List Int) (i : Int) : Int := if ∀ r ∈ zs, rune r then (if isPart t.length i i then 0 else 5) else 3
def insT (t zs : List Int) (i : Int) : List Int := if insE t zs i = 0 then t.take i.toNat ++ (zs ++ t.drop i.toNat) else t
theorem insE_zero {t zs : List Int} {i : Int} (h : insE t zs i = 0) : (∀ r ∈ zs, rune r) ∧ isPart t.length i i := by
  unfold insE at h
  split at h
  · split at h
    · exact ⟨by assumption, by assumption⟩
    · cases h
  · cases h
section
variable {E : Env} {R : List SProp} {w : World} {b q bt ba B B' B2 : Nat} {t s zs : List Int} {xs ys l : List X} {v : Value}
theorem insertR {i : Int} (hv : Reads E R v .i32 zs) (hB : t.length + zs.length + 4 ≤ B') (hBB : B ≤ B') (hB' : B' ≤ 1000000) (h : SatL E w (Rp b t B :: R)) :
    Calls Try.prog 13 #[pT b, .int .i64 i, v] w (Ret fun u w' => u = .int .i64 (insE t zs i) ∧ SatL E w' (Rp b (insT t zs i) B' :: R)) := by
  unfold insT insE
  by_cases ha : ∀ r ∈ zs, rune r
  · have h1 := insert_ok (i := i) hv ha hB hBB hB' h
    rw [if_pos ha]
    by_cases hp : isPart t.length i i
    · rw [if_pos hp] at h1 ⊢
      rw [if_pos rfl]
      rw [if_pos hp] at h1
      exact h1
    · rw [if_neg hp] at h1 ⊢
      rw [if_neg (by decide)]
      rw [if_neg hp] at h1
      exact h1
  · rw [if_neg ha, if_neg (by decide)]
    refine insert_bad hv ?_ (by omega) hBB h
    exact Classical.byContradiction fun hn => ha fun r hr => Classical.byContradiction fun h2 => hn ⟨r, hr, h2⟩
theorem insert_yes {i : Int} (hi : insE t zs i = 0) (hv : Reads E R v .i32 zs) (hB : t.length + zs.length + 4 ≤ B') (hBB : B ≤ B') (hB' : B' ≤ 1000000) (h : SatL E w (Rp b t B :: R)) :
    Calls Try.prog 13 #[pT b, .int .i64 i, v] w (Ret fun u w' => u = .int .i64 0 ∧ SatL E w' (Rp b (t.take i.toNat ++ (zs ++ t.drop i.toNat)) B' :: R)) := by
  have h1 := insertR (i := i) hv hB hBB hB' h
  rw [insT, if_pos hi, hi] at h1
  exact h1
theorem insert_fail {i : Int} (hi : insE t zs i ≠ 0) (hv : Reads E R v .i32 zs) (hB : t.length + zs.length + 4 ≤ B') (hBB : B ≤ B') (hB' : B' ≤ 1000000) (h : SatL E w (Rp b t B :: R)) :
    Calls Try.prog 13 #[pT b, .int .i64 i, v] w (Ret fun u w' => u = .int .i64 (insE t zs i) ∧ SatL E w' (Rp b t B' :: R)) := by
  have h1 := insertR (i := i) hv hB hBB hB' h
  rw [insT, if_neg hi] at h1
  exact h1
theorem known_ok (h : SatL E w R) : Calls Try.prog 10 #[] w (Ret fun u w' => u = .bool true ∧ SatL E w' R) := by
  have zI : ∀ w, (zeroValue 21).run Try.prog w = .ok (.int .i32 0) w := fun _ => by kernel_rfl
  refine calls_x Try.func10 rfl Try.ntmps10 rfl ?_
  refine xc_gen (fun g hg => ?_)
  clear hg
  refine xc_seq (fun K hK1 => ?_)
  refine xc_region ?_
  refine x_val (r_assign ec) (nd_of rfl) rfl ?_
  refine xw_nil ?_
  refine hK1 _ _ ?_
  refine xc_gen (fun g hg => ?_)
  have s0 := (hg 0).trans es
  clear hg
  refine xc_seq (fun K hK2 => ?_)
  refine xc_region ?_
  refine x_enter (r_call Try.call9 .nil) (nd_of rfl) rfl (newR h) ?_
  rintro _ w ⟨b, rfl, h⟩
  refine x_val (r_assign es) (nd_of rfl) rfl ?_
  refine xw_nil ?_
  refine hK2 _ _ ?_
  refine xc_gen (fun g hg => ?_)
  have s0 := (hg 0).trans (en rfl (en rfl s0))
  have s1 := (hg 1).trans es
  clear hg
  refine xc_seq (fun K hK3 => ?_)
  refine xc_seq (fun K hK4 => ?_)
  refine xc_region ?_
  refine x_val (r_move s1) (nd_of rfl) rfl ?_
  refine x_val (r_eqnil Try.underlying24 es ec (r := false) rfl) (nd_of rfl) rfl ?_
  refine x_val (r_move es) (nd_of rfl) rfl ?_
  refine x_take (d := 13) rfl rfl es ?_
  refine x_val (r_move (en rfl (en rfl (en rfl s1)))) (nd_of rfl) rfl ?_
  refine x_take (d := 13) rfl rfl (en rfl es) ?_
  refine x_bsliceL (c := #[.int .i32 97, .int .i32 99]) h Try.underlying23 Try.sizeOf21 zI rfl (by kernel_rfl) rfl rfl rfl ?_; intro bs w h
  refine x_take (d := 13) rfl rfl (en rfl (en rfl es)) ?_
  have h := h.f1
  refine x_enter (r_call Try.call13 (.cons (en rfl es) (.cons ec (.cons es .nil)))) (nd_of rfl) rfl (insert_yes (B' := 1000) (zs := [97, 99]) (by decide) (cellsReads rfl rfl (by decide)) (by decide) (by decide) (by decide) h) ?_
  rintro _ w ⟨rfl, h⟩
  rw [show List.take (Int.toNat 0) ([] : List Int) ++ ([97, 99] ++ List.drop (Int.toNat 0) []) = [97, 99] by decide] at h
  refine x_take (d := 13) rfl rfl (en rfl (en rfl (en rfl es))) ?_
  refine x_val (r_neq es ec (r := false) rfl) (nd_of rfl) rfl ?_
  refine x_val (r_pick_f (en rfl (en rfl (en rfl (en rfl es)))) es) (nd_of rfl) rfl ?_
  refine x_val (r_move es) (nd_of rfl) rfl ?_
  refine x_take (d := 19) rfl rfl es ?_
  refine x_val (r_move (en rfl (en rfl (en rfl (en rfl (en rfl (en rfl (en rfl (en rfl (en rfl s1)))))))))) (nd_of rfl) rfl ?_
  refine x_take (d := 19) rfl rfl (en rfl es) ?_
  refine x_bsliceL (c := #[.int .i32 98, .int .i32 10]) h Try.underlying23 Try.sizeOf21 zI rfl (by kernel_rfl) rfl rfl rfl ?_; intro bu w h
  refine x_take (d := 19) rfl rfl (en rfl (en rfl es)) ?_
  have h := h.f1
  refine x_enter (r_call Try.call13 (.cons (en rfl es) (.cons ec (.cons es .nil)))) (nd_of rfl) rfl (insert_yes (B' := 1000) (zs := [98, 10]) (by decide) (cellsReads rfl rfl (by decide)) (by decide) (by decide) (by decide) h) ?_
  rintro _ w ⟨rfl, h⟩
  rw [show List.take (Int.toNat 1) ([97, 99] : List Int) ++ ([98, 10] ++ List.drop (Int.toNat 1) [97, 99]) = [97, 98, 10, 99] by decide] at h
  refine x_take (d := 19) rfl rfl (en rfl (en rfl (en rfl es))) ?_
  refine x_val (r_neq es ec (r := false) rfl) (nd_of rfl) rfl ?_
  refine x_val (r_pick_f (en rfl (en rfl (en rfl (en rfl es)))) es) (nd_of rfl) rfl ?_
  refine x_val (r_move es) (nd_of rfl) rfl ?_
  refine x_take (d := 25) rfl rfl es ?_
  refine x_val (r_move (en rfl (en rfl (en rfl (en rfl (en rfl (en rfl (en rfl (en rfl (en rfl (en rfl (en rfl (en rfl (en rfl (en rfl (en rfl s1)))))))))))))))) (nd_of rfl) rfl ?_
  refine x_take (d := 25) rfl rfl (en rfl es) ?_
  refine x_enter (r_call Try.call11 (.cons es .nil)) (nd_of rfl) rfl (lenR h) ?_
  rintro _ w ⟨rfl, h⟩
  refine x_take (d := 25) rfl rfl (en rfl (en rfl es)) ?_
  refine x_val (r_neq es ec (r := false) rfl) (nd_of rfl) rfl ?_
  refine x_val (r_pick_f (en rfl (en rfl (en rfl es))) es) (nd_of rfl) rfl ?_
  refine x_val (r_move es) (nd_of rfl) rfl ?_
  refine x_take (d := 30) rfl rfl es ?_
  refine x_val (r_move (en rfl (en rfl (en rfl (en rfl (en rfl (en rfl (en rfl (en rfl (en rfl (en rfl (en rfl (en rfl (en rfl (en rfl (en rfl (en rfl (en rfl (en rfl (en rfl (en rfl s1))))))))))))))))))))) (nd_of rfl) rfl ?_
  refine x_take (d := 30) rfl rfl (en rfl es) ?_
  refine x_enter (r_call Try.call18 (.cons es .nil)) (nd_of rfl) rfl (newlinesR h) ?_
  rintro _ w ⟨rfl, h⟩
  refine x_take (d := 30) rfl rfl (en rfl (en rfl es)) ?_
  refine x_val (r_neq es ec (r := false) rfl) (nd_of rfl) rfl ?_
  refine x_val (r_pick_f (en rfl (en rfl (en rfl es))) es) (nd_of rfl) rfl ?_
  refine xw_nil ?_
  refine hK4 _ _ ?_
  refine xc_gen (fun g hg => ?_)
  have s0 := (hg 0).trans (en rfl (en rfl (en rfl (en rfl (en rfl (en rfl (en rfl (en rfl (en rfl (en rfl (en rfl (en rfl (en rfl (en rfl (en rfl (en rfl (en rfl (en rfl (en rfl (en rfl (en rfl (en rfl (en rfl (en rfl s0))))))))))))))))))))))))
  have s1 := (hg 1).trans (en rfl (en rfl (en rfl (en rfl (en rfl (en rfl (en rfl (en rfl (en rfl (en rfl (en rfl (en rfl (en rfl (en rfl (en rfl (en rfl (en rfl (en rfl (en rfl (en rfl (en rfl (en rfl (en rfl (en rfl s1))))))))))))))))))))))))
  have s34 := (hg 34).trans es
  clear hg
  refine xc_cond s34 (fun hc => by cases hc) (fun _ => ?_)
  refine xc_skip ?_
  refine hK3 _ _ ?_
  refine xc_seq (fun K hK5 => ?_)
  refine xc_region ?_
  refine x_val (r_move s1) (nd_of rfl) rfl ?_
  refine x_enter (r_call Try.call19 (.cons es (.cons ec .nil))) (nd_of rfl) rfl (lineOfR (V := 0) (by decide) (by decide) h) ?_
  rintro _ w ⟨rfl, h⟩
  refine x_val (r_move es) (nd_of rfl) rfl ?_
  refine x_val (r_extract es gc0) (nd_of rfl) rfl ?_
  refine x_val (r_extract (en rfl es) gc1) (nd_of rfl) rfl ?_
  refine x_val (r_assign (en rfl es)) (nd_of rfl) rfl ?_
  refine x_val (r_assign (en rfl es)) (nd_of rfl) rfl ?_
  refine xw_nil ?_
  refine hK5 _ _ ?_
  refine xc_gen (fun g hg => ?_)
  have s0 := (hg 0).trans (en rfl (en rfl (en rfl (en rfl (en rfl (en rfl (en rfl s0)))))))
  have s1 := (hg 1).trans (en rfl (en rfl (en rfl (en rfl (en rfl (en rfl (en rfl s1)))))))
  have s2 := (hg 2).trans (en rfl es)
  have s3 := (hg 3).trans es
  have s34 := (hg 34).trans (en rfl (en rfl (en rfl (en rfl (en rfl (en rfl (en rfl s34)))))))
  clear hg
  refine xc_seq (fun K hK6 => ?_)
  refine xc_region ?_
  refine x_val (r_move s1) (nd_of rfl) rfl ?_
  refine x_enter (r_call Try.call19 (.cons es (.cons ec .nil))) (nd_of rfl) rfl (lineOfR (V := 1) (by decide) (by decide) h) ?_
  rintro _ w ⟨rfl, h⟩
  refine x_val (r_move es) (nd_of rfl) rfl ?_
  refine x_val (r_extract es gc0) (nd_of rfl) rfl ?_
  refine x_val (r_extract (en rfl es) gc1) (nd_of rfl) rfl ?_
  refine x_val (r_assign (en rfl es)) (nd_of rfl) rfl ?_
  refine x_val (r_assign (en rfl es)) (nd_of rfl) rfl ?_
  refine xw_nil ?_
  refine hK6 _ _ ?_
  refine xc_gen (fun g hg => ?_)
  have s0 := (hg 0).trans (en rfl (en rfl (en rfl (en rfl (en rfl (en rfl (en rfl s0)))))))
  have s1 := (hg 1).trans (en rfl (en rfl (en rfl (en rfl (en rfl (en rfl (en rfl s1)))))))
  have s2 := (hg 2).trans (en rfl (en rfl (en rfl (en rfl (en rfl (en rfl (en rfl s2)))))))
  have s3 := (hg 3).trans (en rfl (en rfl (en rfl (en rfl (en rfl (en rfl (en rfl s3)))))))
  have s4 := (hg 4).trans (en rfl es)
  have s5 := (hg 5).trans es
  have s34 := (hg 34).trans (en rfl (en rfl (en rfl (en rfl (en rfl (en rfl (en rfl s34)))))))
  clear hg
  refine xc_seq (fun K hK7 => ?_)
  refine xc_region ?_
  refine x_val (r_move s1) (nd_of rfl) rfl ?_
  refine x_enter (r_call Try.call20 (.cons es (.cons ec .nil))) (nd_of rfl) rfl (offsetOfR (p := 2) (by decide) (by decide) (by decide) h) ?_
  rintro _ w ⟨rfl, h⟩
  refine x_val (r_move es) (nd_of rfl) rfl ?_
  refine x_val (r_extract es gc0) (nd_of rfl) rfl ?_
  refine x_val (r_extract (en rfl es) gc1) (nd_of rfl) rfl ?_
  refine x_val (r_assign (en rfl es)) (nd_of rfl) rfl ?_
  refine x_val (r_assign (en rfl es)) (nd_of rfl) rfl ?_
  refine xw_nil ?_
  refine hK7 _ _ ?_
  refine xc_gen (fun g hg => ?_)
  have s0 := (hg 0).trans (en rfl (en rfl (en rfl (en rfl (en rfl (en rfl (en rfl s0)))))))
  have s1 := (hg 1).trans (en rfl (en rfl (en rfl (en rfl (en rfl (en rfl (en rfl s1)))))))
  have s2 := (hg 2).trans (en rfl (en rfl (en rfl (en rfl (en rfl (en rfl (en rfl s2)))))))
  have s3 := (hg 3).trans (en rfl (en rfl (en rfl (en rfl (en rfl (en rfl (en rfl s3)))))))
  have s4 := (hg 4).trans (en rfl (en rfl (en rfl (en rfl (en rfl (en rfl (en rfl s4)))))))
  have s5 := (hg 5).trans (en rfl (en rfl (en rfl (en rfl (en rfl (en rfl (en rfl s5)))))))
  have s6 := (hg 6).trans (en rfl es)
  have s7 := (hg 7).trans es
  have s34 := (hg 34).trans (en rfl (en rfl (en rfl (en rfl (en rfl (en rfl (en rfl s34)))))))
  clear hg
  refine xc_seq (fun K hK8 => ?_)
  refine xc_region ?_
  refine x_val (r_move s1) (nd_of rfl) rfl ?_
  refine x_enter (r_call Try.call20 (.cons es (.cons ec .nil))) (nd_of rfl) rfl (offsetOf_no (.inr (by decide)) h) ?_
  rintro _ w ⟨rfl, h⟩
  refine x_val (r_move es) (nd_of rfl) rfl ?_
  refine x_val (r_extract es gc0) (nd_of rfl) rfl ?_
  refine x_val (r_extract (en rfl es) gc1) (nd_of rfl) rfl ?_
  refine x_val (r_assign (en rfl es)) (nd_of rfl) rfl ?_
  refine x_val (r_assign (en rfl es)) (nd_of rfl) rfl ?_
  refine xw_nil ?_
  refine hK8 _ _ ?_
  refine xc_gen (fun g hg => ?_)
  have s0 := (hg 0).trans (en rfl (en rfl (en rfl (en rfl (en rfl (en rfl (en rfl s0)))))))
  have s1 := (hg 1).trans (en rfl (en rfl (en rfl (en rfl (en rfl (en rfl (en rfl s1)))))))
  have s2 := (hg 2).trans (en rfl (en rfl (en rfl (en rfl (en rfl (en rfl (en rfl s2)))))))
  have s3 := (hg 3).trans (en rfl (en rfl (en rfl (en rfl (en rfl (en rfl (en rfl s3)))))))
  have s4 := (hg 4).trans (en rfl (en rfl (en rfl (en rfl (en rfl (en rfl (en rfl s4)))))))
  have s5 := (hg 5).trans (en rfl (en rfl (en rfl (en rfl (en rfl (en rfl (en rfl s5)))))))
  have s6 := (hg 6).trans (en rfl (en rfl (en rfl (en rfl (en rfl (en rfl (en rfl s6)))))))
  have s7 := (hg 7).trans (en rfl (en rfl (en rfl (en rfl (en rfl (en rfl (en rfl s7)))))))
  have s9 := (hg 9).trans es
  have s34 := (hg 34).trans (en rfl (en rfl (en rfl (en rfl (en rfl (en rfl (en rfl s34)))))))
  clear hg
  refine xc_seq (fun K hK9 => ?_)
  refine xc_region ?_
  refine x_val (r_move s2) (nd_of rfl) rfl ?_
  refine x_val (r_eql es ec (r := true) rfl) (nd_of rfl) rfl ?_
  refine x_val (r_move es) (nd_of rfl) rfl ?_
  refine x_take (d := 57) rfl rfl es ?_
  refine x_val (r_move (en rfl (en rfl (en rfl s3)))) (nd_of rfl) rfl ?_
  refine x_take (d := 57) rfl rfl (en rfl es) ?_
  refine x_val (r_eql es ec (r := true) rfl) (nd_of rfl) rfl ?_
  refine x_val (r_pick_t (en rfl (en rfl es)) es) (nd_of rfl) rfl ?_
  refine x_val (r_move es) (nd_of rfl) rfl ?_
  refine x_take (d := 61) rfl rfl es ?_
  refine x_val (r_move (en rfl (en rfl (en rfl (en rfl (en rfl (en rfl (en rfl s4)))))))) (nd_of rfl) rfl ?_
  refine x_take (d := 61) rfl rfl (en rfl es) ?_
  refine x_val (r_eql es ec (r := true) rfl) (nd_of rfl) rfl ?_
  refine x_val (r_pick_t (en rfl (en rfl es)) es) (nd_of rfl) rfl ?_
  refine x_val (r_move es) (nd_of rfl) rfl ?_
  refine x_take (d := 65) rfl rfl es ?_
  refine x_val (r_move (en rfl (en rfl (en rfl (en rfl (en rfl (en rfl (en rfl (en rfl (en rfl (en rfl (en rfl s5)))))))))))) (nd_of rfl) rfl ?_
  refine x_take (d := 65) rfl rfl (en rfl es) ?_
  refine x_val (r_eql es ec (r := true) rfl) (nd_of rfl) rfl ?_
  refine x_val (r_pick_t (en rfl (en rfl es)) es) (nd_of rfl) rfl ?_
  refine x_val (r_move es) (nd_of rfl) rfl ?_
  refine x_take (d := 69) rfl rfl es ?_
  refine x_val (r_move (en rfl (en rfl (en rfl (en rfl (en rfl (en rfl (en rfl (en rfl (en rfl (en rfl (en rfl (en rfl (en rfl (en rfl (en rfl s6)))))))))))))))) (nd_of rfl) rfl ?_
  refine x_take (d := 69) rfl rfl (en rfl es) ?_
  refine x_val (r_eql es ec (r := true) rfl) (nd_of rfl) rfl ?_
  refine x_val (r_pick_t (en rfl (en rfl es)) es) (nd_of rfl) rfl ?_
  refine x_val (r_move es) (nd_of rfl) rfl ?_
  refine x_take (d := 73) rfl rfl es ?_
  refine x_val (r_move (en rfl (en rfl (en rfl (en rfl (en rfl (en rfl (en rfl (en rfl (en rfl (en rfl (en rfl (en rfl (en rfl (en rfl (en rfl (en rfl (en rfl (en rfl (en rfl s7)))))))))))))))))))) (nd_of rfl) rfl ?_
  refine x_take (d := 73) rfl rfl (en rfl es) ?_
  refine x_val (r_eql es ec (r := true) rfl) (nd_of rfl) rfl ?_
  refine x_val (r_pick_t (en rfl (en rfl es)) es) (nd_of rfl) rfl ?_
  refine x_val (r_move es) (nd_of rfl) rfl ?_
  refine x_take (d := 77) rfl rfl es ?_
  refine x_val (r_move (en rfl (en rfl (en rfl (en rfl (en rfl (en rfl (en rfl (en rfl (en rfl (en rfl (en rfl (en rfl (en rfl (en rfl (en rfl (en rfl (en rfl (en rfl (en rfl (en rfl (en rfl (en rfl (en rfl s9)))))))))))))))))))))))) (nd_of rfl) rfl ?_
  refine x_take (d := 77) rfl rfl (en rfl es) ?_
  refine x_val (r_eql es ec (r := true) rfl) (nd_of rfl) rfl ?_
  refine x_val (r_pick_t (en rfl (en rfl es)) es) (nd_of rfl) rfl ?_
  refine x_val (r_move es) (nd_of rfl) rfl ?_
  refine x_take (d := 81) rfl rfl es ?_
  refine x_val (r_move (en rfl (en rfl (en rfl (en rfl (en rfl (en rfl (en rfl (en rfl (en rfl (en rfl (en rfl (en rfl (en rfl (en rfl (en rfl (en rfl (en rfl (en rfl (en rfl (en rfl (en rfl (en rfl (en rfl (en rfl (en rfl (en rfl (en rfl s1)))))))))))))))))))))))))))) (nd_of rfl) rfl ?_
  refine x_take (d := 81) rfl rfl (en rfl es) ?_
  refine x_enter (r_call Try.call12 (.cons es (.cons ec (.cons ec .nil)))) (nd_of rfl) rfl (deleteR (B' := 1000) (by decide) (by decide) (by decide) (by decide) h) ?_
  rintro _ w ⟨rfl, h⟩
  refine x_take (d := 81) rfl rfl (en rfl (en rfl es)) ?_
  refine x_val (r_eql es ec (r := true) rfl) (nd_of rfl) rfl ?_
  refine x_val (r_pick_t (en rfl (en rfl (en rfl es))) es) (nd_of rfl) rfl ?_
  refine x_val (r_move es) (nd_of rfl) rfl ?_
  refine x_take (d := 86) rfl rfl es ?_
  refine x_val (r_move (en rfl (en rfl (en rfl (en rfl (en rfl (en rfl (en rfl (en rfl (en rfl (en rfl (en rfl (en rfl (en rfl (en rfl (en rfl (en rfl (en rfl (en rfl (en rfl (en rfl (en rfl (en rfl (en rfl (en rfl (en rfl (en rfl (en rfl (en rfl (en rfl (en rfl (en rfl (en rfl s1))))))))))))))))))))))))))))))))) (nd_of rfl) rfl ?_
  refine x_take (d := 86) rfl rfl (en rfl es) ?_
  refine x_enter (r_call Try.call11 (.cons es .nil)) (nd_of rfl) rfl (lenR h) ?_
  rintro _ w ⟨rfl, h⟩
  refine x_take (d := 86) rfl rfl (en rfl (en rfl es)) ?_
  refine x_val (r_eql es ec (r := true) rfl) (nd_of rfl) rfl ?_
  refine x_val (r_pick_t (en rfl (en rfl (en rfl es))) es) (nd_of rfl) rfl ?_
  refine x_val (r_assign es) (nd_of rfl) rfl ?_
  refine xw_nil ?_
  refine hK9 _ _ ?_
  refine xc_gen (fun g hg => ?_)
  have s0 := (hg 0).trans es
  have s1 := (hg 1).trans (en rfl (en rfl (en rfl (en rfl (en rfl (en rfl (en rfl (en rfl (en rfl (en rfl (en rfl (en rfl (en rfl (en rfl (en rfl (en rfl (en rfl (en rfl (en rfl (en rfl (en rfl (en rfl (en rfl (en rfl (en rfl (en rfl (en rfl (en rfl (en rfl (en rfl (en rfl (en rfl (en rfl (en rfl (en rfl (en rfl (en rfl s1)))))))))))))))))))))))))))))))))))))
  have s2 := (hg 2).trans (en rfl (en rfl (en rfl (en rfl (en rfl (en rfl (en rfl (en rfl (en rfl (en rfl (en rfl (en rfl (en rfl (en rfl (en rfl (en rfl (en rfl (en rfl (en rfl (en rfl (en rfl (en rfl (en rfl (en rfl (en rfl (en rfl (en rfl (en rfl (en rfl (en rfl (en rfl (en rfl (en rfl (en rfl (en rfl (en rfl (en rfl s2)))))))))))))))))))))))))))))))))))))
  have s3 := (hg 3).trans (en rfl (en rfl (en rfl (en rfl (en rfl (en rfl (en rfl (en rfl (en rfl (en rfl (en rfl (en rfl (en rfl (en rfl (en rfl (en rfl (en rfl (en rfl (en rfl (en rfl (en rfl (en rfl (en rfl (en rfl (en rfl (en rfl (en rfl (en rfl (en rfl (en rfl (en rfl (en rfl (en rfl (en rfl (en rfl (en rfl (en rfl s3)))))))))))))))))))))))))))))))))))))
  have s4 := (hg 4).trans (en rfl (en rfl (en rfl (en rfl (en rfl (en rfl (en rfl (en rfl (en rfl (en rfl (en rfl (en rfl (en rfl (en rfl (en rfl (en rfl (en rfl (en rfl (en rfl (en rfl (en rfl (en rfl (en rfl (en rfl (en rfl (en rfl (en rfl (en rfl (en rfl (en rfl (en rfl (en rfl (en rfl (en rfl (en rfl (en rfl (en rfl s4)))))))))))))))))))))))))))))))))))))
  have s5 := (hg 5).trans (en rfl (en rfl (en rfl (en rfl (en rfl (en rfl (en rfl (en rfl (en rfl (en rfl (en rfl (en rfl (en rfl (en rfl (en rfl (en rfl (en rfl (en rfl (en rfl (en rfl (en rfl (en rfl (en rfl (en rfl (en rfl (en rfl (en rfl (en rfl (en rfl (en rfl (en rfl (en rfl (en rfl (en rfl (en rfl (en rfl (en rfl s5)))))))))))))))))))))))))))))))))))))
  have s6 := (hg 6).trans (en rfl (en rfl (en rfl (en rfl (en rfl (en rfl (en rfl (en rfl (en rfl (en rfl (en rfl (en rfl (en rfl (en rfl (en rfl (en rfl (en rfl (en rfl (en rfl (en rfl (en rfl (en rfl (en rfl (en rfl (en rfl (en rfl (en rfl (en rfl (en rfl (en rfl (en rfl (en rfl (en rfl (en rfl (en rfl (en rfl (en rfl s6)))))))))))))))))))))))))))))))))))))
  have s7 := (hg 7).trans (en rfl (en rfl (en rfl (en rfl (en rfl (en rfl (en rfl (en rfl (en rfl (en rfl (en rfl (en rfl (en rfl (en rfl (en rfl (en rfl (en rfl (en rfl (en rfl (en rfl (en rfl (en rfl (en rfl (en rfl (en rfl (en rfl (en rfl (en rfl (en rfl (en rfl (en rfl (en rfl (en rfl (en rfl (en rfl (en rfl (en rfl s7)))))))))))))))))))))))))))))))))))))
  have s9 := (hg 9).trans (en rfl (en rfl (en rfl (en rfl (en rfl (en rfl (en rfl (en rfl (en rfl (en rfl (en rfl (en rfl (en rfl (en rfl (en rfl (en rfl (en rfl (en rfl (en rfl (en rfl (en rfl (en rfl (en rfl (en rfl (en rfl (en rfl (en rfl (en rfl (en rfl (en rfl (en rfl (en rfl (en rfl (en rfl (en rfl (en rfl (en rfl s9)))))))))))))))))))))))))))))))))))))
  have s34 := (hg 34).trans (en rfl (en rfl (en rfl (en rfl (en rfl (en rfl (en rfl (en rfl (en rfl (en rfl (en rfl (en rfl (en rfl (en rfl (en rfl (en rfl (en rfl (en rfl (en rfl (en rfl (en rfl (en rfl (en rfl (en rfl (en rfl (en rfl (en rfl (en rfl (en rfl (en rfl (en rfl (en rfl (en rfl (en rfl (en rfl (en rfl (en rfl s34)))))))))))))))))))))))))))))))))))))
  clear hg
  refine xc_ret ?_
  refine bodyR_1 rfl s0 ?_
  exact ⟨rfl, h.drop.drop.drop⟩
end
end Go.Proofs.Ytmfkhfmidnojhaa
