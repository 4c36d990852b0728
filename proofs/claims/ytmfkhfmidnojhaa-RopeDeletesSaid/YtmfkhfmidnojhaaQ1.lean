/-
Ropes: what the laws share; RopeDeletes, the walk.
-/
import Derived.Test.YtmfkhfmidnojhaaP6
namespace Go.Proofs.Ytmfkhfmidnojhaa
open Go Go.RowKit
theorem del_law {zs : List Int} {i j k m : Nat} (hij : i ≤ j) (hjk : j ≤ k) (hkm : k ≤ m) (hm : m ≤ zs.length) :
    (zs.take k ++ zs.drop m).take i ++ (zs.take k ++ zs.drop m).drop j = (zs.take i ++ zs.drop j).take (k - (j - i)) ++ (zs.take i ++ zs.drop j).drop (m - (j - i)) := by
  have l1 : (zs.take k).length = k := by rw [List.length_take]; omega
  have l2 : (zs.take i).length = i := by rw [List.length_take]; omega
  rw [List.take_append_of_le_length (by omega), List.take_take, Nat.min_eq_left (by omega), List.drop_append_of_le_length (by omega), List.take_append, List.take_of_length_le (l := zs.take i) (by omega), l2,
    List.drop_append, List.drop_eq_nil_of_le (show (zs.take i).length ≤ m - (j - i) by omega), l2, List.nil_append, List.drop_drop, List.drop_take, List.append_assoc, show k - (j - i) - i = k - j by omega, show j + (m - (j - i) - i) = m by omega]
section
variable {E : Env} {R : List SProp} {w : World} {b q B B' : Nat} {t zs : List Int} {v : Value}
theorem insert_new (hi : insE [] zs 0 = 0) (hv : Reads E R v .i32 zs) (hB : zs.length + 4 ≤ B') (hBB : B ≤ B') (hB' : B' ≤ 1000000) (h : SatL E w (Rp b [] B :: R)) :
    Calls Try.prog 13 #[pT b, .int .i64 0, v] w (Ret fun u w' => u = .int .i64 0 ∧ SatL E w' (Rp b zs B' :: R)) := by
  have h1 := insert_yes (i := 0) hi hv (by simpa using hB) hBB hB' h
  have e : List.take (Int.toNat 0) ([] : List Int) ++ (zs ++ List.drop (Int.toNat 0) []) = zs := by simp
  rw [e] at h1
  exact h1
theorem slice_all (hb : t.length ≤ 100000000) (h : SatL E w (Rp b t B :: R)) : Calls Try.prog 14 #[pT b, .int .i64 0, .int .i64 (t.length : Int)] w (Ret fun u w' => ∃ v, u = .tuple #[v, .int .i64 0] ∧ SatL E w' (RunesR v t :: Rp b t B :: R)) := by
  have h1 := sliceR (i := 0) (j := (t.length : Int)) ⟨by omega, by omega, by omega⟩ hb h
  have e : List.drop (Int.toNat 0) (List.take (Int.toNat (t.length : Int)) t) = t := by simp
  rw [e] at h1
  exact h1
theorem Reads.row {s : List Int} {A : SProp} : Reads E (A :: RunesR v s :: R) v .i32 s := rowReads.up
theorem del_all {i j k m : Int} (hv : Reads E R v .i32 zs) (hi : I64 i) (hj : I64 j) (hk : I64 k) (hm : I64 m) (h : SatL E w R) : Calls Try.prog 8 #[v, .int .i64 i, .int .i64 j, .int .i64 k, .int .i64 m] w (Ret fun u w' => u = .bool true ∧ SatL E w' R) := by
  obtain ⟨a, cap, rfl, hl1, hl2⟩ := hv.slice h
  unfold I64 at hi hj hk hm
  rcases Nat.lt_or_ge 2000 zs.length with h1 | h1
  · skip
    refine calls_x Try.func8 rfl Try.ntmps8 rfl ?_
    refine xc_gen (fun g hg => ?_)
    have s0 := (hg 0).trans arg0
    have s1 := (hg 1).trans arg1
    have s2 := (hg 2).trans arg2
    have s3 := (hg 3).trans arg3
    have s4 := (hg 4).trans arg4
    clear hg
    refine xc_seq (fun K hK1 => ?_)
    refine xc_region ?_
    refine x_val (r_assign ec) (nd_of rfl) rfl ?_
    refine xw_nil ?_
    refine hK1 _ _ ?_
    refine xc_gen (fun g hg => ?_)
    have s0 := (hg 0).trans (en rfl s0)
    have s1 := (hg 1).trans (en rfl s1)
    have s2 := (hg 2).trans (en rfl s2)
    have s3 := (hg 3).trans (en rfl s3)
    have s4 := (hg 4).trans (en rfl s4)
    have s10 := (hg 10).trans es
    clear hg
    refine xc_seq (fun K hK2 => ?_)
    refine xc_seq (fun K hK3 => ?_)
    refine xc_region ?_
    refine x_val (r_move s0) (nd_of rfl) rfl ?_
    refine x_val (r_len Try.underlying23 es) (nd_of rfl) rfl ?_
    refine x_val (r_gtr es ec (decide_eq_true (by omega))) (nd_of rfl) rfl ?_
    refine xw_nil ?_
    refine hK3 _ _ ?_
    refine xc_gen (fun g hg => ?_)
    have s0 := (hg 0).trans (en rfl (en rfl (en rfl s0)))
    have s1 := (hg 1).trans (en rfl (en rfl (en rfl s1)))
    have s2 := (hg 2).trans (en rfl (en rfl (en rfl s2)))
    have s3 := (hg 3).trans (en rfl (en rfl (en rfl s3)))
    have s4 := (hg 4).trans (en rfl (en rfl (en rfl s4)))
    have s10 := (hg 10).trans (en rfl (en rfl (en rfl s10)))
    have s19 := (hg 19).trans es
    clear hg
    refine xc_cond s19 (fun _ => ?_) (fun hc => by cases hc)
    refine xc_seq (fun K hK4 => ?_)
    refine xc_region ?_
    refine x_enter (r_call Try.call10 .nil) (nd_of rfl) rfl (known_ok h) ?_
    rintro _ w ⟨rfl, h⟩
    refine x_val (r_assign es) (nd_of rfl) rfl ?_
    refine xw_nil ?_
    refine hK4 _ _ ?_
    refine xc_gen (fun g hg => ?_)
    have s0 := (hg 0).trans (en rfl (en rfl s0))
    have s1 := (hg 1).trans (en rfl (en rfl s1))
    have s2 := (hg 2).trans (en rfl (en rfl s2))
    have s3 := (hg 3).trans (en rfl (en rfl s3))
    have s4 := (hg 4).trans (en rfl (en rfl s4))
    have s10 := (hg 10).trans es
    have s19 := (hg 19).trans (en rfl (en rfl s19))
    clear hg
    refine xc_ret ?_
    refine bodyR_1 rfl s10 ?_
    exact ⟨rfl, h⟩
  by_cases he : insE [] zs 0 = 0
  case neg =>
    refine calls_x Try.func8 rfl Try.ntmps8 rfl ?_
    refine xc_gen (fun g hg => ?_)
    have s0 := (hg 0).trans arg0
    have s1 := (hg 1).trans arg1
    have s2 := (hg 2).trans arg2
    have s3 := (hg 3).trans arg3
    have s4 := (hg 4).trans arg4
    clear hg
    refine xc_seq (fun K hK1 => ?_)
    refine xc_region ?_
    refine x_val (r_assign ec) (nd_of rfl) rfl ?_
    refine xw_nil ?_
    refine hK1 _ _ ?_
    refine xc_gen (fun g hg => ?_)
    have s0 := (hg 0).trans (en rfl s0)
    have s1 := (hg 1).trans (en rfl s1)
    have s2 := (hg 2).trans (en rfl s2)
    have s3 := (hg 3).trans (en rfl s3)
    have s4 := (hg 4).trans (en rfl s4)
    have s10 := (hg 10).trans es
    clear hg
    refine xc_seq (fun K hK2 => ?_)
    refine xc_seq (fun K hK3 => ?_)
    refine xc_region ?_
    refine x_val (r_move s0) (nd_of rfl) rfl ?_
    refine x_val (r_len Try.underlying23 es) (nd_of rfl) rfl ?_
    refine x_val (r_gtr es ec (decide_eq_false (by omega))) (nd_of rfl) rfl ?_
    refine xw_nil ?_
    refine hK3 _ _ ?_
    refine xc_gen (fun g hg => ?_)
    have s0 := (hg 0).trans (en rfl (en rfl (en rfl s0)))
    have s1 := (hg 1).trans (en rfl (en rfl (en rfl s1)))
    have s2 := (hg 2).trans (en rfl (en rfl (en rfl s2)))
    have s3 := (hg 3).trans (en rfl (en rfl (en rfl s3)))
    have s4 := (hg 4).trans (en rfl (en rfl (en rfl s4)))
    have s10 := (hg 10).trans (en rfl (en rfl (en rfl s10)))
    have s19 := (hg 19).trans es
    clear hg
    refine xc_cond s19 (fun hc => by cases hc) (fun _ => ?_)
    refine xc_skip ?_
    refine hK2 _ _ ?_
    refine xc_seq (fun K hK4 => ?_)
    refine xc_region ?_
    refine x_enter (r_call Try.call9 .nil) (nd_of rfl) rfl (newR h) ?_
    rintro _ w ⟨b, rfl, h⟩
    refine x_enter (r_call Try.call9 .nil) (nd_of rfl) rfl (newR h) ?_
    rintro _ w ⟨q, rfl, h⟩
    refine x_val (r_assign (en rfl es)) (nd_of rfl) rfl ?_
    refine x_val (r_assign (en rfl es)) (nd_of rfl) rfl ?_
    refine xw_nil ?_
    refine hK4 _ _ ?_
    refine xc_gen (fun g hg => ?_)
    have s0 := (hg 0).trans (en rfl (en rfl (en rfl (en rfl s0))))
    have s1 := (hg 1).trans (en rfl (en rfl (en rfl (en rfl s1))))
    have s2 := (hg 2).trans (en rfl (en rfl (en rfl (en rfl s2))))
    have s3 := (hg 3).trans (en rfl (en rfl (en rfl (en rfl s3))))
    have s4 := (hg 4).trans (en rfl (en rfl (en rfl (en rfl s4))))
    have s10 := (hg 10).trans (en rfl (en rfl (en rfl (en rfl s10))))
    have s11 := (hg 11).trans (en rfl es)
    have s12 := (hg 12).trans es
    have s19 := (hg 19).trans (en rfl (en rfl (en rfl (en rfl s19))))
    clear hg
    refine xc_seq (fun K hK5 => ?_)
    refine xc_seq (fun K hK6 => ?_)
    refine xc_region ?_
    refine x_val (r_move s11) (nd_of rfl) rfl ?_
    refine x_val (r_move (en rfl s0)) (nd_of rfl) rfl ?_
    have h := h.f1
    refine x_enter (r_call Try.call13 (.cons (en rfl es) (.cons ec (.cons es .nil)))) (nd_of rfl) rfl (insert_fail he (hv.up) (B' := 3000) (by simp; omega) (by omega) (by omega) h) ?_
    rintro _ w ⟨rfl, h⟩
    refine x_val (r_neq es ec (decide_eq_true (by exact he))) (nd_of rfl) rfl ?_
    refine x_val (r_move es) (nd_of rfl) rfl ?_
    refine x_pass (d := 27) rfl rfl es rfl ?_
    refine x_pass (d := 27) rfl rfl (en rfl es) rfl ?_
    refine x_pass (d := 27) rfl rfl (en rfl (en rfl es)) rfl ?_
    refine x_pass (d := 27) rfl rfl (en rfl (en rfl (en rfl es))) rfl ?_
    refine x_val (r_pick_t (en rfl (en rfl (en rfl (en rfl es)))) ec) (nd_of rfl) rfl ?_
    refine x_val (r_move es) (nd_of rfl) rfl ?_
    refine x_pass (d := 33) rfl rfl es rfl ?_
    refine x_pass (d := 33) rfl rfl (en rfl es) rfl ?_
    refine x_val (r_pick_t (en rfl (en rfl es)) ec) (nd_of rfl) rfl ?_
    refine x_val (r_move es) (nd_of rfl) rfl ?_
    refine x_pass (d := 37) rfl rfl es rfl ?_
    refine x_pass (d := 37) rfl rfl (en rfl es) rfl ?_
    refine x_pass (d := 37) rfl rfl (en rfl (en rfl es)) rfl ?_
    refine x_val (r_pick_t (en rfl (en rfl (en rfl es))) ec) (nd_of rfl) rfl ?_
    refine x_val (r_move es) (nd_of rfl) rfl ?_
    refine x_pass (d := 42) rfl rfl es rfl ?_
    refine x_pass (d := 42) rfl rfl (en rfl es) rfl ?_
    refine x_pass (d := 42) rfl rfl (en rfl (en rfl es)) rfl ?_
    refine x_val (r_pick_t (en rfl (en rfl (en rfl es))) ec) (nd_of rfl) rfl ?_
    refine x_val (r_move es) (nd_of rfl) rfl ?_
    refine x_pass (d := 47) rfl rfl es rfl ?_
    refine x_pass (d := 47) rfl rfl (en rfl es) rfl ?_
    refine x_pass (d := 47) rfl rfl (en rfl (en rfl es)) rfl ?_
    refine x_val (r_pick_t (en rfl (en rfl (en rfl es))) ec) (nd_of rfl) rfl ?_
    refine x_val (r_move es) (nd_of rfl) rfl ?_
    refine x_pass (d := 52) rfl rfl es rfl ?_
    refine x_pass (d := 52) rfl rfl (en rfl es) rfl ?_
    refine x_pass (d := 52) rfl rfl (en rfl (en rfl es)) rfl ?_
    refine x_pass (d := 52) rfl rfl (en rfl (en rfl (en rfl es))) rfl ?_
    refine x_val (r_pick_t (en rfl (en rfl (en rfl (en rfl es)))) ec) (nd_of rfl) rfl ?_
    refine xw_nil ?_
    refine hK6 _ _ ?_
    refine xc_gen (fun g hg => ?_)
    have s0 := (hg 0).trans (en rfl (en rfl (en rfl (en rfl (en rfl (en rfl (en rfl (en rfl (en rfl (en rfl (en rfl (en rfl (en rfl (en rfl (en rfl (en rfl (en rfl (en rfl (en rfl (en rfl (en rfl (en rfl (en rfl (en rfl (en rfl (en rfl (en rfl (en rfl (en rfl (en rfl (en rfl (en rfl (en rfl (en rfl (en rfl s0)))))))))))))))))))))))))))))))))))
    have s1 := (hg 1).trans (en rfl (en rfl (en rfl (en rfl (en rfl (en rfl (en rfl (en rfl (en rfl (en rfl (en rfl (en rfl (en rfl (en rfl (en rfl (en rfl (en rfl (en rfl (en rfl (en rfl (en rfl (en rfl (en rfl (en rfl (en rfl (en rfl (en rfl (en rfl (en rfl (en rfl (en rfl (en rfl (en rfl (en rfl (en rfl s1)))))))))))))))))))))))))))))))))))
    have s2 := (hg 2).trans (en rfl (en rfl (en rfl (en rfl (en rfl (en rfl (en rfl (en rfl (en rfl (en rfl (en rfl (en rfl (en rfl (en rfl (en rfl (en rfl (en rfl (en rfl (en rfl (en rfl (en rfl (en rfl (en rfl (en rfl (en rfl (en rfl (en rfl (en rfl (en rfl (en rfl (en rfl (en rfl (en rfl (en rfl (en rfl s2)))))))))))))))))))))))))))))))))))
    have s3 := (hg 3).trans (en rfl (en rfl (en rfl (en rfl (en rfl (en rfl (en rfl (en rfl (en rfl (en rfl (en rfl (en rfl (en rfl (en rfl (en rfl (en rfl (en rfl (en rfl (en rfl (en rfl (en rfl (en rfl (en rfl (en rfl (en rfl (en rfl (en rfl (en rfl (en rfl (en rfl (en rfl (en rfl (en rfl (en rfl (en rfl s3)))))))))))))))))))))))))))))))))))
    have s4 := (hg 4).trans (en rfl (en rfl (en rfl (en rfl (en rfl (en rfl (en rfl (en rfl (en rfl (en rfl (en rfl (en rfl (en rfl (en rfl (en rfl (en rfl (en rfl (en rfl (en rfl (en rfl (en rfl (en rfl (en rfl (en rfl (en rfl (en rfl (en rfl (en rfl (en rfl (en rfl (en rfl (en rfl (en rfl (en rfl (en rfl s4)))))))))))))))))))))))))))))))))))
    have s10 := (hg 10).trans (en rfl (en rfl (en rfl (en rfl (en rfl (en rfl (en rfl (en rfl (en rfl (en rfl (en rfl (en rfl (en rfl (en rfl (en rfl (en rfl (en rfl (en rfl (en rfl (en rfl (en rfl (en rfl (en rfl (en rfl (en rfl (en rfl (en rfl (en rfl (en rfl (en rfl (en rfl (en rfl (en rfl (en rfl (en rfl s10)))))))))))))))))))))))))))))))))))
    have s11 := (hg 11).trans (en rfl (en rfl (en rfl (en rfl (en rfl (en rfl (en rfl (en rfl (en rfl (en rfl (en rfl (en rfl (en rfl (en rfl (en rfl (en rfl (en rfl (en rfl (en rfl (en rfl (en rfl (en rfl (en rfl (en rfl (en rfl (en rfl (en rfl (en rfl (en rfl (en rfl (en rfl (en rfl (en rfl (en rfl (en rfl s11)))))))))))))))))))))))))))))))))))
    have s12 := (hg 12).trans (en rfl (en rfl (en rfl (en rfl (en rfl (en rfl (en rfl (en rfl (en rfl (en rfl (en rfl (en rfl (en rfl (en rfl (en rfl (en rfl (en rfl (en rfl (en rfl (en rfl (en rfl (en rfl (en rfl (en rfl (en rfl (en rfl (en rfl (en rfl (en rfl (en rfl (en rfl (en rfl (en rfl (en rfl (en rfl s12)))))))))))))))))))))))))))))))))))
    have s19 := (hg 19).trans (en rfl (en rfl (en rfl (en rfl (en rfl (en rfl (en rfl (en rfl (en rfl (en rfl (en rfl (en rfl (en rfl (en rfl (en rfl (en rfl (en rfl (en rfl (en rfl (en rfl (en rfl (en rfl (en rfl (en rfl (en rfl (en rfl (en rfl (en rfl (en rfl (en rfl (en rfl (en rfl (en rfl (en rfl (en rfl s19)))))))))))))))))))))))))))))))))))
    have s57 := (hg 57).trans es
    clear hg
    refine xc_cond s57 (fun _ => ?_) (fun hc => by cases hc)
    refine xc_seq (fun K hK7 => ?_)
    refine xc_region ?_
    refine x_enter (r_call Try.call10 .nil) (nd_of rfl) rfl (known_ok h) ?_
    rintro _ w ⟨rfl, h⟩
    refine x_val (r_assign es) (nd_of rfl) rfl ?_
    refine xw_nil ?_
    refine hK7 _ _ ?_
    refine xc_gen (fun g hg => ?_)
    have s0 := (hg 0).trans (en rfl (en rfl s0))
    have s1 := (hg 1).trans (en rfl (en rfl s1))
    have s2 := (hg 2).trans (en rfl (en rfl s2))
    have s3 := (hg 3).trans (en rfl (en rfl s3))
    have s4 := (hg 4).trans (en rfl (en rfl s4))
    have s10 := (hg 10).trans es
    have s11 := (hg 11).trans (en rfl (en rfl s11))
    have s12 := (hg 12).trans (en rfl (en rfl s12))
    have s19 := (hg 19).trans (en rfl (en rfl s19))
    have s57 := (hg 57).trans (en rfl (en rfl s57))
    clear hg
    refine xc_ret ?_
    refine bodyR_1 rfl s10 ?_
    exact ⟨rfl, h.drop.drop⟩
  rcases Int.lt_or_le i 0 with hi0 | hi0
  · skip
    refine calls_x Try.func8 rfl Try.ntmps8 rfl ?_
    refine xc_gen (fun g hg => ?_)
    have s0 := (hg 0).trans arg0
    have s1 := (hg 1).trans arg1
    have s2 := (hg 2).trans arg2
    have s3 := (hg 3).trans arg3
    have s4 := (hg 4).trans arg4
    clear hg
    refine xc_seq (fun K hK1 => ?_)
    refine xc_region ?_
    refine x_val (r_assign ec) (nd_of rfl) rfl ?_
    refine xw_nil ?_
    refine hK1 _ _ ?_
    refine xc_gen (fun g hg => ?_)
    have s0 := (hg 0).trans (en rfl s0)
    have s1 := (hg 1).trans (en rfl s1)
    have s2 := (hg 2).trans (en rfl s2)
    have s3 := (hg 3).trans (en rfl s3)
    have s4 := (hg 4).trans (en rfl s4)
    have s10 := (hg 10).trans es
    clear hg
    refine xc_seq (fun K hK2 => ?_)
    refine xc_seq (fun K hK3 => ?_)
    refine xc_region ?_
    refine x_val (r_move s0) (nd_of rfl) rfl ?_
    refine x_val (r_len Try.underlying23 es) (nd_of rfl) rfl ?_
    refine x_val (r_gtr es ec (decide_eq_false (by omega))) (nd_of rfl) rfl ?_
    refine xw_nil ?_
    refine hK3 _ _ ?_
    refine xc_gen (fun g hg => ?_)
    have s0 := (hg 0).trans (en rfl (en rfl (en rfl s0)))
    have s1 := (hg 1).trans (en rfl (en rfl (en rfl s1)))
    have s2 := (hg 2).trans (en rfl (en rfl (en rfl s2)))
    have s3 := (hg 3).trans (en rfl (en rfl (en rfl s3)))
    have s4 := (hg 4).trans (en rfl (en rfl (en rfl s4)))
    have s10 := (hg 10).trans (en rfl (en rfl (en rfl s10)))
    have s19 := (hg 19).trans es
    clear hg
    refine xc_cond s19 (fun hc => by cases hc) (fun _ => ?_)
    refine xc_skip ?_
    refine hK2 _ _ ?_
    refine xc_seq (fun K hK4 => ?_)
    refine xc_region ?_
    refine x_enter (r_call Try.call9 .nil) (nd_of rfl) rfl (newR h) ?_
    rintro _ w ⟨b, rfl, h⟩
    refine x_enter (r_call Try.call9 .nil) (nd_of rfl) rfl (newR h) ?_
    rintro _ w ⟨q, rfl, h⟩
    refine x_val (r_assign (en rfl es)) (nd_of rfl) rfl ?_
    refine x_val (r_assign (en rfl es)) (nd_of rfl) rfl ?_
    refine xw_nil ?_
    refine hK4 _ _ ?_
    refine xc_gen (fun g hg => ?_)
    have s0 := (hg 0).trans (en rfl (en rfl (en rfl (en rfl s0))))
    have s1 := (hg 1).trans (en rfl (en rfl (en rfl (en rfl s1))))
    have s2 := (hg 2).trans (en rfl (en rfl (en rfl (en rfl s2))))
    have s3 := (hg 3).trans (en rfl (en rfl (en rfl (en rfl s3))))
    have s4 := (hg 4).trans (en rfl (en rfl (en rfl (en rfl s4))))
    have s10 := (hg 10).trans (en rfl (en rfl (en rfl (en rfl s10))))
    have s11 := (hg 11).trans (en rfl es)
    have s12 := (hg 12).trans es
    have s19 := (hg 19).trans (en rfl (en rfl (en rfl (en rfl s19))))
    clear hg
    refine xc_seq (fun K hK5 => ?_)
    refine xc_seq (fun K hK6 => ?_)
    refine xc_region ?_
    refine x_val (r_move s11) (nd_of rfl) rfl ?_
    refine x_val (r_move (en rfl s0)) (nd_of rfl) rfl ?_
    have h := h.f1
    refine x_enter (r_call Try.call13 (.cons (en rfl es) (.cons ec (.cons es .nil)))) (nd_of rfl) rfl (insert_new he (hv.up) (B' := 3000) (by omega) (by omega) (by omega) h) ?_
    rintro _ w ⟨rfl, h⟩
    refine x_val (r_neq es ec (r := false) rfl) (nd_of rfl) rfl ?_
    refine x_val (r_move es) (nd_of rfl) rfl ?_
    refine x_take (d := 27) rfl rfl es ?_
    refine x_val (r_move (en rfl (en rfl (en rfl (en rfl (en rfl s12)))))) (nd_of rfl) rfl ?_
    refine x_take (d := 27) rfl rfl (en rfl es) ?_
    refine x_val (r_move (en rfl (en rfl (en rfl (en rfl (en rfl (en rfl s0))))))) (nd_of rfl) rfl ?_
    refine x_take (d := 27) rfl rfl (en rfl (en rfl es)) ?_
    have h := h.f1
    refine x_enter (r_call Try.call13 (.cons (en rfl es) (.cons ec (.cons es .nil)))) (nd_of rfl) rfl (insert_new he (hv.up) (B' := 3000) (by omega) (by omega) (by omega) h) ?_
    rintro _ w ⟨rfl, h⟩
    refine x_take (d := 27) rfl rfl (en rfl (en rfl (en rfl es))) ?_
    refine x_val (r_neq es ec (r := false) rfl) (nd_of rfl) rfl ?_
    refine x_val (r_pick_f (en rfl (en rfl (en rfl (en rfl es)))) es) (nd_of rfl) rfl ?_
    refine x_val (r_move es) (nd_of rfl) rfl ?_
    refine x_take (d := 33) rfl rfl es ?_
    refine x_val (r_move (en rfl (en rfl (en rfl (en rfl (en rfl (en rfl (en rfl (en rfl (en rfl (en rfl (en rfl s1)))))))))))) (nd_of rfl) rfl ?_
    refine x_take (d := 33) rfl rfl (en rfl es) ?_
    refine x_val (r_lss es ec (decide_eq_true (by omega))) (nd_of rfl) rfl ?_
    refine x_val (r_pick_f (en rfl (en rfl es)) es) (nd_of rfl) rfl ?_
    refine x_val (r_move es) (nd_of rfl) rfl ?_
    refine x_pass (d := 37) rfl rfl es rfl ?_
    refine x_pass (d := 37) rfl rfl (en rfl es) rfl ?_
    refine x_pass (d := 37) rfl rfl (en rfl (en rfl es)) rfl ?_
    refine x_val (r_pick_t (en rfl (en rfl (en rfl es))) ec) (nd_of rfl) rfl ?_
    refine x_val (r_move es) (nd_of rfl) rfl ?_
    refine x_pass (d := 42) rfl rfl es rfl ?_
    refine x_pass (d := 42) rfl rfl (en rfl es) rfl ?_
    refine x_pass (d := 42) rfl rfl (en rfl (en rfl es)) rfl ?_
    refine x_val (r_pick_t (en rfl (en rfl (en rfl es))) ec) (nd_of rfl) rfl ?_
    refine x_val (r_move es) (nd_of rfl) rfl ?_
    refine x_pass (d := 47) rfl rfl es rfl ?_
    refine x_pass (d := 47) rfl rfl (en rfl es) rfl ?_
    refine x_pass (d := 47) rfl rfl (en rfl (en rfl es)) rfl ?_
    refine x_val (r_pick_t (en rfl (en rfl (en rfl es))) ec) (nd_of rfl) rfl ?_
    refine x_val (r_move es) (nd_of rfl) rfl ?_
    refine x_pass (d := 52) rfl rfl es rfl ?_
    refine x_pass (d := 52) rfl rfl (en rfl es) rfl ?_
    refine x_pass (d := 52) rfl rfl (en rfl (en rfl es)) rfl ?_
    refine x_pass (d := 52) rfl rfl (en rfl (en rfl (en rfl es))) rfl ?_
    refine x_val (r_pick_t (en rfl (en rfl (en rfl (en rfl es)))) ec) (nd_of rfl) rfl ?_
    refine xw_nil ?_
    refine hK6 _ _ ?_
    refine xc_gen (fun g hg => ?_)
    have s0 := (hg 0).trans (en rfl (en rfl (en rfl (en rfl (en rfl (en rfl (en rfl (en rfl (en rfl (en rfl (en rfl (en rfl (en rfl (en rfl (en rfl (en rfl (en rfl (en rfl (en rfl (en rfl (en rfl (en rfl (en rfl (en rfl (en rfl (en rfl (en rfl (en rfl (en rfl (en rfl (en rfl (en rfl (en rfl (en rfl (en rfl s0)))))))))))))))))))))))))))))))))))
    have s1 := (hg 1).trans (en rfl (en rfl (en rfl (en rfl (en rfl (en rfl (en rfl (en rfl (en rfl (en rfl (en rfl (en rfl (en rfl (en rfl (en rfl (en rfl (en rfl (en rfl (en rfl (en rfl (en rfl (en rfl (en rfl (en rfl (en rfl (en rfl (en rfl (en rfl (en rfl (en rfl (en rfl (en rfl (en rfl (en rfl (en rfl s1)))))))))))))))))))))))))))))))))))
    have s2 := (hg 2).trans (en rfl (en rfl (en rfl (en rfl (en rfl (en rfl (en rfl (en rfl (en rfl (en rfl (en rfl (en rfl (en rfl (en rfl (en rfl (en rfl (en rfl (en rfl (en rfl (en rfl (en rfl (en rfl (en rfl (en rfl (en rfl (en rfl (en rfl (en rfl (en rfl (en rfl (en rfl (en rfl (en rfl (en rfl (en rfl s2)))))))))))))))))))))))))))))))))))
    have s3 := (hg 3).trans (en rfl (en rfl (en rfl (en rfl (en rfl (en rfl (en rfl (en rfl (en rfl (en rfl (en rfl (en rfl (en rfl (en rfl (en rfl (en rfl (en rfl (en rfl (en rfl (en rfl (en rfl (en rfl (en rfl (en rfl (en rfl (en rfl (en rfl (en rfl (en rfl (en rfl (en rfl (en rfl (en rfl (en rfl (en rfl s3)))))))))))))))))))))))))))))))))))
    have s4 := (hg 4).trans (en rfl (en rfl (en rfl (en rfl (en rfl (en rfl (en rfl (en rfl (en rfl (en rfl (en rfl (en rfl (en rfl (en rfl (en rfl (en rfl (en rfl (en rfl (en rfl (en rfl (en rfl (en rfl (en rfl (en rfl (en rfl (en rfl (en rfl (en rfl (en rfl (en rfl (en rfl (en rfl (en rfl (en rfl (en rfl s4)))))))))))))))))))))))))))))))))))
    have s10 := (hg 10).trans (en rfl (en rfl (en rfl (en rfl (en rfl (en rfl (en rfl (en rfl (en rfl (en rfl (en rfl (en rfl (en rfl (en rfl (en rfl (en rfl (en rfl (en rfl (en rfl (en rfl (en rfl (en rfl (en rfl (en rfl (en rfl (en rfl (en rfl (en rfl (en rfl (en rfl (en rfl (en rfl (en rfl (en rfl (en rfl s10)))))))))))))))))))))))))))))))))))
    have s11 := (hg 11).trans (en rfl (en rfl (en rfl (en rfl (en rfl (en rfl (en rfl (en rfl (en rfl (en rfl (en rfl (en rfl (en rfl (en rfl (en rfl (en rfl (en rfl (en rfl (en rfl (en rfl (en rfl (en rfl (en rfl (en rfl (en rfl (en rfl (en rfl (en rfl (en rfl (en rfl (en rfl (en rfl (en rfl (en rfl (en rfl s11)))))))))))))))))))))))))))))))))))
    have s12 := (hg 12).trans (en rfl (en rfl (en rfl (en rfl (en rfl (en rfl (en rfl (en rfl (en rfl (en rfl (en rfl (en rfl (en rfl (en rfl (en rfl (en rfl (en rfl (en rfl (en rfl (en rfl (en rfl (en rfl (en rfl (en rfl (en rfl (en rfl (en rfl (en rfl (en rfl (en rfl (en rfl (en rfl (en rfl (en rfl (en rfl s12)))))))))))))))))))))))))))))))))))
    have s19 := (hg 19).trans (en rfl (en rfl (en rfl (en rfl (en rfl (en rfl (en rfl (en rfl (en rfl (en rfl (en rfl (en rfl (en rfl (en rfl (en rfl (en rfl (en rfl (en rfl (en rfl (en rfl (en rfl (en rfl (en rfl (en rfl (en rfl (en rfl (en rfl (en rfl (en rfl (en rfl (en rfl (en rfl (en rfl (en rfl (en rfl s19)))))))))))))))))))))))))))))))))))
    have s57 := (hg 57).trans es
    clear hg
    refine xc_cond s57 (fun _ => ?_) (fun hc => by cases hc)
    refine xc_seq (fun K hK7 => ?_)
    refine xc_region ?_
    refine x_enter (r_call Try.call10 .nil) (nd_of rfl) rfl (known_ok h) ?_
    rintro _ w ⟨rfl, h⟩
    refine x_val (r_assign es) (nd_of rfl) rfl ?_
    refine xw_nil ?_
    refine hK7 _ _ ?_
    refine xc_gen (fun g hg => ?_)
    have s0 := (hg 0).trans (en rfl (en rfl s0))
    have s1 := (hg 1).trans (en rfl (en rfl s1))
    have s2 := (hg 2).trans (en rfl (en rfl s2))
    have s3 := (hg 3).trans (en rfl (en rfl s3))
    have s4 := (hg 4).trans (en rfl (en rfl s4))
    have s10 := (hg 10).trans es
    have s11 := (hg 11).trans (en rfl (en rfl s11))
    have s12 := (hg 12).trans (en rfl (en rfl s12))
    have s19 := (hg 19).trans (en rfl (en rfl s19))
    have s57 := (hg 57).trans (en rfl (en rfl s57))
    clear hg
    refine xc_ret ?_
    refine bodyR_1 rfl s10 ?_
    exact ⟨rfl, h.drop.drop⟩
  rcases Int.lt_or_le j i with hij | hij
  · skip
    refine calls_x Try.func8 rfl Try.ntmps8 rfl ?_
    refine xc_gen (fun g hg => ?_)
    have s0 := (hg 0).trans arg0
    have s1 := (hg 1).trans arg1
    have s2 := (hg 2).trans arg2
    have s3 := (hg 3).trans arg3
    have s4 := (hg 4).trans arg4
    clear hg
    refine xc_seq (fun K hK1 => ?_)
    refine xc_region ?_
    refine x_val (r_assign ec) (nd_of rfl) rfl ?_
    refine xw_nil ?_
    refine hK1 _ _ ?_
    refine xc_gen (fun g hg => ?_)
    have s0 := (hg 0).trans (en rfl s0)
    have s1 := (hg 1).trans (en rfl s1)
    have s2 := (hg 2).trans (en rfl s2)
    have s3 := (hg 3).trans (en rfl s3)
    have s4 := (hg 4).trans (en rfl s4)
    have s10 := (hg 10).trans es
    clear hg
    refine xc_seq (fun K hK2 => ?_)
    refine xc_seq (fun K hK3 => ?_)
    refine xc_region ?_
    refine x_val (r_move s0) (nd_of rfl) rfl ?_
    refine x_val (r_len Try.underlying23 es) (nd_of rfl) rfl ?_
    refine x_val (r_gtr es ec (decide_eq_false (by omega))) (nd_of rfl) rfl ?_
    refine xw_nil ?_
    refine hK3 _ _ ?_
    refine xc_gen (fun g hg => ?_)
    have s0 := (hg 0).trans (en rfl (en rfl (en rfl s0)))
    have s1 := (hg 1).trans (en rfl (en rfl (en rfl s1)))
    have s2 := (hg 2).trans (en rfl (en rfl (en rfl s2)))
    have s3 := (hg 3).trans (en rfl (en rfl (en rfl s3)))
    have s4 := (hg 4).trans (en rfl (en rfl (en rfl s4)))
    have s10 := (hg 10).trans (en rfl (en rfl (en rfl s10)))
    have s19 := (hg 19).trans es
    clear hg
    refine xc_cond s19 (fun hc => by cases hc) (fun _ => ?_)
    refine xc_skip ?_
    refine hK2 _ _ ?_
    refine xc_seq (fun K hK4 => ?_)
    refine xc_region ?_
    refine x_enter (r_call Try.call9 .nil) (nd_of rfl) rfl (newR h) ?_
    rintro _ w ⟨b, rfl, h⟩
    refine x_enter (r_call Try.call9 .nil) (nd_of rfl) rfl (newR h) ?_
    rintro _ w ⟨q, rfl, h⟩
    refine x_val (r_assign (en rfl es)) (nd_of rfl) rfl ?_
    refine x_val (r_assign (en rfl es)) (nd_of rfl) rfl ?_
    refine xw_nil ?_
    refine hK4 _ _ ?_
    refine xc_gen (fun g hg => ?_)
    have s0 := (hg 0).trans (en rfl (en rfl (en rfl (en rfl s0))))
    have s1 := (hg 1).trans (en rfl (en rfl (en rfl (en rfl s1))))
    have s2 := (hg 2).trans (en rfl (en rfl (en rfl (en rfl s2))))
    have s3 := (hg 3).trans (en rfl (en rfl (en rfl (en rfl s3))))
    have s4 := (hg 4).trans (en rfl (en rfl (en rfl (en rfl s4))))
    have s10 := (hg 10).trans (en rfl (en rfl (en rfl (en rfl s10))))
    have s11 := (hg 11).trans (en rfl es)
    have s12 := (hg 12).trans es
    have s19 := (hg 19).trans (en rfl (en rfl (en rfl (en rfl s19))))
    clear hg
    refine xc_seq (fun K hK5 => ?_)
    refine xc_seq (fun K hK6 => ?_)
    refine xc_region ?_
    refine x_val (r_move s11) (nd_of rfl) rfl ?_
    refine x_val (r_move (en rfl s0)) (nd_of rfl) rfl ?_
    have h := h.f1
    refine x_enter (r_call Try.call13 (.cons (en rfl es) (.cons ec (.cons es .nil)))) (nd_of rfl) rfl (insert_new he (hv.up) (B' := 3000) (by omega) (by omega) (by omega) h) ?_
    rintro _ w ⟨rfl, h⟩
    refine x_val (r_neq es ec (r := false) rfl) (nd_of rfl) rfl ?_
    refine x_val (r_move es) (nd_of rfl) rfl ?_
    refine x_take (d := 27) rfl rfl es ?_
    refine x_val (r_move (en rfl (en rfl (en rfl (en rfl (en rfl s12)))))) (nd_of rfl) rfl ?_
    refine x_take (d := 27) rfl rfl (en rfl es) ?_
    refine x_val (r_move (en rfl (en rfl (en rfl (en rfl (en rfl (en rfl s0))))))) (nd_of rfl) rfl ?_
    refine x_take (d := 27) rfl rfl (en rfl (en rfl es)) ?_
    have h := h.f1
    refine x_enter (r_call Try.call13 (.cons (en rfl es) (.cons ec (.cons es .nil)))) (nd_of rfl) rfl (insert_new he (hv.up) (B' := 3000) (by omega) (by omega) (by omega) h) ?_
    rintro _ w ⟨rfl, h⟩
    refine x_take (d := 27) rfl rfl (en rfl (en rfl (en rfl es))) ?_
    refine x_val (r_neq es ec (r := false) rfl) (nd_of rfl) rfl ?_
    refine x_val (r_pick_f (en rfl (en rfl (en rfl (en rfl es)))) es) (nd_of rfl) rfl ?_
    refine x_val (r_move es) (nd_of rfl) rfl ?_
    refine x_take (d := 33) rfl rfl es ?_
    refine x_val (r_move (en rfl (en rfl (en rfl (en rfl (en rfl (en rfl (en rfl (en rfl (en rfl (en rfl (en rfl s1)))))))))))) (nd_of rfl) rfl ?_
    refine x_take (d := 33) rfl rfl (en rfl es) ?_
    refine x_val (r_lss es ec (decide_eq_false (by omega))) (nd_of rfl) rfl ?_
    refine x_val (r_pick_f (en rfl (en rfl es)) es) (nd_of rfl) rfl ?_
    refine x_val (r_move es) (nd_of rfl) rfl ?_
    refine x_take (d := 37) rfl rfl es ?_
    refine x_val (r_move (en rfl (en rfl (en rfl (en rfl (en rfl (en rfl (en rfl (en rfl (en rfl (en rfl (en rfl (en rfl (en rfl (en rfl (en rfl s1)))))))))))))))) (nd_of rfl) rfl ?_
    refine x_take (d := 37) rfl rfl (en rfl es) ?_
    refine x_val (r_move (en rfl (en rfl (en rfl (en rfl (en rfl (en rfl (en rfl (en rfl (en rfl (en rfl (en rfl (en rfl (en rfl (en rfl (en rfl (en rfl s2))))))))))))))))) (nd_of rfl) rfl ?_
    refine x_take (d := 37) rfl rfl (en rfl (en rfl es)) ?_
    refine x_val (r_gtr (en rfl es) es (decide_eq_true (by omega))) (nd_of rfl) rfl ?_
    refine x_val (r_pick_f (en rfl (en rfl (en rfl es))) es) (nd_of rfl) rfl ?_
    refine x_val (r_move es) (nd_of rfl) rfl ?_
    refine x_pass (d := 42) rfl rfl es rfl ?_
    refine x_pass (d := 42) rfl rfl (en rfl es) rfl ?_
    refine x_pass (d := 42) rfl rfl (en rfl (en rfl es)) rfl ?_
    refine x_val (r_pick_t (en rfl (en rfl (en rfl es))) ec) (nd_of rfl) rfl ?_
    refine x_val (r_move es) (nd_of rfl) rfl ?_
    refine x_pass (d := 47) rfl rfl es rfl ?_
    refine x_pass (d := 47) rfl rfl (en rfl es) rfl ?_
    refine x_pass (d := 47) rfl rfl (en rfl (en rfl es)) rfl ?_
    refine x_val (r_pick_t (en rfl (en rfl (en rfl es))) ec) (nd_of rfl) rfl ?_
    refine x_val (r_move es) (nd_of rfl) rfl ?_
    refine x_pass (d := 52) rfl rfl es rfl ?_
    refine x_pass (d := 52) rfl rfl (en rfl es) rfl ?_
    refine x_pass (d := 52) rfl rfl (en rfl (en rfl es)) rfl ?_
    refine x_pass (d := 52) rfl rfl (en rfl (en rfl (en rfl es))) rfl ?_
    refine x_val (r_pick_t (en rfl (en rfl (en rfl (en rfl es)))) ec) (nd_of rfl) rfl ?_
    refine xw_nil ?_
    refine hK6 _ _ ?_
    refine xc_gen (fun g hg => ?_)
    have s0 := (hg 0).trans (en rfl (en rfl (en rfl (en rfl (en rfl (en rfl (en rfl (en rfl (en rfl (en rfl (en rfl (en rfl (en rfl (en rfl (en rfl (en rfl (en rfl (en rfl (en rfl (en rfl (en rfl (en rfl (en rfl (en rfl (en rfl (en rfl (en rfl (en rfl (en rfl (en rfl (en rfl (en rfl (en rfl (en rfl (en rfl s0)))))))))))))))))))))))))))))))))))
    have s1 := (hg 1).trans (en rfl (en rfl (en rfl (en rfl (en rfl (en rfl (en rfl (en rfl (en rfl (en rfl (en rfl (en rfl (en rfl (en rfl (en rfl (en rfl (en rfl (en rfl (en rfl (en rfl (en rfl (en rfl (en rfl (en rfl (en rfl (en rfl (en rfl (en rfl (en rfl (en rfl (en rfl (en rfl (en rfl (en rfl (en rfl s1)))))))))))))))))))))))))))))))))))
    have s2 := (hg 2).trans (en rfl (en rfl (en rfl (en rfl (en rfl (en rfl (en rfl (en rfl (en rfl (en rfl (en rfl (en rfl (en rfl (en rfl (en rfl (en rfl (en rfl (en rfl (en rfl (en rfl (en rfl (en rfl (en rfl (en rfl (en rfl (en rfl (en rfl (en rfl (en rfl (en rfl (en rfl (en rfl (en rfl (en rfl (en rfl s2)))))))))))))))))))))))))))))))))))
    have s3 := (hg 3).trans (en rfl (en rfl (en rfl (en rfl (en rfl (en rfl (en rfl (en rfl (en rfl (en rfl (en rfl (en rfl (en rfl (en rfl (en rfl (en rfl (en rfl (en rfl (en rfl (en rfl (en rfl (en rfl (en rfl (en rfl (en rfl (en rfl (en rfl (en rfl (en rfl (en rfl (en rfl (en rfl (en rfl (en rfl (en rfl s3)))))))))))))))))))))))))))))))))))
    have s4 := (hg 4).trans (en rfl (en rfl (en rfl (en rfl (en rfl (en rfl (en rfl (en rfl (en rfl (en rfl (en rfl (en rfl (en rfl (en rfl (en rfl (en rfl (en rfl (en rfl (en rfl (en rfl (en rfl (en rfl (en rfl (en rfl (en rfl (en rfl (en rfl (en rfl (en rfl (en rfl (en rfl (en rfl (en rfl (en rfl (en rfl s4)))))))))))))))))))))))))))))))))))
    have s10 := (hg 10).trans (en rfl (en rfl (en rfl (en rfl (en rfl (en rfl (en rfl (en rfl (en rfl (en rfl (en rfl (en rfl (en rfl (en rfl (en rfl (en rfl (en rfl (en rfl (en rfl (en rfl (en rfl (en rfl (en rfl (en rfl (en rfl (en rfl (en rfl (en rfl (en rfl (en rfl (en rfl (en rfl (en rfl (en rfl (en rfl s10)))))))))))))))))))))))))))))))))))
    have s11 := (hg 11).trans (en rfl (en rfl (en rfl (en rfl (en rfl (en rfl (en rfl (en rfl (en rfl (en rfl (en rfl (en rfl (en rfl (en rfl (en rfl (en rfl (en rfl (en rfl (en rfl (en rfl (en rfl (en rfl (en rfl (en rfl (en rfl (en rfl (en rfl (en rfl (en rfl (en rfl (en rfl (en rfl (en rfl (en rfl (en rfl s11)))))))))))))))))))))))))))))))))))
    have s12 := (hg 12).trans (en rfl (en rfl (en rfl (en rfl (en rfl (en rfl (en rfl (en rfl (en rfl (en rfl (en rfl (en rfl (en rfl (en rfl (en rfl (en rfl (en rfl (en rfl (en rfl (en rfl (en rfl (en rfl (en rfl (en rfl (en rfl (en rfl (en rfl (en rfl (en rfl (en rfl (en rfl (en rfl (en rfl (en rfl (en rfl s12)))))))))))))))))))))))))))))))))))
    have s19 := (hg 19).trans (en rfl (en rfl (en rfl (en rfl (en rfl (en rfl (en rfl (en rfl (en rfl (en rfl (en rfl (en rfl (en rfl (en rfl (en rfl (en rfl (en rfl (en rfl (en rfl (en rfl (en rfl (en rfl (en rfl (en rfl (en rfl (en rfl (en rfl (en rfl (en rfl (en rfl (en rfl (en rfl (en rfl (en rfl (en rfl s19)))))))))))))))))))))))))))))))))))
    have s57 := (hg 57).trans es
    clear hg
    refine xc_cond s57 (fun _ => ?_) (fun hc => by cases hc)
    refine xc_seq (fun K hK7 => ?_)
    refine xc_region ?_
    refine x_enter (r_call Try.call10 .nil) (nd_of rfl) rfl (known_ok h) ?_
    rintro _ w ⟨rfl, h⟩
    refine x_val (r_assign es) (nd_of rfl) rfl ?_
    refine xw_nil ?_
    refine hK7 _ _ ?_
    refine xc_gen (fun g hg => ?_)
    have s0 := (hg 0).trans (en rfl (en rfl s0))
    have s1 := (hg 1).trans (en rfl (en rfl s1))
    have s2 := (hg 2).trans (en rfl (en rfl s2))
    have s3 := (hg 3).trans (en rfl (en rfl s3))
    have s4 := (hg 4).trans (en rfl (en rfl s4))
    have s10 := (hg 10).trans es
    have s11 := (hg 11).trans (en rfl (en rfl s11))
    have s12 := (hg 12).trans (en rfl (en rfl s12))
    have s19 := (hg 19).trans (en rfl (en rfl s19))
    have s57 := (hg 57).trans (en rfl (en rfl s57))
    clear hg
    refine xc_ret ?_
    refine bodyR_1 rfl s10 ?_
    exact ⟨rfl, h.drop.drop⟩
  rcases Int.lt_or_le k j with hjk | hjk
  · skip
    refine calls_x Try.func8 rfl Try.ntmps8 rfl ?_
    refine xc_gen (fun g hg => ?_)
    have s0 := (hg 0).trans arg0
    have s1 := (hg 1).trans arg1
    have s2 := (hg 2).trans arg2
    have s3 := (hg 3).trans arg3
    have s4 := (hg 4).trans arg4
    clear hg
    refine xc_seq (fun K hK1 => ?_)
    refine xc_region ?_
    refine x_val (r_assign ec) (nd_of rfl) rfl ?_
    refine xw_nil ?_
    refine hK1 _ _ ?_
    refine xc_gen (fun g hg => ?_)
    have s0 := (hg 0).trans (en rfl s0)
    have s1 := (hg 1).trans (en rfl s1)
    have s2 := (hg 2).trans (en rfl s2)
    have s3 := (hg 3).trans (en rfl s3)
    have s4 := (hg 4).trans (en rfl s4)
    have s10 := (hg 10).trans es
    clear hg
    refine xc_seq (fun K hK2 => ?_)
    refine xc_seq (fun K hK3 => ?_)
    refine xc_region ?_
    refine x_val (r_move s0) (nd_of rfl) rfl ?_
    refine x_val (r_len Try.underlying23 es) (nd_of rfl) rfl ?_
    refine x_val (r_gtr es ec (decide_eq_false (by omega))) (nd_of rfl) rfl ?_
    refine xw_nil ?_
    refine hK3 _ _ ?_
    refine xc_gen (fun g hg => ?_)
    have s0 := (hg 0).trans (en rfl (en rfl (en rfl s0)))
    have s1 := (hg 1).trans (en rfl (en rfl (en rfl s1)))
    have s2 := (hg 2).trans (en rfl (en rfl (en rfl s2)))
    have s3 := (hg 3).trans (en rfl (en rfl (en rfl s3)))
    have s4 := (hg 4).trans (en rfl (en rfl (en rfl s4)))
    have s10 := (hg 10).trans (en rfl (en rfl (en rfl s10)))
    have s19 := (hg 19).trans es
    clear hg
    refine xc_cond s19 (fun hc => by cases hc) (fun _ => ?_)
    refine xc_skip ?_
    refine hK2 _ _ ?_
    refine xc_seq (fun K hK4 => ?_)
    refine xc_region ?_
    refine x_enter (r_call Try.call9 .nil) (nd_of rfl) rfl (newR h) ?_
    rintro _ w ⟨b, rfl, h⟩
    refine x_enter (r_call Try.call9 .nil) (nd_of rfl) rfl (newR h) ?_
    rintro _ w ⟨q, rfl, h⟩
    refine x_val (r_assign (en rfl es)) (nd_of rfl) rfl ?_
    refine x_val (r_assign (en rfl es)) (nd_of rfl) rfl ?_
    refine xw_nil ?_
    refine hK4 _ _ ?_
    refine xc_gen (fun g hg => ?_)
    have s0 := (hg 0).trans (en rfl (en rfl (en rfl (en rfl s0))))
    have s1 := (hg 1).trans (en rfl (en rfl (en rfl (en rfl s1))))
    have s2 := (hg 2).trans (en rfl (en rfl (en rfl (en rfl s2))))
    have s3 := (hg 3).trans (en rfl (en rfl (en rfl (en rfl s3))))
    have s4 := (hg 4).trans (en rfl (en rfl (en rfl (en rfl s4))))
    have s10 := (hg 10).trans (en rfl (en rfl (en rfl (en rfl s10))))
    have s11 := (hg 11).trans (en rfl es)
    have s12 := (hg 12).trans es
    have s19 := (hg 19).trans (en rfl (en rfl (en rfl (en rfl s19))))
    clear hg
    refine xc_seq (fun K hK5 => ?_)
    refine xc_seq (fun K hK6 => ?_)
    refine xc_region ?_
    refine x_val (r_move s11) (nd_of rfl) rfl ?_
    refine x_val (r_move (en rfl s0)) (nd_of rfl) rfl ?_
    have h := h.f1
    refine x_enter (r_call Try.call13 (.cons (en rfl es) (.cons ec (.cons es .nil)))) (nd_of rfl) rfl (insert_new he (hv.up) (B' := 3000) (by omega) (by omega) (by omega) h) ?_
    rintro _ w ⟨rfl, h⟩
    refine x_val (r_neq es ec (r := false) rfl) (nd_of rfl) rfl ?_
    refine x_val (r_move es) (nd_of rfl) rfl ?_
    refine x_take (d := 27) rfl rfl es ?_
    refine x_val (r_move (en rfl (en rfl (en rfl (en rfl (en rfl s12)))))) (nd_of rfl) rfl ?_
    refine x_take (d := 27) rfl rfl (en rfl es) ?_
    refine x_val (r_move (en rfl (en rfl (en rfl (en rfl (en rfl (en rfl s0))))))) (nd_of rfl) rfl ?_
    refine x_take (d := 27) rfl rfl (en rfl (en rfl es)) ?_
    have h := h.f1
    refine x_enter (r_call Try.call13 (.cons (en rfl es) (.cons ec (.cons es .nil)))) (nd_of rfl) rfl (insert_new he (hv.up) (B' := 3000) (by omega) (by omega) (by omega) h) ?_
    rintro _ w ⟨rfl, h⟩
    refine x_take (d := 27) rfl rfl (en rfl (en rfl (en rfl es))) ?_
    refine x_val (r_neq es ec (r := false) rfl) (nd_of rfl) rfl ?_
    refine x_val (r_pick_f (en rfl (en rfl (en rfl (en rfl es)))) es) (nd_of rfl) rfl ?_
    refine x_val (r_move es) (nd_of rfl) rfl ?_
    refine x_take (d := 33) rfl rfl es ?_
    refine x_val (r_move (en rfl (en rfl (en rfl (en rfl (en rfl (en rfl (en rfl (en rfl (en rfl (en rfl (en rfl s1)))))))))))) (nd_of rfl) rfl ?_
    refine x_take (d := 33) rfl rfl (en rfl es) ?_
    refine x_val (r_lss es ec (decide_eq_false (by omega))) (nd_of rfl) rfl ?_
    refine x_val (r_pick_f (en rfl (en rfl es)) es) (nd_of rfl) rfl ?_
    refine x_val (r_move es) (nd_of rfl) rfl ?_
    refine x_take (d := 37) rfl rfl es ?_
    refine x_val (r_move (en rfl (en rfl (en rfl (en rfl (en rfl (en rfl (en rfl (en rfl (en rfl (en rfl (en rfl (en rfl (en rfl (en rfl (en rfl s1)))))))))))))))) (nd_of rfl) rfl ?_
    refine x_take (d := 37) rfl rfl (en rfl es) ?_
    refine x_val (r_move (en rfl (en rfl (en rfl (en rfl (en rfl (en rfl (en rfl (en rfl (en rfl (en rfl (en rfl (en rfl (en rfl (en rfl (en rfl (en rfl s2))))))))))))))))) (nd_of rfl) rfl ?_
    refine x_take (d := 37) rfl rfl (en rfl (en rfl es)) ?_
    refine x_val (r_gtr (en rfl es) es (decide_eq_false (by omega))) (nd_of rfl) rfl ?_
    refine x_val (r_pick_f (en rfl (en rfl (en rfl es))) es) (nd_of rfl) rfl ?_
    refine x_val (r_move es) (nd_of rfl) rfl ?_
    refine x_take (d := 42) rfl rfl es ?_
    refine x_val (r_move (en rfl (en rfl (en rfl (en rfl (en rfl (en rfl (en rfl (en rfl (en rfl (en rfl (en rfl (en rfl (en rfl (en rfl (en rfl (en rfl (en rfl (en rfl (en rfl (en rfl s2))))))))))))))))))))) (nd_of rfl) rfl ?_
    refine x_take (d := 42) rfl rfl (en rfl es) ?_
    refine x_val (r_move (en rfl (en rfl (en rfl (en rfl (en rfl (en rfl (en rfl (en rfl (en rfl (en rfl (en rfl (en rfl (en rfl (en rfl (en rfl (en rfl (en rfl (en rfl (en rfl (en rfl (en rfl s3)))))))))))))))))))))) (nd_of rfl) rfl ?_
    refine x_take (d := 42) rfl rfl (en rfl (en rfl es)) ?_
    refine x_val (r_gtr (en rfl es) es (decide_eq_true (by omega))) (nd_of rfl) rfl ?_
    refine x_val (r_pick_f (en rfl (en rfl (en rfl es))) es) (nd_of rfl) rfl ?_
    refine x_val (r_move es) (nd_of rfl) rfl ?_
    refine x_pass (d := 47) rfl rfl es rfl ?_
    refine x_pass (d := 47) rfl rfl (en rfl es) rfl ?_
    refine x_pass (d := 47) rfl rfl (en rfl (en rfl es)) rfl ?_
    refine x_val (r_pick_t (en rfl (en rfl (en rfl es))) ec) (nd_of rfl) rfl ?_
    refine x_val (r_move es) (nd_of rfl) rfl ?_
    refine x_pass (d := 52) rfl rfl es rfl ?_
    refine x_pass (d := 52) rfl rfl (en rfl es) rfl ?_
    refine x_pass (d := 52) rfl rfl (en rfl (en rfl es)) rfl ?_
    refine x_pass (d := 52) rfl rfl (en rfl (en rfl (en rfl es))) rfl ?_
    refine x_val (r_pick_t (en rfl (en rfl (en rfl (en rfl es)))) ec) (nd_of rfl) rfl ?_
    refine xw_nil ?_
    refine hK6 _ _ ?_
    refine xc_gen (fun g hg => ?_)
    have s0 := (hg 0).trans (en rfl (en rfl (en rfl (en rfl (en rfl (en rfl (en rfl (en rfl (en rfl (en rfl (en rfl (en rfl (en rfl (en rfl (en rfl (en rfl (en rfl (en rfl (en rfl (en rfl (en rfl (en rfl (en rfl (en rfl (en rfl (en rfl (en rfl (en rfl (en rfl (en rfl (en rfl (en rfl (en rfl (en rfl (en rfl s0)))))))))))))))))))))))))))))))))))
    have s1 := (hg 1).trans (en rfl (en rfl (en rfl (en rfl (en rfl (en rfl (en rfl (en rfl (en rfl (en rfl (en rfl (en rfl (en rfl (en rfl (en rfl (en rfl (en rfl (en rfl (en rfl (en rfl (en rfl (en rfl (en rfl (en rfl (en rfl (en rfl (en rfl (en rfl (en rfl (en rfl (en rfl (en rfl (en rfl (en rfl (en rfl s1)))))))))))))))))))))))))))))))))))
    have s2 := (hg 2).trans (en rfl (en rfl (en rfl (en rfl (en rfl (en rfl (en rfl (en rfl (en rfl (en rfl (en rfl (en rfl (en rfl (en rfl (en rfl (en rfl (en rfl (en rfl (en rfl (en rfl (en rfl (en rfl (en rfl (en rfl (en rfl (en rfl (en rfl (en rfl (en rfl (en rfl (en rfl (en rfl (en rfl (en rfl (en rfl s2)))))))))))))))))))))))))))))))))))
    have s3 := (hg 3).trans (en rfl (en rfl (en rfl (en rfl (en rfl (en rfl (en rfl (en rfl (en rfl (en rfl (en rfl (en rfl (en rfl (en rfl (en rfl (en rfl (en rfl (en rfl (en rfl (en rfl (en rfl (en rfl (en rfl (en rfl (en rfl (en rfl (en rfl (en rfl (en rfl (en rfl (en rfl (en rfl (en rfl (en rfl (en rfl s3)))))))))))))))))))))))))))))))))))
    have s4 := (hg 4).trans (en rfl (en rfl (en rfl (en rfl (en rfl (en rfl (en rfl (en rfl (en rfl (en rfl (en rfl (en rfl (en rfl (en rfl (en rfl (en rfl (en rfl (en rfl (en rfl (en rfl (en rfl (en rfl (en rfl (en rfl (en rfl (en rfl (en rfl (en rfl (en rfl (en rfl (en rfl (en rfl (en rfl (en rfl (en rfl s4)))))))))))))))))))))))))))))))))))
    have s10 := (hg 10).trans (en rfl (en rfl (en rfl (en rfl (en rfl (en rfl (en rfl (en rfl (en rfl (en rfl (en rfl (en rfl (en rfl (en rfl (en rfl (en rfl (en rfl (en rfl (en rfl (en rfl (en rfl (en rfl (en rfl (en rfl (en rfl (en rfl (en rfl (en rfl (en rfl (en rfl (en rfl (en rfl (en rfl (en rfl (en rfl s10)))))))))))))))))))))))))))))))))))
    have s11 := (hg 11).trans (en rfl (en rfl (en rfl (en rfl (en rfl (en rfl (en rfl (en rfl (en rfl (en rfl (en rfl (en rfl (en rfl (en rfl (en rfl (en rfl (en rfl (en rfl (en rfl (en rfl (en rfl (en rfl (en rfl (en rfl (en rfl (en rfl (en rfl (en rfl (en rfl (en rfl (en rfl (en rfl (en rfl (en rfl (en rfl s11)))))))))))))))))))))))))))))))))))
    have s12 := (hg 12).trans (en rfl (en rfl (en rfl (en rfl (en rfl (en rfl (en rfl (en rfl (en rfl (en rfl (en rfl (en rfl (en rfl (en rfl (en rfl (en rfl (en rfl (en rfl (en rfl (en rfl (en rfl (en rfl (en rfl (en rfl (en rfl (en rfl (en rfl (en rfl (en rfl (en rfl (en rfl (en rfl (en rfl (en rfl (en rfl s12)))))))))))))))))))))))))))))))))))
    have s19 := (hg 19).trans (en rfl (en rfl (en rfl (en rfl (en rfl (en rfl (en rfl (en rfl (en rfl (en rfl (en rfl (en rfl (en rfl (en rfl (en rfl (en rfl (en rfl (en rfl (en rfl (en rfl (en rfl (en rfl (en rfl (en rfl (en rfl (en rfl (en rfl (en rfl (en rfl (en rfl (en rfl (en rfl (en rfl (en rfl (en rfl s19)))))))))))))))))))))))))))))))))))
    have s57 := (hg 57).trans es
    clear hg
    refine xc_cond s57 (fun _ => ?_) (fun hc => by cases hc)
    refine xc_seq (fun K hK7 => ?_)
    refine xc_region ?_
    refine x_enter (r_call Try.call10 .nil) (nd_of rfl) rfl (known_ok h) ?_
    rintro _ w ⟨rfl, h⟩
    refine x_val (r_assign es) (nd_of rfl) rfl ?_
    refine xw_nil ?_
    refine hK7 _ _ ?_
    refine xc_gen (fun g hg => ?_)
    have s0 := (hg 0).trans (en rfl (en rfl s0))
    have s1 := (hg 1).trans (en rfl (en rfl s1))
    have s2 := (hg 2).trans (en rfl (en rfl s2))
    have s3 := (hg 3).trans (en rfl (en rfl s3))
    have s4 := (hg 4).trans (en rfl (en rfl s4))
    have s10 := (hg 10).trans es
    have s11 := (hg 11).trans (en rfl (en rfl s11))
    have s12 := (hg 12).trans (en rfl (en rfl s12))
    have s19 := (hg 19).trans (en rfl (en rfl s19))
    have s57 := (hg 57).trans (en rfl (en rfl s57))
    clear hg
    refine xc_ret ?_
    refine bodyR_1 rfl s10 ?_
    exact ⟨rfl, h.drop.drop⟩
  rcases Int.lt_or_le m k with hkm | hkm
  · skip
    refine calls_x Try.func8 rfl Try.ntmps8 rfl ?_
    refine xc_gen (fun g hg => ?_)
    have s0 := (hg 0).trans arg0
    have s1 := (hg 1).trans arg1
    have s2 := (hg 2).trans arg2
    have s3 := (hg 3).trans arg3
    have s4 := (hg 4).trans arg4
    clear hg
    refine xc_seq (fun K hK1 => ?_)
    refine xc_region ?_
    refine x_val (r_assign ec) (nd_of rfl) rfl ?_
    refine xw_nil ?_
    refine hK1 _ _ ?_
    refine xc_gen (fun g hg => ?_)
    have s0 := (hg 0).trans (en rfl s0)
    have s1 := (hg 1).trans (en rfl s1)
    have s2 := (hg 2).trans (en rfl s2)
    have s3 := (hg 3).trans (en rfl s3)
    have s4 := (hg 4).trans (en rfl s4)
    have s10 := (hg 10).trans es
    clear hg
    refine xc_seq (fun K hK2 => ?_)
    refine xc_seq (fun K hK3 => ?_)
    refine xc_region ?_
    refine x_val (r_move s0) (nd_of rfl) rfl ?_
    refine x_val (r_len Try.underlying23 es) (nd_of rfl) rfl ?_
    refine x_val (r_gtr es ec (decide_eq_false (by omega))) (nd_of rfl) rfl ?_
    refine xw_nil ?_
    refine hK3 _ _ ?_
    refine xc_gen (fun g hg => ?_)
    have s0 := (hg 0).trans (en rfl (en rfl (en rfl s0)))
    have s1 := (hg 1).trans (en rfl (en rfl (en rfl s1)))
    have s2 := (hg 2).trans (en rfl (en rfl (en rfl s2)))
    have s3 := (hg 3).trans (en rfl (en rfl (en rfl s3)))
    have s4 := (hg 4).trans (en rfl (en rfl (en rfl s4)))
    have s10 := (hg 10).trans (en rfl (en rfl (en rfl s10)))
    have s19 := (hg 19).trans es
    clear hg
    refine xc_cond s19 (fun hc => by cases hc) (fun _ => ?_)
    refine xc_skip ?_
    refine hK2 _ _ ?_
    refine xc_seq (fun K hK4 => ?_)
    refine xc_region ?_
    refine x_enter (r_call Try.call9 .nil) (nd_of rfl) rfl (newR h) ?_
    rintro _ w ⟨b, rfl, h⟩
    refine x_enter (r_call Try.call9 .nil) (nd_of rfl) rfl (newR h) ?_
    rintro _ w ⟨q, rfl, h⟩
    refine x_val (r_assign (en rfl es)) (nd_of rfl) rfl ?_
    refine x_val (r_assign (en rfl es)) (nd_of rfl) rfl ?_
    refine xw_nil ?_
    refine hK4 _ _ ?_
    refine xc_gen (fun g hg => ?_)
    have s0 := (hg 0).trans (en rfl (en rfl (en rfl (en rfl s0))))
    have s1 := (hg 1).trans (en rfl (en rfl (en rfl (en rfl s1))))
    have s2 := (hg 2).trans (en rfl (en rfl (en rfl (en rfl s2))))
    have s3 := (hg 3).trans (en rfl (en rfl (en rfl (en rfl s3))))
    have s4 := (hg 4).trans (en rfl (en rfl (en rfl (en rfl s4))))
    have s10 := (hg 10).trans (en rfl (en rfl (en rfl (en rfl s10))))
    have s11 := (hg 11).trans (en rfl es)
    have s12 := (hg 12).trans es
    have s19 := (hg 19).trans (en rfl (en rfl (en rfl (en rfl s19))))
    clear hg
    refine xc_seq (fun K hK5 => ?_)
    refine xc_seq (fun K hK6 => ?_)
    refine xc_region ?_
    refine x_val (r_move s11) (nd_of rfl) rfl ?_
    refine x_val (r_move (en rfl s0)) (nd_of rfl) rfl ?_
    have h := h.f1
    refine x_enter (r_call Try.call13 (.cons (en rfl es) (.cons ec (.cons es .nil)))) (nd_of rfl) rfl (insert_new he (hv.up) (B' := 3000) (by omega) (by omega) (by omega) h) ?_
    rintro _ w ⟨rfl, h⟩
    refine x_val (r_neq es ec (r := false) rfl) (nd_of rfl) rfl ?_
    refine x_val (r_move es) (nd_of rfl) rfl ?_
    refine x_take (d := 27) rfl rfl es ?_
    refine x_val (r_move (en rfl (en rfl (en rfl (en rfl (en rfl s12)))))) (nd_of rfl) rfl ?_
    refine x_take (d := 27) rfl rfl (en rfl es) ?_
    refine x_val (r_move (en rfl (en rfl (en rfl (en rfl (en rfl (en rfl s0))))))) (nd_of rfl) rfl ?_
    refine x_take (d := 27) rfl rfl (en rfl (en rfl es)) ?_
    have h := h.f1
    refine x_enter (r_call Try.call13 (.cons (en rfl es) (.cons ec (.cons es .nil)))) (nd_of rfl) rfl (insert_new he (hv.up) (B' := 3000) (by omega) (by omega) (by omega) h) ?_
    rintro _ w ⟨rfl, h⟩
    refine x_take (d := 27) rfl rfl (en rfl (en rfl (en rfl es))) ?_
    refine x_val (r_neq es ec (r := false) rfl) (nd_of rfl) rfl ?_
    refine x_val (r_pick_f (en rfl (en rfl (en rfl (en rfl es)))) es) (nd_of rfl) rfl ?_
    refine x_val (r_move es) (nd_of rfl) rfl ?_
    refine x_take (d := 33) rfl rfl es ?_
    refine x_val (r_move (en rfl (en rfl (en rfl (en rfl (en rfl (en rfl (en rfl (en rfl (en rfl (en rfl (en rfl s1)))))))))))) (nd_of rfl) rfl ?_
    refine x_take (d := 33) rfl rfl (en rfl es) ?_
    refine x_val (r_lss es ec (decide_eq_false (by omega))) (nd_of rfl) rfl ?_
    refine x_val (r_pick_f (en rfl (en rfl es)) es) (nd_of rfl) rfl ?_
    refine x_val (r_move es) (nd_of rfl) rfl ?_
    refine x_take (d := 37) rfl rfl es ?_
    refine x_val (r_move (en rfl (en rfl (en rfl (en rfl (en rfl (en rfl (en rfl (en rfl (en rfl (en rfl (en rfl (en rfl (en rfl (en rfl (en rfl s1)))))))))))))))) (nd_of rfl) rfl ?_
    refine x_take (d := 37) rfl rfl (en rfl es) ?_
    refine x_val (r_move (en rfl (en rfl (en rfl (en rfl (en rfl (en rfl (en rfl (en rfl (en rfl (en rfl (en rfl (en rfl (en rfl (en rfl (en rfl (en rfl s2))))))))))))))))) (nd_of rfl) rfl ?_
    refine x_take (d := 37) rfl rfl (en rfl (en rfl es)) ?_
    refine x_val (r_gtr (en rfl es) es (decide_eq_false (by omega))) (nd_of rfl) rfl ?_
    refine x_val (r_pick_f (en rfl (en rfl (en rfl es))) es) (nd_of rfl) rfl ?_
    refine x_val (r_move es) (nd_of rfl) rfl ?_
    refine x_take (d := 42) rfl rfl es ?_
    refine x_val (r_move (en rfl (en rfl (en rfl (en rfl (en rfl (en rfl (en rfl (en rfl (en rfl (en rfl (en rfl (en rfl (en rfl (en rfl (en rfl (en rfl (en rfl (en rfl (en rfl (en rfl s2))))))))))))))))))))) (nd_of rfl) rfl ?_
    refine x_take (d := 42) rfl rfl (en rfl es) ?_
    refine x_val (r_move (en rfl (en rfl (en rfl (en rfl (en rfl (en rfl (en rfl (en rfl (en rfl (en rfl (en rfl (en rfl (en rfl (en rfl (en rfl (en rfl (en rfl (en rfl (en rfl (en rfl (en rfl s3)))))))))))))))))))))) (nd_of rfl) rfl ?_
    refine x_take (d := 42) rfl rfl (en rfl (en rfl es)) ?_
    refine x_val (r_gtr (en rfl es) es (decide_eq_false (by omega))) (nd_of rfl) rfl ?_
    refine x_val (r_pick_f (en rfl (en rfl (en rfl es))) es) (nd_of rfl) rfl ?_
    refine x_val (r_move es) (nd_of rfl) rfl ?_
    refine x_take (d := 47) rfl rfl es ?_
    refine x_val (r_move (en rfl (en rfl (en rfl (en rfl (en rfl (en rfl (en rfl (en rfl (en rfl (en rfl (en rfl (en rfl (en rfl (en rfl (en rfl (en rfl (en rfl (en rfl (en rfl (en rfl (en rfl (en rfl (en rfl (en rfl (en rfl s3)))))))))))))))))))))))))) (nd_of rfl) rfl ?_
    refine x_take (d := 47) rfl rfl (en rfl es) ?_
    refine x_val (r_move (en rfl (en rfl (en rfl (en rfl (en rfl (en rfl (en rfl (en rfl (en rfl (en rfl (en rfl (en rfl (en rfl (en rfl (en rfl (en rfl (en rfl (en rfl (en rfl (en rfl (en rfl (en rfl (en rfl (en rfl (en rfl (en rfl s4))))))))))))))))))))))))))) (nd_of rfl) rfl ?_
    refine x_take (d := 47) rfl rfl (en rfl (en rfl es)) ?_
    refine x_val (r_gtr (en rfl es) es (decide_eq_true (by omega))) (nd_of rfl) rfl ?_
    refine x_val (r_pick_f (en rfl (en rfl (en rfl es))) es) (nd_of rfl) rfl ?_
    refine x_val (r_move es) (nd_of rfl) rfl ?_
    refine x_pass (d := 52) rfl rfl es rfl ?_
    refine x_pass (d := 52) rfl rfl (en rfl es) rfl ?_
    refine x_pass (d := 52) rfl rfl (en rfl (en rfl es)) rfl ?_
    refine x_pass (d := 52) rfl rfl (en rfl (en rfl (en rfl es))) rfl ?_
    refine x_val (r_pick_t (en rfl (en rfl (en rfl (en rfl es)))) ec) (nd_of rfl) rfl ?_
    refine xw_nil ?_
    refine hK6 _ _ ?_
    refine xc_gen (fun g hg => ?_)
    have s0 := (hg 0).trans (en rfl (en rfl (en rfl (en rfl (en rfl (en rfl (en rfl (en rfl (en rfl (en rfl (en rfl (en rfl (en rfl (en rfl (en rfl (en rfl (en rfl (en rfl (en rfl (en rfl (en rfl (en rfl (en rfl (en rfl (en rfl (en rfl (en rfl (en rfl (en rfl (en rfl (en rfl (en rfl (en rfl (en rfl (en rfl s0)))))))))))))))))))))))))))))))))))
    have s1 := (hg 1).trans (en rfl (en rfl (en rfl (en rfl (en rfl (en rfl (en rfl (en rfl (en rfl (en rfl (en rfl (en rfl (en rfl (en rfl (en rfl (en rfl (en rfl (en rfl (en rfl (en rfl (en rfl (en rfl (en rfl (en rfl (en rfl (en rfl (en rfl (en rfl (en rfl (en rfl (en rfl (en rfl (en rfl (en rfl (en rfl s1)))))))))))))))))))))))))))))))))))
    have s2 := (hg 2).trans (en rfl (en rfl (en rfl (en rfl (en rfl (en rfl (en rfl (en rfl (en rfl (en rfl (en rfl (en rfl (en rfl (en rfl (en rfl (en rfl (en rfl (en rfl (en rfl (en rfl (en rfl (en rfl (en rfl (en rfl (en rfl (en rfl (en rfl (en rfl (en rfl (en rfl (en rfl (en rfl (en rfl (en rfl (en rfl s2)))))))))))))))))))))))))))))))))))
    have s3 := (hg 3).trans (en rfl (en rfl (en rfl (en rfl (en rfl (en rfl (en rfl (en rfl (en rfl (en rfl (en rfl (en rfl (en rfl (en rfl (en rfl (en rfl (en rfl (en rfl (en rfl (en rfl (en rfl (en rfl (en rfl (en rfl (en rfl (en rfl (en rfl (en rfl (en rfl (en rfl (en rfl (en rfl (en rfl (en rfl (en rfl s3)))))))))))))))))))))))))))))))))))
    have s4 := (hg 4).trans (en rfl (en rfl (en rfl (en rfl (en rfl (en rfl (en rfl (en rfl (en rfl (en rfl (en rfl (en rfl (en rfl (en rfl (en rfl (en rfl (en rfl (en rfl (en rfl (en rfl (en rfl (en rfl (en rfl (en rfl (en rfl (en rfl (en rfl (en rfl (en rfl (en rfl (en rfl (en rfl (en rfl (en rfl (en rfl s4)))))))))))))))))))))))))))))))))))
    have s10 := (hg 10).trans (en rfl (en rfl (en rfl (en rfl (en rfl (en rfl (en rfl (en rfl (en rfl (en rfl (en rfl (en rfl (en rfl (en rfl (en rfl (en rfl (en rfl (en rfl (en rfl (en rfl (en rfl (en rfl (en rfl (en rfl (en rfl (en rfl (en rfl (en rfl (en rfl (en rfl (en rfl (en rfl (en rfl (en rfl (en rfl s10)))))))))))))))))))))))))))))))))))
    have s11 := (hg 11).trans (en rfl (en rfl (en rfl (en rfl (en rfl (en rfl (en rfl (en rfl (en rfl (en rfl (en rfl (en rfl (en rfl (en rfl (en rfl (en rfl (en rfl (en rfl (en rfl (en rfl (en rfl (en rfl (en rfl (en rfl (en rfl (en rfl (en rfl (en rfl (en rfl (en rfl (en rfl (en rfl (en rfl (en rfl (en rfl s11)))))))))))))))))))))))))))))))))))
    have s12 := (hg 12).trans (en rfl (en rfl (en rfl (en rfl (en rfl (en rfl (en rfl (en rfl (en rfl (en rfl (en rfl (en rfl (en rfl (en rfl (en rfl (en rfl (en rfl (en rfl (en rfl (en rfl (en rfl (en rfl (en rfl (en rfl (en rfl (en rfl (en rfl (en rfl (en rfl (en rfl (en rfl (en rfl (en rfl (en rfl (en rfl s12)))))))))))))))))))))))))))))))))))
    have s19 := (hg 19).trans (en rfl (en rfl (en rfl (en rfl (en rfl (en rfl (en rfl (en rfl (en rfl (en rfl (en rfl (en rfl (en rfl (en rfl (en rfl (en rfl (en rfl (en rfl (en rfl (en rfl (en rfl (en rfl (en rfl (en rfl (en rfl (en rfl (en rfl (en rfl (en rfl (en rfl (en rfl (en rfl (en rfl (en rfl (en rfl s19)))))))))))))))))))))))))))))))))))
    have s57 := (hg 57).trans es
    clear hg
    refine xc_cond s57 (fun _ => ?_) (fun hc => by cases hc)
    refine xc_seq (fun K hK7 => ?_)
    refine xc_region ?_
    refine x_enter (r_call Try.call10 .nil) (nd_of rfl) rfl (known_ok h) ?_
    rintro _ w ⟨rfl, h⟩
    refine x_val (r_assign es) (nd_of rfl) rfl ?_
    refine xw_nil ?_
    refine hK7 _ _ ?_
    refine xc_gen (fun g hg => ?_)
    have s0 := (hg 0).trans (en rfl (en rfl s0))
    have s1 := (hg 1).trans (en rfl (en rfl s1))
    have s2 := (hg 2).trans (en rfl (en rfl s2))
    have s3 := (hg 3).trans (en rfl (en rfl s3))
    have s4 := (hg 4).trans (en rfl (en rfl s4))
    have s10 := (hg 10).trans es
    have s11 := (hg 11).trans (en rfl (en rfl s11))
    have s12 := (hg 12).trans (en rfl (en rfl s12))
    have s19 := (hg 19).trans (en rfl (en rfl s19))
    have s57 := (hg 57).trans (en rfl (en rfl s57))
    clear hg
    refine xc_ret ?_
    refine bodyR_1 rfl s10 ?_
    exact ⟨rfl, h.drop.drop⟩
  rcases Int.lt_or_le (zs.length : Int) m with hml | hml
  · skip
    refine calls_x Try.func8 rfl Try.ntmps8 rfl ?_
    refine xc_gen (fun g hg => ?_)
    have s0 := (hg 0).trans arg0
    have s1 := (hg 1).trans arg1
    have s2 := (hg 2).trans arg2
    have s3 := (hg 3).trans arg3
    have s4 := (hg 4).trans arg4
    clear hg
    refine xc_seq (fun K hK1 => ?_)
    refine xc_region ?_
    refine x_val (r_assign ec) (nd_of rfl) rfl ?_
    refine xw_nil ?_
    refine hK1 _ _ ?_
    refine xc_gen (fun g hg => ?_)
    have s0 := (hg 0).trans (en rfl s0)
    have s1 := (hg 1).trans (en rfl s1)
    have s2 := (hg 2).trans (en rfl s2)
    have s3 := (hg 3).trans (en rfl s3)
    have s4 := (hg 4).trans (en rfl s4)
    have s10 := (hg 10).trans es
    clear hg
    refine xc_seq (fun K hK2 => ?_)
    refine xc_seq (fun K hK3 => ?_)
    refine xc_region ?_
    refine x_val (r_move s0) (nd_of rfl) rfl ?_
    refine x_val (r_len Try.underlying23 es) (nd_of rfl) rfl ?_
    refine x_val (r_gtr es ec (decide_eq_false (by omega))) (nd_of rfl) rfl ?_
    refine xw_nil ?_
    refine hK3 _ _ ?_
    refine xc_gen (fun g hg => ?_)
    have s0 := (hg 0).trans (en rfl (en rfl (en rfl s0)))
    have s1 := (hg 1).trans (en rfl (en rfl (en rfl s1)))
    have s2 := (hg 2).trans (en rfl (en rfl (en rfl s2)))
    have s3 := (hg 3).trans (en rfl (en rfl (en rfl s3)))
    have s4 := (hg 4).trans (en rfl (en rfl (en rfl s4)))
    have s10 := (hg 10).trans (en rfl (en rfl (en rfl s10)))
    have s19 := (hg 19).trans es
    clear hg
    refine xc_cond s19 (fun hc => by cases hc) (fun _ => ?_)
    refine xc_skip ?_
    refine hK2 _ _ ?_
    refine xc_seq (fun K hK4 => ?_)
    refine xc_region ?_
    refine x_enter (r_call Try.call9 .nil) (nd_of rfl) rfl (newR h) ?_
    rintro _ w ⟨b, rfl, h⟩
    refine x_enter (r_call Try.call9 .nil) (nd_of rfl) rfl (newR h) ?_
    rintro _ w ⟨q, rfl, h⟩
    refine x_val (r_assign (en rfl es)) (nd_of rfl) rfl ?_
    refine x_val (r_assign (en rfl es)) (nd_of rfl) rfl ?_
    refine xw_nil ?_
    refine hK4 _ _ ?_
    refine xc_gen (fun g hg => ?_)
    have s0 := (hg 0).trans (en rfl (en rfl (en rfl (en rfl s0))))
    have s1 := (hg 1).trans (en rfl (en rfl (en rfl (en rfl s1))))
    have s2 := (hg 2).trans (en rfl (en rfl (en rfl (en rfl s2))))
    have s3 := (hg 3).trans (en rfl (en rfl (en rfl (en rfl s3))))
    have s4 := (hg 4).trans (en rfl (en rfl (en rfl (en rfl s4))))
    have s10 := (hg 10).trans (en rfl (en rfl (en rfl (en rfl s10))))
    have s11 := (hg 11).trans (en rfl es)
    have s12 := (hg 12).trans es
    have s19 := (hg 19).trans (en rfl (en rfl (en rfl (en rfl s19))))
    clear hg
    refine xc_seq (fun K hK5 => ?_)
    refine xc_seq (fun K hK6 => ?_)
    refine xc_region ?_
    refine x_val (r_move s11) (nd_of rfl) rfl ?_
    refine x_val (r_move (en rfl s0)) (nd_of rfl) rfl ?_
    have h := h.f1
    refine x_enter (r_call Try.call13 (.cons (en rfl es) (.cons ec (.cons es .nil)))) (nd_of rfl) rfl (insert_new he (hv.up) (B' := 3000) (by omega) (by omega) (by omega) h) ?_
    rintro _ w ⟨rfl, h⟩
    refine x_val (r_neq es ec (r := false) rfl) (nd_of rfl) rfl ?_
    refine x_val (r_move es) (nd_of rfl) rfl ?_
    refine x_take (d := 27) rfl rfl es ?_
    refine x_val (r_move (en rfl (en rfl (en rfl (en rfl (en rfl s12)))))) (nd_of rfl) rfl ?_
    refine x_take (d := 27) rfl rfl (en rfl es) ?_
    refine x_val (r_move (en rfl (en rfl (en rfl (en rfl (en rfl (en rfl s0))))))) (nd_of rfl) rfl ?_
    refine x_take (d := 27) rfl rfl (en rfl (en rfl es)) ?_
    have h := h.f1
    refine x_enter (r_call Try.call13 (.cons (en rfl es) (.cons ec (.cons es .nil)))) (nd_of rfl) rfl (insert_new he (hv.up) (B' := 3000) (by omega) (by omega) (by omega) h) ?_
    rintro _ w ⟨rfl, h⟩
    refine x_take (d := 27) rfl rfl (en rfl (en rfl (en rfl es))) ?_
    refine x_val (r_neq es ec (r := false) rfl) (nd_of rfl) rfl ?_
    refine x_val (r_pick_f (en rfl (en rfl (en rfl (en rfl es)))) es) (nd_of rfl) rfl ?_
    refine x_val (r_move es) (nd_of rfl) rfl ?_
    refine x_take (d := 33) rfl rfl es ?_
    refine x_val (r_move (en rfl (en rfl (en rfl (en rfl (en rfl (en rfl (en rfl (en rfl (en rfl (en rfl (en rfl s1)))))))))))) (nd_of rfl) rfl ?_
    refine x_take (d := 33) rfl rfl (en rfl es) ?_
    refine x_val (r_lss es ec (decide_eq_false (by omega))) (nd_of rfl) rfl ?_
    refine x_val (r_pick_f (en rfl (en rfl es)) es) (nd_of rfl) rfl ?_
    refine x_val (r_move es) (nd_of rfl) rfl ?_
    refine x_take (d := 37) rfl rfl es ?_
    refine x_val (r_move (en rfl (en rfl (en rfl (en rfl (en rfl (en rfl (en rfl (en rfl (en rfl (en rfl (en rfl (en rfl (en rfl (en rfl (en rfl s1)))))))))))))))) (nd_of rfl) rfl ?_
    refine x_take (d := 37) rfl rfl (en rfl es) ?_
    refine x_val (r_move (en rfl (en rfl (en rfl (en rfl (en rfl (en rfl (en rfl (en rfl (en rfl (en rfl (en rfl (en rfl (en rfl (en rfl (en rfl (en rfl s2))))))))))))))))) (nd_of rfl) rfl ?_
    refine x_take (d := 37) rfl rfl (en rfl (en rfl es)) ?_
    refine x_val (r_gtr (en rfl es) es (decide_eq_false (by omega))) (nd_of rfl) rfl ?_
    refine x_val (r_pick_f (en rfl (en rfl (en rfl es))) es) (nd_of rfl) rfl ?_
    refine x_val (r_move es) (nd_of rfl) rfl ?_
    refine x_take (d := 42) rfl rfl es ?_
    refine x_val (r_move (en rfl (en rfl (en rfl (en rfl (en rfl (en rfl (en rfl (en rfl (en rfl (en rfl (en rfl (en rfl (en rfl (en rfl (en rfl (en rfl (en rfl (en rfl (en rfl (en rfl s2))))))))))))))))))))) (nd_of rfl) rfl ?_
    refine x_take (d := 42) rfl rfl (en rfl es) ?_
    refine x_val (r_move (en rfl (en rfl (en rfl (en rfl (en rfl (en rfl (en rfl (en rfl (en rfl (en rfl (en rfl (en rfl (en rfl (en rfl (en rfl (en rfl (en rfl (en rfl (en rfl (en rfl (en rfl s3)))))))))))))))))))))) (nd_of rfl) rfl ?_
    refine x_take (d := 42) rfl rfl (en rfl (en rfl es)) ?_
    refine x_val (r_gtr (en rfl es) es (decide_eq_false (by omega))) (nd_of rfl) rfl ?_
    refine x_val (r_pick_f (en rfl (en rfl (en rfl es))) es) (nd_of rfl) rfl ?_
    refine x_val (r_move es) (nd_of rfl) rfl ?_
    refine x_take (d := 47) rfl rfl es ?_
    refine x_val (r_move (en rfl (en rfl (en rfl (en rfl (en rfl (en rfl (en rfl (en rfl (en rfl (en rfl (en rfl (en rfl (en rfl (en rfl (en rfl (en rfl (en rfl (en rfl (en rfl (en rfl (en rfl (en rfl (en rfl (en rfl (en rfl s3)))))))))))))))))))))))))) (nd_of rfl) rfl ?_
    refine x_take (d := 47) rfl rfl (en rfl es) ?_
    refine x_val (r_move (en rfl (en rfl (en rfl (en rfl (en rfl (en rfl (en rfl (en rfl (en rfl (en rfl (en rfl (en rfl (en rfl (en rfl (en rfl (en rfl (en rfl (en rfl (en rfl (en rfl (en rfl (en rfl (en rfl (en rfl (en rfl (en rfl s4))))))))))))))))))))))))))) (nd_of rfl) rfl ?_
    refine x_take (d := 47) rfl rfl (en rfl (en rfl es)) ?_
    refine x_val (r_gtr (en rfl es) es (decide_eq_false (by omega))) (nd_of rfl) rfl ?_
    refine x_val (r_pick_f (en rfl (en rfl (en rfl es))) es) (nd_of rfl) rfl ?_
    refine x_val (r_move es) (nd_of rfl) rfl ?_
    refine x_take (d := 52) rfl rfl es ?_
    refine x_val (r_move (en rfl (en rfl (en rfl (en rfl (en rfl (en rfl (en rfl (en rfl (en rfl (en rfl (en rfl (en rfl (en rfl (en rfl (en rfl (en rfl (en rfl (en rfl (en rfl (en rfl (en rfl (en rfl (en rfl (en rfl (en rfl (en rfl (en rfl (en rfl (en rfl (en rfl s4))))))))))))))))))))))))))))))) (nd_of rfl) rfl ?_
    refine x_take (d := 52) rfl rfl (en rfl es) ?_
    refine x_val (r_move (en rfl (en rfl (en rfl (en rfl (en rfl (en rfl (en rfl (en rfl (en rfl (en rfl (en rfl (en rfl (en rfl (en rfl (en rfl (en rfl (en rfl (en rfl (en rfl (en rfl (en rfl (en rfl (en rfl (en rfl (en rfl (en rfl (en rfl (en rfl (en rfl (en rfl (en rfl s0)))))))))))))))))))))))))))))))) (nd_of rfl) rfl ?_
    refine x_take (d := 52) rfl rfl (en rfl (en rfl es)) ?_
    refine x_val (r_len Try.underlying23 es) (nd_of rfl) rfl ?_
    refine x_take (d := 52) rfl rfl (en rfl (en rfl (en rfl es))) ?_
    refine x_val (r_gtr (en rfl (en rfl es)) es (decide_eq_true (by omega))) (nd_of rfl) rfl ?_
    refine x_val (r_pick_f (en rfl (en rfl (en rfl (en rfl es)))) es) (nd_of rfl) rfl ?_
    refine xw_nil ?_
    refine hK6 _ _ ?_
    refine xc_gen (fun g hg => ?_)
    have s0 := (hg 0).trans (en rfl (en rfl (en rfl (en rfl (en rfl (en rfl (en rfl (en rfl (en rfl (en rfl (en rfl (en rfl (en rfl (en rfl (en rfl (en rfl (en rfl (en rfl (en rfl (en rfl (en rfl (en rfl (en rfl (en rfl (en rfl (en rfl (en rfl (en rfl (en rfl (en rfl (en rfl (en rfl (en rfl (en rfl (en rfl s0)))))))))))))))))))))))))))))))))))
    have s1 := (hg 1).trans (en rfl (en rfl (en rfl (en rfl (en rfl (en rfl (en rfl (en rfl (en rfl (en rfl (en rfl (en rfl (en rfl (en rfl (en rfl (en rfl (en rfl (en rfl (en rfl (en rfl (en rfl (en rfl (en rfl (en rfl (en rfl (en rfl (en rfl (en rfl (en rfl (en rfl (en rfl (en rfl (en rfl (en rfl (en rfl s1)))))))))))))))))))))))))))))))))))
    have s2 := (hg 2).trans (en rfl (en rfl (en rfl (en rfl (en rfl (en rfl (en rfl (en rfl (en rfl (en rfl (en rfl (en rfl (en rfl (en rfl (en rfl (en rfl (en rfl (en rfl (en rfl (en rfl (en rfl (en rfl (en rfl (en rfl (en rfl (en rfl (en rfl (en rfl (en rfl (en rfl (en rfl (en rfl (en rfl (en rfl (en rfl s2)))))))))))))))))))))))))))))))))))
    have s3 := (hg 3).trans (en rfl (en rfl (en rfl (en rfl (en rfl (en rfl (en rfl (en rfl (en rfl (en rfl (en rfl (en rfl (en rfl (en rfl (en rfl (en rfl (en rfl (en rfl (en rfl (en rfl (en rfl (en rfl (en rfl (en rfl (en rfl (en rfl (en rfl (en rfl (en rfl (en rfl (en rfl (en rfl (en rfl (en rfl (en rfl s3)))))))))))))))))))))))))))))))))))
    have s4 := (hg 4).trans (en rfl (en rfl (en rfl (en rfl (en rfl (en rfl (en rfl (en rfl (en rfl (en rfl (en rfl (en rfl (en rfl (en rfl (en rfl (en rfl (en rfl (en rfl (en rfl (en rfl (en rfl (en rfl (en rfl (en rfl (en rfl (en rfl (en rfl (en rfl (en rfl (en rfl (en rfl (en rfl (en rfl (en rfl (en rfl s4)))))))))))))))))))))))))))))))))))
    have s10 := (hg 10).trans (en rfl (en rfl (en rfl (en rfl (en rfl (en rfl (en rfl (en rfl (en rfl (en rfl (en rfl (en rfl (en rfl (en rfl (en rfl (en rfl (en rfl (en rfl (en rfl (en rfl (en rfl (en rfl (en rfl (en rfl (en rfl (en rfl (en rfl (en rfl (en rfl (en rfl (en rfl (en rfl (en rfl (en rfl (en rfl s10)))))))))))))))))))))))))))))))))))
    have s11 := (hg 11).trans (en rfl (en rfl (en rfl (en rfl (en rfl (en rfl (en rfl (en rfl (en rfl (en rfl (en rfl (en rfl (en rfl (en rfl (en rfl (en rfl (en rfl (en rfl (en rfl (en rfl (en rfl (en rfl (en rfl (en rfl (en rfl (en rfl (en rfl (en rfl (en rfl (en rfl (en rfl (en rfl (en rfl (en rfl (en rfl s11)))))))))))))))))))))))))))))))))))
    have s12 := (hg 12).trans (en rfl (en rfl (en rfl (en rfl (en rfl (en rfl (en rfl (en rfl (en rfl (en rfl (en rfl (en rfl (en rfl (en rfl (en rfl (en rfl (en rfl (en rfl (en rfl (en rfl (en rfl (en rfl (en rfl (en rfl (en rfl (en rfl (en rfl (en rfl (en rfl (en rfl (en rfl (en rfl (en rfl (en rfl (en rfl s12)))))))))))))))))))))))))))))))))))
    have s19 := (hg 19).trans (en rfl (en rfl (en rfl (en rfl (en rfl (en rfl (en rfl (en rfl (en rfl (en rfl (en rfl (en rfl (en rfl (en rfl (en rfl (en rfl (en rfl (en rfl (en rfl (en rfl (en rfl (en rfl (en rfl (en rfl (en rfl (en rfl (en rfl (en rfl (en rfl (en rfl (en rfl (en rfl (en rfl (en rfl (en rfl s19)))))))))))))))))))))))))))))))))))
    have s57 := (hg 57).trans es
    clear hg
    refine xc_cond s57 (fun _ => ?_) (fun hc => by cases hc)
    refine xc_seq (fun K hK7 => ?_)
    refine xc_region ?_
    refine x_enter (r_call Try.call10 .nil) (nd_of rfl) rfl (known_ok h) ?_
    rintro _ w ⟨rfl, h⟩
    refine x_val (r_assign es) (nd_of rfl) rfl ?_
    refine xw_nil ?_
    refine hK7 _ _ ?_
    refine xc_gen (fun g hg => ?_)
    have s0 := (hg 0).trans (en rfl (en rfl s0))
    have s1 := (hg 1).trans (en rfl (en rfl s1))
    have s2 := (hg 2).trans (en rfl (en rfl s2))
    have s3 := (hg 3).trans (en rfl (en rfl s3))
    have s4 := (hg 4).trans (en rfl (en rfl s4))
    have s10 := (hg 10).trans es
    have s11 := (hg 11).trans (en rfl (en rfl s11))
    have s12 := (hg 12).trans (en rfl (en rfl s12))
    have s19 := (hg 19).trans (en rfl (en rfl s19))
    have s57 := (hg 57).trans (en rfl (en rfl s57))
    clear hg
    refine xc_ret ?_
    refine bodyR_1 rfl s10 ?_
    exact ⟨rfl, h.drop.drop⟩
  obtain ⟨ni, rfl⟩ := Int.eq_ofNat_of_zero_le hi0
  obtain ⟨nj, rfl⟩ := Int.eq_ofNat_of_zero_le (Int.le_trans hi0 hij)
  obtain ⟨nk, rfl⟩ := Int.eq_ofNat_of_zero_le (a := k) (by omega)
  obtain ⟨nm, rfl⟩ := Int.eq_ofNat_of_zero_le (a := m) (by omega)
  have hlaw := del_law (zs := zs) (i := ni) (j := nj) (k := nk) (m := nm) (by omega) (by omega) (by omega) (by omega)
  have z1l : (zs.take nk ++ zs.drop nm).length = zs.length - (nm - nk) := by rw [List.length_append, List.length_take, List.length_drop]; omega
  have z2l : (zs.take ni ++ zs.drop nj).length = zs.length - (nj - ni) := by rw [List.length_append, List.length_take, List.length_drop]; omega
  have fl : ((zs.take nk ++ zs.drop nm).take ni ++ (zs.take nk ++ zs.drop nm).drop nj).length = zs.length - (nm - nk) - (nj - ni) := by rw [List.length_append, List.length_take, List.length_drop, z1l]; omega
  refine calls_x Try.func8 rfl Try.ntmps8 rfl ?_
  refine xc_gen (fun g hg => ?_)
  have s0 := (hg 0).trans arg0
  have s1 := (hg 1).trans arg1
  have s2 := (hg 2).trans arg2
  have s3 := (hg 3).trans arg3
  have s4 := (hg 4).trans arg4
  clear hg
  refine xc_seq (fun K hK1 => ?_)
  refine xc_region ?_
  refine x_val (r_assign ec) (nd_of rfl) rfl ?_
  refine xw_nil ?_
  refine hK1 _ _ ?_
  refine xc_gen (fun g hg => ?_)
  have s0 := (hg 0).trans (en rfl s0)
  have s1 := (hg 1).trans (en rfl s1)
  have s2 := (hg 2).trans (en rfl s2)
  have s3 := (hg 3).trans (en rfl s3)
  have s4 := (hg 4).trans (en rfl s4)
  have s10 := (hg 10).trans es
  clear hg
  refine xc_seq (fun K hK2 => ?_)
  refine xc_seq (fun K hK3 => ?_)
  refine xc_region ?_
  refine x_val (r_move s0) (nd_of rfl) rfl ?_
  refine x_val (r_len Try.underlying23 es) (nd_of rfl) rfl ?_
  refine x_val (r_gtr es ec (decide_eq_false (by omega))) (nd_of rfl) rfl ?_
  refine xw_nil ?_
  refine hK3 _ _ ?_
  refine xc_gen (fun g hg => ?_)
  have s0 := (hg 0).trans (en rfl (en rfl (en rfl s0)))
  have s1 := (hg 1).trans (en rfl (en rfl (en rfl s1)))
  have s2 := (hg 2).trans (en rfl (en rfl (en rfl s2)))
  have s3 := (hg 3).trans (en rfl (en rfl (en rfl s3)))
  have s4 := (hg 4).trans (en rfl (en rfl (en rfl s4)))
  have s10 := (hg 10).trans (en rfl (en rfl (en rfl s10)))
  have s19 := (hg 19).trans es
  clear hg
  refine xc_cond s19 (fun hc => by cases hc) (fun _ => ?_)
  refine xc_skip ?_
  refine hK2 _ _ ?_
  refine xc_seq (fun K hK4 => ?_)
  refine xc_region ?_
  refine x_enter (r_call Try.call9 .nil) (nd_of rfl) rfl (newR h) ?_
  rintro _ w ⟨b, rfl, h⟩
  refine x_enter (r_call Try.call9 .nil) (nd_of rfl) rfl (newR h) ?_
  rintro _ w ⟨q, rfl, h⟩
  refine x_val (r_assign (en rfl es)) (nd_of rfl) rfl ?_
  refine x_val (r_assign (en rfl es)) (nd_of rfl) rfl ?_
  refine xw_nil ?_
  refine hK4 _ _ ?_
  refine xc_gen (fun g hg => ?_)
  have s0 := (hg 0).trans (en rfl (en rfl (en rfl (en rfl s0))))
  have s1 := (hg 1).trans (en rfl (en rfl (en rfl (en rfl s1))))
  have s2 := (hg 2).trans (en rfl (en rfl (en rfl (en rfl s2))))
  have s3 := (hg 3).trans (en rfl (en rfl (en rfl (en rfl s3))))
  have s4 := (hg 4).trans (en rfl (en rfl (en rfl (en rfl s4))))
  have s10 := (hg 10).trans (en rfl (en rfl (en rfl (en rfl s10))))
  have s11 := (hg 11).trans (en rfl es)
  have s12 := (hg 12).trans es
  have s19 := (hg 19).trans (en rfl (en rfl (en rfl (en rfl s19))))
  clear hg
  refine xc_seq (fun K hK5 => ?_)
  refine xc_seq (fun K hK6 => ?_)
  refine xc_region ?_
  refine x_val (r_move s11) (nd_of rfl) rfl ?_
  refine x_val (r_move (en rfl s0)) (nd_of rfl) rfl ?_
  have h := h.f1
  refine x_enter (r_call Try.call13 (.cons (en rfl es) (.cons ec (.cons es .nil)))) (nd_of rfl) rfl (insert_new he (hv.up) (B' := 3000) (by omega) (by omega) (by omega) h) ?_
  rintro _ w ⟨rfl, h⟩
  refine x_val (r_neq es ec (r := false) rfl) (nd_of rfl) rfl ?_
  refine x_val (r_move es) (nd_of rfl) rfl ?_
  refine x_take (d := 27) rfl rfl es ?_
  refine x_val (r_move (en rfl (en rfl (en rfl (en rfl (en rfl s12)))))) (nd_of rfl) rfl ?_
  refine x_take (d := 27) rfl rfl (en rfl es) ?_
  refine x_val (r_move (en rfl (en rfl (en rfl (en rfl (en rfl (en rfl s0))))))) (nd_of rfl) rfl ?_
  refine x_take (d := 27) rfl rfl (en rfl (en rfl es)) ?_
  have h := h.f1
  refine x_enter (r_call Try.call13 (.cons (en rfl es) (.cons ec (.cons es .nil)))) (nd_of rfl) rfl (insert_new he (hv.up) (B' := 3000) (by omega) (by omega) (by omega) h) ?_
  rintro _ w ⟨rfl, h⟩
  refine x_take (d := 27) rfl rfl (en rfl (en rfl (en rfl es))) ?_
  refine x_val (r_neq es ec (r := false) rfl) (nd_of rfl) rfl ?_
  refine x_val (r_pick_f (en rfl (en rfl (en rfl (en rfl es)))) es) (nd_of rfl) rfl ?_
  refine x_val (r_move es) (nd_of rfl) rfl ?_
  refine x_take (d := 33) rfl rfl es ?_
  refine x_val (r_move (en rfl (en rfl (en rfl (en rfl (en rfl (en rfl (en rfl (en rfl (en rfl (en rfl (en rfl s1)))))))))))) (nd_of rfl) rfl ?_
  refine x_take (d := 33) rfl rfl (en rfl es) ?_
  refine x_val (r_lss es ec (decide_eq_false (by omega))) (nd_of rfl) rfl ?_
  refine x_val (r_pick_f (en rfl (en rfl es)) es) (nd_of rfl) rfl ?_
  refine x_val (r_move es) (nd_of rfl) rfl ?_
  refine x_take (d := 37) rfl rfl es ?_
  refine x_val (r_move (en rfl (en rfl (en rfl (en rfl (en rfl (en rfl (en rfl (en rfl (en rfl (en rfl (en rfl (en rfl (en rfl (en rfl (en rfl s1)))))))))))))))) (nd_of rfl) rfl ?_
  refine x_take (d := 37) rfl rfl (en rfl es) ?_
  refine x_val (r_move (en rfl (en rfl (en rfl (en rfl (en rfl (en rfl (en rfl (en rfl (en rfl (en rfl (en rfl (en rfl (en rfl (en rfl (en rfl (en rfl s2))))))))))))))))) (nd_of rfl) rfl ?_
  refine x_take (d := 37) rfl rfl (en rfl (en rfl es)) ?_
  refine x_val (r_gtr (en rfl es) es (decide_eq_false (by omega))) (nd_of rfl) rfl ?_
  refine x_val (r_pick_f (en rfl (en rfl (en rfl es))) es) (nd_of rfl) rfl ?_
  refine x_val (r_move es) (nd_of rfl) rfl ?_
  refine x_take (d := 42) rfl rfl es ?_
  refine x_val (r_move (en rfl (en rfl (en rfl (en rfl (en rfl (en rfl (en rfl (en rfl (en rfl (en rfl (en rfl (en rfl (en rfl (en rfl (en rfl (en rfl (en rfl (en rfl (en rfl (en rfl s2))))))))))))))))))))) (nd_of rfl) rfl ?_
  refine x_take (d := 42) rfl rfl (en rfl es) ?_
  refine x_val (r_move (en rfl (en rfl (en rfl (en rfl (en rfl (en rfl (en rfl (en rfl (en rfl (en rfl (en rfl (en rfl (en rfl (en rfl (en rfl (en rfl (en rfl (en rfl (en rfl (en rfl (en rfl s3)))))))))))))))))))))) (nd_of rfl) rfl ?_
  refine x_take (d := 42) rfl rfl (en rfl (en rfl es)) ?_
  refine x_val (r_gtr (en rfl es) es (decide_eq_false (by omega))) (nd_of rfl) rfl ?_
  refine x_val (r_pick_f (en rfl (en rfl (en rfl es))) es) (nd_of rfl) rfl ?_
  refine x_val (r_move es) (nd_of rfl) rfl ?_
  refine x_take (d := 47) rfl rfl es ?_
  refine x_val (r_move (en rfl (en rfl (en rfl (en rfl (en rfl (en rfl (en rfl (en rfl (en rfl (en rfl (en rfl (en rfl (en rfl (en rfl (en rfl (en rfl (en rfl (en rfl (en rfl (en rfl (en rfl (en rfl (en rfl (en rfl (en rfl s3)))))))))))))))))))))))))) (nd_of rfl) rfl ?_
  refine x_take (d := 47) rfl rfl (en rfl es) ?_
  refine x_val (r_move (en rfl (en rfl (en rfl (en rfl (en rfl (en rfl (en rfl (en rfl (en rfl (en rfl (en rfl (en rfl (en rfl (en rfl (en rfl (en rfl (en rfl (en rfl (en rfl (en rfl (en rfl (en rfl (en rfl (en rfl (en rfl (en rfl s4))))))))))))))))))))))))))) (nd_of rfl) rfl ?_
  refine x_take (d := 47) rfl rfl (en rfl (en rfl es)) ?_
  refine x_val (r_gtr (en rfl es) es (decide_eq_false (by omega))) (nd_of rfl) rfl ?_
  refine x_val (r_pick_f (en rfl (en rfl (en rfl es))) es) (nd_of rfl) rfl ?_
  refine x_val (r_move es) (nd_of rfl) rfl ?_
  refine x_take (d := 52) rfl rfl es ?_
  refine x_val (r_move (en rfl (en rfl (en rfl (en rfl (en rfl (en rfl (en rfl (en rfl (en rfl (en rfl (en rfl (en rfl (en rfl (en rfl (en rfl (en rfl (en rfl (en rfl (en rfl (en rfl (en rfl (en rfl (en rfl (en rfl (en rfl (en rfl (en rfl (en rfl (en rfl (en rfl s4))))))))))))))))))))))))))))))) (nd_of rfl) rfl ?_
  refine x_take (d := 52) rfl rfl (en rfl es) ?_
  refine x_val (r_move (en rfl (en rfl (en rfl (en rfl (en rfl (en rfl (en rfl (en rfl (en rfl (en rfl (en rfl (en rfl (en rfl (en rfl (en rfl (en rfl (en rfl (en rfl (en rfl (en rfl (en rfl (en rfl (en rfl (en rfl (en rfl (en rfl (en rfl (en rfl (en rfl (en rfl (en rfl s0)))))))))))))))))))))))))))))))) (nd_of rfl) rfl ?_
  refine x_take (d := 52) rfl rfl (en rfl (en rfl es)) ?_
  refine x_val (r_len Try.underlying23 es) (nd_of rfl) rfl ?_
  refine x_take (d := 52) rfl rfl (en rfl (en rfl (en rfl es))) ?_
  refine x_val (r_gtr (en rfl (en rfl es)) es (decide_eq_false (by omega))) (nd_of rfl) rfl ?_
  refine x_val (r_pick_f (en rfl (en rfl (en rfl (en rfl es)))) es) (nd_of rfl) rfl ?_
  refine xw_nil ?_
  refine hK6 _ _ ?_
  refine xc_gen (fun g hg => ?_)
  have s0 := (hg 0).trans (en rfl (en rfl (en rfl (en rfl (en rfl (en rfl (en rfl (en rfl (en rfl (en rfl (en rfl (en rfl (en rfl (en rfl (en rfl (en rfl (en rfl (en rfl (en rfl (en rfl (en rfl (en rfl (en rfl (en rfl (en rfl (en rfl (en rfl (en rfl (en rfl (en rfl (en rfl (en rfl (en rfl (en rfl (en rfl s0)))))))))))))))))))))))))))))))))))
  have s1 := (hg 1).trans (en rfl (en rfl (en rfl (en rfl (en rfl (en rfl (en rfl (en rfl (en rfl (en rfl (en rfl (en rfl (en rfl (en rfl (en rfl (en rfl (en rfl (en rfl (en rfl (en rfl (en rfl (en rfl (en rfl (en rfl (en rfl (en rfl (en rfl (en rfl (en rfl (en rfl (en rfl (en rfl (en rfl (en rfl (en rfl s1)))))))))))))))))))))))))))))))))))
  have s2 := (hg 2).trans (en rfl (en rfl (en rfl (en rfl (en rfl (en rfl (en rfl (en rfl (en rfl (en rfl (en rfl (en rfl (en rfl (en rfl (en rfl (en rfl (en rfl (en rfl (en rfl (en rfl (en rfl (en rfl (en rfl (en rfl (en rfl (en rfl (en rfl (en rfl (en rfl (en rfl (en rfl (en rfl (en rfl (en rfl (en rfl s2)))))))))))))))))))))))))))))))))))
  have s3 := (hg 3).trans (en rfl (en rfl (en rfl (en rfl (en rfl (en rfl (en rfl (en rfl (en rfl (en rfl (en rfl (en rfl (en rfl (en rfl (en rfl (en rfl (en rfl (en rfl (en rfl (en rfl (en rfl (en rfl (en rfl (en rfl (en rfl (en rfl (en rfl (en rfl (en rfl (en rfl (en rfl (en rfl (en rfl (en rfl (en rfl s3)))))))))))))))))))))))))))))))))))
  have s4 := (hg 4).trans (en rfl (en rfl (en rfl (en rfl (en rfl (en rfl (en rfl (en rfl (en rfl (en rfl (en rfl (en rfl (en rfl (en rfl (en rfl (en rfl (en rfl (en rfl (en rfl (en rfl (en rfl (en rfl (en rfl (en rfl (en rfl (en rfl (en rfl (en rfl (en rfl (en rfl (en rfl (en rfl (en rfl (en rfl (en rfl s4)))))))))))))))))))))))))))))))))))
  have s10 := (hg 10).trans (en rfl (en rfl (en rfl (en rfl (en rfl (en rfl (en rfl (en rfl (en rfl (en rfl (en rfl (en rfl (en rfl (en rfl (en rfl (en rfl (en rfl (en rfl (en rfl (en rfl (en rfl (en rfl (en rfl (en rfl (en rfl (en rfl (en rfl (en rfl (en rfl (en rfl (en rfl (en rfl (en rfl (en rfl (en rfl s10)))))))))))))))))))))))))))))))))))
  have s11 := (hg 11).trans (en rfl (en rfl (en rfl (en rfl (en rfl (en rfl (en rfl (en rfl (en rfl (en rfl (en rfl (en rfl (en rfl (en rfl (en rfl (en rfl (en rfl (en rfl (en rfl (en rfl (en rfl (en rfl (en rfl (en rfl (en rfl (en rfl (en rfl (en rfl (en rfl (en rfl (en rfl (en rfl (en rfl (en rfl (en rfl s11)))))))))))))))))))))))))))))))))))
  have s12 := (hg 12).trans (en rfl (en rfl (en rfl (en rfl (en rfl (en rfl (en rfl (en rfl (en rfl (en rfl (en rfl (en rfl (en rfl (en rfl (en rfl (en rfl (en rfl (en rfl (en rfl (en rfl (en rfl (en rfl (en rfl (en rfl (en rfl (en rfl (en rfl (en rfl (en rfl (en rfl (en rfl (en rfl (en rfl (en rfl (en rfl s12)))))))))))))))))))))))))))))))))))
  have s19 := (hg 19).trans (en rfl (en rfl (en rfl (en rfl (en rfl (en rfl (en rfl (en rfl (en rfl (en rfl (en rfl (en rfl (en rfl (en rfl (en rfl (en rfl (en rfl (en rfl (en rfl (en rfl (en rfl (en rfl (en rfl (en rfl (en rfl (en rfl (en rfl (en rfl (en rfl (en rfl (en rfl (en rfl (en rfl (en rfl (en rfl s19)))))))))))))))))))))))))))))))))))
  have s57 := (hg 57).trans es
  clear hg
  refine xc_cond s57 (fun hc => by cases hc) (fun _ => ?_)
  refine xc_skip ?_
  refine hK5 _ _ ?_
  refine xc_seq (fun K hK7 => ?_)
  refine xc_seq (fun K hK8 => ?_)
  refine xc_region ?_
  refine x_val (r_move s11) (nd_of rfl) rfl ?_
  refine x_val (r_move (en rfl s3)) (nd_of rfl) rfl ?_
  refine x_val (r_move (en rfl (en rfl s4))) (nd_of rfl) rfl ?_
  have h := h.f1
  refine x_enter (r_call Try.call12 (.cons (en rfl (en rfl es)) (.cons (en rfl es) (.cons es .nil)))) (nd_of rfl) rfl (deleteR (B' := 3000) ⟨by omega, by omega, by omega⟩ (by omega) (by omega) (by omega) h) ?_
  rintro _ w ⟨rfl, h⟩
  rw [Int.toNat_natCast, Int.toNat_natCast] at h
  refine x_val (r_neq es ec (r := false) rfl) (nd_of rfl) rfl ?_
  refine x_val (r_move es) (nd_of rfl) rfl ?_
  refine x_take (d := 64) rfl rfl es ?_
  refine x_val (r_move (en rfl (en rfl (en rfl (en rfl (en rfl (en rfl s11))))))) (nd_of rfl) rfl ?_
  refine x_take (d := 64) rfl rfl (en rfl es) ?_
  refine x_val (r_move (en rfl (en rfl (en rfl (en rfl (en rfl (en rfl (en rfl s1)))))))) (nd_of rfl) rfl ?_
  refine x_take (d := 64) rfl rfl (en rfl (en rfl es)) ?_
  refine x_val (r_move (en rfl (en rfl (en rfl (en rfl (en rfl (en rfl (en rfl (en rfl s2))))))))) (nd_of rfl) rfl ?_
  refine x_take (d := 64) rfl rfl (en rfl (en rfl (en rfl es))) ?_
  refine x_enter (r_call Try.call12 (.cons (en rfl (en rfl es)) (.cons (en rfl es) (.cons es .nil)))) (nd_of rfl) rfl (deleteR (B' := 3000) ⟨by omega, by omega, by rw [z1l]; omega⟩ (by rw [z1l]; omega) (by omega) (by omega) h) ?_
  rintro _ w ⟨rfl, h⟩
  rw [Int.toNat_natCast, Int.toNat_natCast] at h
  refine x_take (d := 64) rfl rfl (en rfl (en rfl (en rfl (en rfl es)))) ?_
  refine x_val (r_neq es ec (r := false) rfl) (nd_of rfl) rfl ?_
  refine x_val (r_pick_f (en rfl (en rfl (en rfl (en rfl (en rfl es))))) es) (nd_of rfl) rfl ?_
  refine x_val (r_move es) (nd_of rfl) rfl ?_
  refine x_take (d := 71) rfl rfl es ?_
  refine x_val (r_move (en rfl (en rfl (en rfl (en rfl (en rfl (en rfl (en rfl (en rfl (en rfl (en rfl (en rfl (en rfl (en rfl s12)))))))))))))) (nd_of rfl) rfl ?_
  refine x_take (d := 71) rfl rfl (en rfl es) ?_
  refine x_val (r_move (en rfl (en rfl (en rfl (en rfl (en rfl (en rfl (en rfl (en rfl (en rfl (en rfl (en rfl (en rfl (en rfl (en rfl s1))))))))))))))) (nd_of rfl) rfl ?_
  refine x_take (d := 71) rfl rfl (en rfl (en rfl es)) ?_
  refine x_val (r_move (en rfl (en rfl (en rfl (en rfl (en rfl (en rfl (en rfl (en rfl (en rfl (en rfl (en rfl (en rfl (en rfl (en rfl (en rfl s2)))))))))))))))) (nd_of rfl) rfl ?_
  refine x_take (d := 71) rfl rfl (en rfl (en rfl (en rfl es))) ?_
  have h := h.f1
  refine x_enter (r_call Try.call12 (.cons (en rfl (en rfl es)) (.cons (en rfl es) (.cons es .nil)))) (nd_of rfl) rfl (deleteR (B' := 3000) ⟨by omega, by omega, by omega⟩ (by omega) (by omega) (by omega) h) ?_
  rintro _ w ⟨rfl, h⟩
  rw [Int.toNat_natCast, Int.toNat_natCast] at h
  refine x_take (d := 71) rfl rfl (en rfl (en rfl (en rfl (en rfl es)))) ?_
  refine x_val (r_neq es ec (r := false) rfl) (nd_of rfl) rfl ?_
  refine x_val (r_pick_f (en rfl (en rfl (en rfl (en rfl (en rfl es))))) es) (nd_of rfl) rfl ?_
  refine x_val (r_move es) (nd_of rfl) rfl ?_
  refine x_take (d := 78) rfl rfl es ?_
  refine x_val (r_move (en rfl (en rfl (en rfl (en rfl (en rfl (en rfl (en rfl (en rfl (en rfl (en rfl (en rfl (en rfl (en rfl (en rfl (en rfl (en rfl (en rfl (en rfl (en rfl (en rfl s12))))))))))))))))))))) (nd_of rfl) rfl ?_
  refine x_take (d := 78) rfl rfl (en rfl es) ?_
  refine x_val (r_move (en rfl (en rfl (en rfl (en rfl (en rfl (en rfl (en rfl (en rfl (en rfl (en rfl (en rfl (en rfl (en rfl (en rfl (en rfl (en rfl (en rfl (en rfl (en rfl (en rfl (en rfl s3)))))))))))))))))))))) (nd_of rfl) rfl ?_
  refine x_take (d := 78) rfl rfl (en rfl (en rfl es)) ?_
  refine x_val (r_move (en rfl (en rfl (en rfl (en rfl (en rfl (en rfl (en rfl (en rfl (en rfl (en rfl (en rfl (en rfl (en rfl (en rfl (en rfl (en rfl (en rfl (en rfl (en rfl (en rfl (en rfl (en rfl s2))))))))))))))))))))))) (nd_of rfl) rfl ?_
  refine x_take (d := 78) rfl rfl (en rfl (en rfl (en rfl es))) ?_
  refine x_val (r_move (en rfl (en rfl (en rfl (en rfl (en rfl (en rfl (en rfl (en rfl (en rfl (en rfl (en rfl (en rfl (en rfl (en rfl (en rfl (en rfl (en rfl (en rfl (en rfl (en rfl (en rfl (en rfl (en rfl s1)))))))))))))))))))))))) (nd_of rfl) rfl ?_
  refine x_take (d := 78) rfl rfl (en rfl (en rfl (en rfl (en rfl es)))) ?_
  refine x_val (r_sub (en rfl es) es (show _ = (((nj - ni : Nat) : Int) : Int) from by omega) (by unfold I64; omega)) (nd_of rfl) rfl ?_
  refine x_take (d := 78) rfl rfl (en rfl (en rfl (en rfl (en rfl (en rfl es))))) ?_
  refine x_val (r_sub (en rfl (en rfl (en rfl es))) es (show _ = (((nk - (nj - ni) : Nat) : Int) : Int) from by omega) (by unfold I64; omega)) (nd_of rfl) rfl ?_
  refine x_take (d := 78) rfl rfl (en rfl (en rfl (en rfl (en rfl (en rfl (en rfl es)))))) ?_
  refine x_val (r_move (en rfl (en rfl (en rfl (en rfl (en rfl (en rfl (en rfl (en rfl (en rfl (en rfl (en rfl (en rfl (en rfl (en rfl (en rfl (en rfl (en rfl (en rfl (en rfl (en rfl (en rfl (en rfl (en rfl (en rfl (en rfl (en rfl s4))))))))))))))))))))))))))) (nd_of rfl) rfl ?_
  refine x_take (d := 78) rfl rfl (en rfl (en rfl (en rfl (en rfl (en rfl (en rfl (en rfl es))))))) ?_
  refine x_val (r_move (en rfl (en rfl (en rfl (en rfl (en rfl (en rfl (en rfl (en rfl (en rfl (en rfl (en rfl (en rfl (en rfl (en rfl (en rfl (en rfl (en rfl (en rfl (en rfl (en rfl (en rfl (en rfl (en rfl (en rfl (en rfl (en rfl (en rfl s2)))))))))))))))))))))))))))) (nd_of rfl) rfl ?_
  refine x_take (d := 78) rfl rfl (en rfl (en rfl (en rfl (en rfl (en rfl (en rfl (en rfl (en rfl es)))))))) ?_
  refine x_val (r_move (en rfl (en rfl (en rfl (en rfl (en rfl (en rfl (en rfl (en rfl (en rfl (en rfl (en rfl (en rfl (en rfl (en rfl (en rfl (en rfl (en rfl (en rfl (en rfl (en rfl (en rfl (en rfl (en rfl (en rfl (en rfl (en rfl (en rfl (en rfl s1))))))))))))))))))))))))))))) (nd_of rfl) rfl ?_
  refine x_take (d := 78) rfl rfl (en rfl (en rfl (en rfl (en rfl (en rfl (en rfl (en rfl (en rfl (en rfl es))))))))) ?_
  refine x_val (r_sub (en rfl es) es (show _ = (((nj - ni : Nat) : Int) : Int) from by omega) (by unfold I64; omega)) (nd_of rfl) rfl ?_
  refine x_take (d := 78) rfl rfl (en rfl (en rfl (en rfl (en rfl (en rfl (en rfl (en rfl (en rfl (en rfl (en rfl es)))))))))) ?_
  refine x_val (r_sub (en rfl (en rfl (en rfl es))) es (show _ = (((nm - (nj - ni) : Nat) : Int) : Int) from by omega) (by unfold I64; omega)) (nd_of rfl) rfl ?_
  refine x_take (d := 78) rfl rfl (en rfl (en rfl (en rfl (en rfl (en rfl (en rfl (en rfl (en rfl (en rfl (en rfl (en rfl es))))))))))) ?_
  refine x_enter (r_call Try.call12 (.cons (en rfl (en rfl (en rfl (en rfl (en rfl (en rfl (en rfl (en rfl (en rfl (en rfl es)))))))))) (.cons (en rfl (en rfl (en rfl (en rfl (en rfl es))))) (.cons es .nil)))) (nd_of rfl) rfl (deleteR (B' := 3000) ⟨by omega, by omega, by rw [z2l]; omega⟩ (by rw [z2l]; omega) (by omega) (by omega) h) ?_
  rintro _ w ⟨rfl, h⟩
  rw [Int.toNat_natCast, Int.toNat_natCast, ← hlaw] at h
  obtain ⟨fs, hfs⟩ : ∃ fs, fs = (zs.take nk ++ zs.drop nm).take ni ++ (zs.take nk ++ zs.drop nm).drop nj := ⟨_, rfl⟩
  rw [← hfs] at h fl
  refine x_take (d := 78) rfl rfl (en rfl (en rfl (en rfl (en rfl (en rfl (en rfl (en rfl (en rfl (en rfl (en rfl (en rfl (en rfl es)))))))))))) ?_
  refine x_val (r_neq es ec (r := false) rfl) (nd_of rfl) rfl ?_
  refine x_val (r_pick_f (en rfl (en rfl (en rfl (en rfl (en rfl (en rfl (en rfl (en rfl (en rfl (en rfl (en rfl (en rfl (en rfl es))))))))))))) es) (nd_of rfl) rfl ?_
  refine xw_nil ?_
  refine hK8 _ _ ?_
  refine xc_gen (fun g hg => ?_)
  have s0 := (hg 0).trans (en rfl (en rfl (en rfl (en rfl (en rfl (en rfl (en rfl (en rfl (en rfl (en rfl (en rfl (en rfl (en rfl (en rfl (en rfl (en rfl (en rfl (en rfl (en rfl (en rfl (en rfl (en rfl (en rfl (en rfl (en rfl (en rfl (en rfl (en rfl (en rfl (en rfl (en rfl (en rfl (en rfl (en rfl s0))))))))))))))))))))))))))))))))))
  have s1 := (hg 1).trans (en rfl (en rfl (en rfl (en rfl (en rfl (en rfl (en rfl (en rfl (en rfl (en rfl (en rfl (en rfl (en rfl (en rfl (en rfl (en rfl (en rfl (en rfl (en rfl (en rfl (en rfl (en rfl (en rfl (en rfl (en rfl (en rfl (en rfl (en rfl (en rfl (en rfl (en rfl (en rfl (en rfl (en rfl s1))))))))))))))))))))))))))))))))))
  have s2 := (hg 2).trans (en rfl (en rfl (en rfl (en rfl (en rfl (en rfl (en rfl (en rfl (en rfl (en rfl (en rfl (en rfl (en rfl (en rfl (en rfl (en rfl (en rfl (en rfl (en rfl (en rfl (en rfl (en rfl (en rfl (en rfl (en rfl (en rfl (en rfl (en rfl (en rfl (en rfl (en rfl (en rfl (en rfl (en rfl s2))))))))))))))))))))))))))))))))))
  have s3 := (hg 3).trans (en rfl (en rfl (en rfl (en rfl (en rfl (en rfl (en rfl (en rfl (en rfl (en rfl (en rfl (en rfl (en rfl (en rfl (en rfl (en rfl (en rfl (en rfl (en rfl (en rfl (en rfl (en rfl (en rfl (en rfl (en rfl (en rfl (en rfl (en rfl (en rfl (en rfl (en rfl (en rfl (en rfl (en rfl s3))))))))))))))))))))))))))))))))))
  have s4 := (hg 4).trans (en rfl (en rfl (en rfl (en rfl (en rfl (en rfl (en rfl (en rfl (en rfl (en rfl (en rfl (en rfl (en rfl (en rfl (en rfl (en rfl (en rfl (en rfl (en rfl (en rfl (en rfl (en rfl (en rfl (en rfl (en rfl (en rfl (en rfl (en rfl (en rfl (en rfl (en rfl (en rfl (en rfl (en rfl s4))))))))))))))))))))))))))))))))))
  have s10 := (hg 10).trans (en rfl (en rfl (en rfl (en rfl (en rfl (en rfl (en rfl (en rfl (en rfl (en rfl (en rfl (en rfl (en rfl (en rfl (en rfl (en rfl (en rfl (en rfl (en rfl (en rfl (en rfl (en rfl (en rfl (en rfl (en rfl (en rfl (en rfl (en rfl (en rfl (en rfl (en rfl (en rfl (en rfl (en rfl s10))))))))))))))))))))))))))))))))))
  have s11 := (hg 11).trans (en rfl (en rfl (en rfl (en rfl (en rfl (en rfl (en rfl (en rfl (en rfl (en rfl (en rfl (en rfl (en rfl (en rfl (en rfl (en rfl (en rfl (en rfl (en rfl (en rfl (en rfl (en rfl (en rfl (en rfl (en rfl (en rfl (en rfl (en rfl (en rfl (en rfl (en rfl (en rfl (en rfl (en rfl s11))))))))))))))))))))))))))))))))))
  have s12 := (hg 12).trans (en rfl (en rfl (en rfl (en rfl (en rfl (en rfl (en rfl (en rfl (en rfl (en rfl (en rfl (en rfl (en rfl (en rfl (en rfl (en rfl (en rfl (en rfl (en rfl (en rfl (en rfl (en rfl (en rfl (en rfl (en rfl (en rfl (en rfl (en rfl (en rfl (en rfl (en rfl (en rfl (en rfl (en rfl s12))))))))))))))))))))))))))))))))))
  have s19 := (hg 19).trans (en rfl (en rfl (en rfl (en rfl (en rfl (en rfl (en rfl (en rfl (en rfl (en rfl (en rfl (en rfl (en rfl (en rfl (en rfl (en rfl (en rfl (en rfl (en rfl (en rfl (en rfl (en rfl (en rfl (en rfl (en rfl (en rfl (en rfl (en rfl (en rfl (en rfl (en rfl (en rfl (en rfl (en rfl s19))))))))))))))))))))))))))))))))))
  have s57 := (hg 57).trans (en rfl (en rfl (en rfl (en rfl (en rfl (en rfl (en rfl (en rfl (en rfl (en rfl (en rfl (en rfl (en rfl (en rfl (en rfl (en rfl (en rfl (en rfl (en rfl (en rfl (en rfl (en rfl (en rfl (en rfl (en rfl (en rfl (en rfl (en rfl (en rfl (en rfl (en rfl (en rfl (en rfl (en rfl s57))))))))))))))))))))))))))))))))))
  have s92 := (hg 92).trans es
  clear hg
  refine xc_cond s92 (fun hc => by cases hc) (fun _ => ?_)
  refine xc_skip ?_
  refine hK7 _ _ ?_
  refine xc_seq (fun K hK9 => ?_)
  refine xc_region ?_
  refine x_val (r_move s11) (nd_of rfl) rfl ?_
  refine x_val (r_move (en rfl s11)) (nd_of rfl) rfl ?_
  have h := h.f1
  refine x_enter (r_call Try.call11 (.cons es .nil)) (nd_of rfl) rfl (lenR h) ?_
  rintro _ w ⟨rfl, h⟩
  refine x_enter (r_call Try.call14 (.cons (en rfl (en rfl es)) (.cons ec (.cons es .nil)))) (nd_of rfl) rfl (slice_all (by omega) h) ?_
  rintro _ w ⟨vx, rfl, h⟩
  refine x_val (r_move es) (nd_of rfl) rfl ?_
  refine x_val (r_extract es gc0) (nd_of rfl) rfl ?_
  refine x_val (r_extract (en rfl es) gc1) (nd_of rfl) rfl ?_
  refine x_val (r_assign (en rfl es)) (nd_of rfl) rfl ?_
  refine x_val (r_assign (en rfl es)) (nd_of rfl) rfl ?_
  refine xw_nil ?_
  refine hK9 _ _ ?_
  refine xc_gen (fun g hg => ?_)
  have s0 := (hg 0).trans (en rfl (en rfl (en rfl (en rfl (en rfl (en rfl (en rfl (en rfl (en rfl s0)))))))))
  have s1 := (hg 1).trans (en rfl (en rfl (en rfl (en rfl (en rfl (en rfl (en rfl (en rfl (en rfl s1)))))))))
  have s2 := (hg 2).trans (en rfl (en rfl (en rfl (en rfl (en rfl (en rfl (en rfl (en rfl (en rfl s2)))))))))
  have s3 := (hg 3).trans (en rfl (en rfl (en rfl (en rfl (en rfl (en rfl (en rfl (en rfl (en rfl s3)))))))))
  have s4 := (hg 4).trans (en rfl (en rfl (en rfl (en rfl (en rfl (en rfl (en rfl (en rfl (en rfl s4)))))))))
  have s10 := (hg 10).trans (en rfl (en rfl (en rfl (en rfl (en rfl (en rfl (en rfl (en rfl (en rfl s10)))))))))
  have s11 := (hg 11).trans (en rfl (en rfl (en rfl (en rfl (en rfl (en rfl (en rfl (en rfl (en rfl s11)))))))))
  have s12 := (hg 12).trans (en rfl (en rfl (en rfl (en rfl (en rfl (en rfl (en rfl (en rfl (en rfl s12)))))))))
  have s13 := (hg 13).trans (en rfl es)
  have s14 := (hg 14).trans es
  have s19 := (hg 19).trans (en rfl (en rfl (en rfl (en rfl (en rfl (en rfl (en rfl (en rfl (en rfl s19)))))))))
  have s57 := (hg 57).trans (en rfl (en rfl (en rfl (en rfl (en rfl (en rfl (en rfl (en rfl (en rfl s57)))))))))
  have s92 := (hg 92).trans (en rfl (en rfl (en rfl (en rfl (en rfl (en rfl (en rfl (en rfl (en rfl s92)))))))))
  clear hg
  refine xc_seq (fun K hK10 => ?_)
  refine xc_region ?_
  refine x_val (r_move s12) (nd_of rfl) rfl ?_
  refine x_val (r_move (en rfl s12)) (nd_of rfl) rfl ?_
  have h := h.f2
  refine x_enter (r_call Try.call11 (.cons es .nil)) (nd_of rfl) rfl (lenR h) ?_
  rintro _ w ⟨rfl, h⟩
  refine x_enter (r_call Try.call14 (.cons (en rfl (en rfl es)) (.cons ec (.cons es .nil)))) (nd_of rfl) rfl (slice_all (by omega) h) ?_
  rintro _ w ⟨vy, rfl, h⟩
  obtain ⟨ax, cx, rfl, _, _⟩ := (h.f2).rowVal
  refine x_val (r_move es) (nd_of rfl) rfl ?_
  refine x_val (r_extract es gc0) (nd_of rfl) rfl ?_
  refine x_val (r_extract (en rfl es) gc1) (nd_of rfl) rfl ?_
  refine x_val (r_assign (en rfl es)) (nd_of rfl) rfl ?_
  refine x_val (r_assign (en rfl es)) (nd_of rfl) rfl ?_
  refine xw_nil ?_
  refine hK10 _ _ ?_
  refine xc_gen (fun g hg => ?_)
  have s0 := (hg 0).trans (en rfl (en rfl (en rfl (en rfl (en rfl (en rfl (en rfl (en rfl (en rfl s0)))))))))
  have s1 := (hg 1).trans (en rfl (en rfl (en rfl (en rfl (en rfl (en rfl (en rfl (en rfl (en rfl s1)))))))))
  have s2 := (hg 2).trans (en rfl (en rfl (en rfl (en rfl (en rfl (en rfl (en rfl (en rfl (en rfl s2)))))))))
  have s3 := (hg 3).trans (en rfl (en rfl (en rfl (en rfl (en rfl (en rfl (en rfl (en rfl (en rfl s3)))))))))
  have s4 := (hg 4).trans (en rfl (en rfl (en rfl (en rfl (en rfl (en rfl (en rfl (en rfl (en rfl s4)))))))))
  have s10 := (hg 10).trans (en rfl (en rfl (en rfl (en rfl (en rfl (en rfl (en rfl (en rfl (en rfl s10)))))))))
  have s11 := (hg 11).trans (en rfl (en rfl (en rfl (en rfl (en rfl (en rfl (en rfl (en rfl (en rfl s11)))))))))
  have s12 := (hg 12).trans (en rfl (en rfl (en rfl (en rfl (en rfl (en rfl (en rfl (en rfl (en rfl s12)))))))))
  have s13 := (hg 13).trans (en rfl (en rfl (en rfl (en rfl (en rfl (en rfl (en rfl (en rfl (en rfl s13)))))))))
  have s14 := (hg 14).trans (en rfl (en rfl (en rfl (en rfl (en rfl (en rfl (en rfl (en rfl (en rfl s14)))))))))
  have s15 := (hg 15).trans (en rfl es)
  have s16 := (hg 16).trans es
  have s19 := (hg 19).trans (en rfl (en rfl (en rfl (en rfl (en rfl (en rfl (en rfl (en rfl (en rfl s19)))))))))
  have s57 := (hg 57).trans (en rfl (en rfl (en rfl (en rfl (en rfl (en rfl (en rfl (en rfl (en rfl s57)))))))))
  have s92 := (hg 92).trans (en rfl (en rfl (en rfl (en rfl (en rfl (en rfl (en rfl (en rfl (en rfl s92)))))))))
  clear hg
  refine xc_seq (fun K hK11 => ?_)
  refine xc_region ?_
  refine x_val (r_move s14) (nd_of rfl) rfl ?_
  refine x_val (r_eql es ec (r := true) rfl) (nd_of rfl) rfl ?_
  refine x_val (r_move es) (nd_of rfl) rfl ?_
  refine x_take (d := 109) rfl rfl es ?_
  refine x_val (r_move (en rfl (en rfl (en rfl s16)))) (nd_of rfl) rfl ?_
  refine x_take (d := 109) rfl rfl (en rfl es) ?_
  refine x_val (r_eql es ec (r := true) rfl) (nd_of rfl) rfl ?_
  refine x_val (r_pick_t (en rfl (en rfl es)) es) (nd_of rfl) rfl ?_
  refine x_val (r_move es) (nd_of rfl) rfl ?_
  refine x_take (d := 113) rfl rfl es ?_
  refine x_val (r_move (en rfl (en rfl (en rfl (en rfl (en rfl (en rfl (en rfl s13)))))))) (nd_of rfl) rfl ?_
  refine x_take (d := 113) rfl rfl (en rfl es) ?_
  refine x_val (r_move (en rfl (en rfl (en rfl (en rfl (en rfl (en rfl (en rfl (en rfl s15))))))))) (nd_of rfl) rfl ?_
  refine x_take (d := 113) rfl rfl (en rfl (en rfl es)) ?_
  refine x_enter (r_call Try.call15 (.cons (en rfl es) (.cons es .nil))) (nd_of rfl) rfl (same_yes (zs := fs) (fun w h => rowReads w (h.f2)) rowReads (by omega) h) ?_
  rintro _ w ⟨rfl, h⟩
  refine x_val (r_pick_t (en rfl (en rfl (en rfl es))) es) (nd_of rfl) rfl ?_
  refine x_val (r_move es) (nd_of rfl) rfl ?_
  refine x_take (d := 118) rfl rfl es ?_
  refine x_val (r_move (en rfl (en rfl (en rfl (en rfl (en rfl (en rfl (en rfl (en rfl (en rfl (en rfl (en rfl (en rfl s13))))))))))))) (nd_of rfl) rfl ?_
  refine x_take (d := 118) rfl rfl (en rfl es) ?_
  refine x_val (r_len Try.underlying23 es) (nd_of rfl) rfl ?_
  refine x_take (d := 118) rfl rfl (en rfl (en rfl es)) ?_
  refine x_val (r_move (en rfl (en rfl (en rfl (en rfl (en rfl (en rfl (en rfl (en rfl (en rfl (en rfl (en rfl (en rfl (en rfl (en rfl s0))))))))))))))) (nd_of rfl) rfl ?_
  refine x_take (d := 118) rfl rfl (en rfl (en rfl (en rfl es))) ?_
  refine x_val (r_len Try.underlying23 es) (nd_of rfl) rfl ?_
  refine x_take (d := 118) rfl rfl (en rfl (en rfl (en rfl (en rfl es)))) ?_
  refine x_val (r_move (en rfl (en rfl (en rfl (en rfl (en rfl (en rfl (en rfl (en rfl (en rfl (en rfl (en rfl (en rfl (en rfl (en rfl (en rfl (en rfl s2))))))))))))))))) (nd_of rfl) rfl ?_
  refine x_take (d := 118) rfl rfl (en rfl (en rfl (en rfl (en rfl (en rfl es))))) ?_
  refine x_val (r_move (en rfl (en rfl (en rfl (en rfl (en rfl (en rfl (en rfl (en rfl (en rfl (en rfl (en rfl (en rfl (en rfl (en rfl (en rfl (en rfl (en rfl s1)))))))))))))))))) (nd_of rfl) rfl ?_
  refine x_take (d := 118) rfl rfl (en rfl (en rfl (en rfl (en rfl (en rfl (en rfl es)))))) ?_
  refine x_val (r_sub (en rfl es) es (show _ = (((nj - ni : Nat) : Int) : Int) from by omega) (by unfold I64; omega)) (nd_of rfl) rfl ?_
  refine x_take (d := 118) rfl rfl (en rfl (en rfl (en rfl (en rfl (en rfl (en rfl (en rfl es))))))) ?_
  refine x_val (r_sub (en rfl (en rfl (en rfl es))) es (show _ = (((zs.length - (nj - ni) : Nat) : Int) : Int) from by omega) (by unfold I64; omega)) (nd_of rfl) rfl ?_
  refine x_take (d := 118) rfl rfl (en rfl (en rfl (en rfl (en rfl (en rfl (en rfl (en rfl (en rfl es)))))))) ?_
  refine x_val (r_move (en rfl (en rfl (en rfl (en rfl (en rfl (en rfl (en rfl (en rfl (en rfl (en rfl (en rfl (en rfl (en rfl (en rfl (en rfl (en rfl (en rfl (en rfl (en rfl (en rfl s4))))))))))))))))))))) (nd_of rfl) rfl ?_
  refine x_take (d := 118) rfl rfl (en rfl (en rfl (en rfl (en rfl (en rfl (en rfl (en rfl (en rfl (en rfl es))))))))) ?_
  refine x_val (r_move (en rfl (en rfl (en rfl (en rfl (en rfl (en rfl (en rfl (en rfl (en rfl (en rfl (en rfl (en rfl (en rfl (en rfl (en rfl (en rfl (en rfl (en rfl (en rfl (en rfl (en rfl s3)))))))))))))))))))))) (nd_of rfl) rfl ?_
  refine x_take (d := 118) rfl rfl (en rfl (en rfl (en rfl (en rfl (en rfl (en rfl (en rfl (en rfl (en rfl (en rfl es)))))))))) ?_
  refine x_val (r_sub (en rfl es) es (show _ = (((nm - nk : Nat) : Int) : Int) from by omega) (by unfold I64; omega)) (nd_of rfl) rfl ?_
  refine x_take (d := 118) rfl rfl (en rfl (en rfl (en rfl (en rfl (en rfl (en rfl (en rfl (en rfl (en rfl (en rfl (en rfl es))))))))))) ?_
  refine x_val (r_sub (en rfl (en rfl (en rfl es))) es (show _ = (((zs.length - (nm - nk) - (nj - ni) : Nat) : Int) : Int) from by omega) (by unfold I64; omega)) (nd_of rfl) rfl ?_
  refine x_take (d := 118) rfl rfl (en rfl (en rfl (en rfl (en rfl (en rfl (en rfl (en rfl (en rfl (en rfl (en rfl (en rfl (en rfl es)))))))))))) ?_
  refine x_val (r_eql (en rfl (en rfl (en rfl (en rfl (en rfl (en rfl (en rfl (en rfl (en rfl (en rfl es)))))))))) es (decide_eq_true (by omega))) (nd_of rfl) rfl ?_
  refine x_val (r_pick_t (en rfl (en rfl (en rfl (en rfl (en rfl (en rfl (en rfl (en rfl (en rfl (en rfl (en rfl (en rfl (en rfl es))))))))))))) es) (nd_of rfl) rfl ?_
  refine x_val (r_move es) (nd_of rfl) rfl ?_
  refine x_take (d := 133) rfl rfl es ?_
  refine x_enter (r_call Try.call10 .nil) (nd_of rfl) rfl (known_ok h) ?_
  rintro _ w ⟨rfl, h⟩
  refine x_val (r_pick_t (en rfl es) es) (nd_of rfl) rfl ?_
  refine x_val (r_assign es) (nd_of rfl) rfl ?_
  refine xw_nil ?_
  refine hK11 _ _ ?_
  refine xc_gen (fun g hg => ?_)
  have s0 := (hg 0).trans (en rfl (en rfl (en rfl (en rfl (en rfl (en rfl (en rfl (en rfl (en rfl (en rfl (en rfl (en rfl (en rfl (en rfl (en rfl (en rfl (en rfl (en rfl (en rfl (en rfl (en rfl (en rfl (en rfl (en rfl (en rfl (en rfl (en rfl (en rfl (en rfl (en rfl s0))))))))))))))))))))))))))))))
  have s1 := (hg 1).trans (en rfl (en rfl (en rfl (en rfl (en rfl (en rfl (en rfl (en rfl (en rfl (en rfl (en rfl (en rfl (en rfl (en rfl (en rfl (en rfl (en rfl (en rfl (en rfl (en rfl (en rfl (en rfl (en rfl (en rfl (en rfl (en rfl (en rfl (en rfl (en rfl (en rfl s1))))))))))))))))))))))))))))))
  have s2 := (hg 2).trans (en rfl (en rfl (en rfl (en rfl (en rfl (en rfl (en rfl (en rfl (en rfl (en rfl (en rfl (en rfl (en rfl (en rfl (en rfl (en rfl (en rfl (en rfl (en rfl (en rfl (en rfl (en rfl (en rfl (en rfl (en rfl (en rfl (en rfl (en rfl (en rfl (en rfl s2))))))))))))))))))))))))))))))
  have s3 := (hg 3).trans (en rfl (en rfl (en rfl (en rfl (en rfl (en rfl (en rfl (en rfl (en rfl (en rfl (en rfl (en rfl (en rfl (en rfl (en rfl (en rfl (en rfl (en rfl (en rfl (en rfl (en rfl (en rfl (en rfl (en rfl (en rfl (en rfl (en rfl (en rfl (en rfl (en rfl s3))))))))))))))))))))))))))))))
  have s4 := (hg 4).trans (en rfl (en rfl (en rfl (en rfl (en rfl (en rfl (en rfl (en rfl (en rfl (en rfl (en rfl (en rfl (en rfl (en rfl (en rfl (en rfl (en rfl (en rfl (en rfl (en rfl (en rfl (en rfl (en rfl (en rfl (en rfl (en rfl (en rfl (en rfl (en rfl (en rfl s4))))))))))))))))))))))))))))))
  have s10 := (hg 10).trans es
  have s11 := (hg 11).trans (en rfl (en rfl (en rfl (en rfl (en rfl (en rfl (en rfl (en rfl (en rfl (en rfl (en rfl (en rfl (en rfl (en rfl (en rfl (en rfl (en rfl (en rfl (en rfl (en rfl (en rfl (en rfl (en rfl (en rfl (en rfl (en rfl (en rfl (en rfl (en rfl (en rfl s11))))))))))))))))))))))))))))))
  have s12 := (hg 12).trans (en rfl (en rfl (en rfl (en rfl (en rfl (en rfl (en rfl (en rfl (en rfl (en rfl (en rfl (en rfl (en rfl (en rfl (en rfl (en rfl (en rfl (en rfl (en rfl (en rfl (en rfl (en rfl (en rfl (en rfl (en rfl (en rfl (en rfl (en rfl (en rfl (en rfl s12))))))))))))))))))))))))))))))
  have s13 := (hg 13).trans (en rfl (en rfl (en rfl (en rfl (en rfl (en rfl (en rfl (en rfl (en rfl (en rfl (en rfl (en rfl (en rfl (en rfl (en rfl (en rfl (en rfl (en rfl (en rfl (en rfl (en rfl (en rfl (en rfl (en rfl (en rfl (en rfl (en rfl (en rfl (en rfl (en rfl s13))))))))))))))))))))))))))))))
  have s14 := (hg 14).trans (en rfl (en rfl (en rfl (en rfl (en rfl (en rfl (en rfl (en rfl (en rfl (en rfl (en rfl (en rfl (en rfl (en rfl (en rfl (en rfl (en rfl (en rfl (en rfl (en rfl (en rfl (en rfl (en rfl (en rfl (en rfl (en rfl (en rfl (en rfl (en rfl (en rfl s14))))))))))))))))))))))))))))))
  have s15 := (hg 15).trans (en rfl (en rfl (en rfl (en rfl (en rfl (en rfl (en rfl (en rfl (en rfl (en rfl (en rfl (en rfl (en rfl (en rfl (en rfl (en rfl (en rfl (en rfl (en rfl (en rfl (en rfl (en rfl (en rfl (en rfl (en rfl (en rfl (en rfl (en rfl (en rfl (en rfl s15))))))))))))))))))))))))))))))
  have s16 := (hg 16).trans (en rfl (en rfl (en rfl (en rfl (en rfl (en rfl (en rfl (en rfl (en rfl (en rfl (en rfl (en rfl (en rfl (en rfl (en rfl (en rfl (en rfl (en rfl (en rfl (en rfl (en rfl (en rfl (en rfl (en rfl (en rfl (en rfl (en rfl (en rfl (en rfl (en rfl s16))))))))))))))))))))))))))))))
  have s19 := (hg 19).trans (en rfl (en rfl (en rfl (en rfl (en rfl (en rfl (en rfl (en rfl (en rfl (en rfl (en rfl (en rfl (en rfl (en rfl (en rfl (en rfl (en rfl (en rfl (en rfl (en rfl (en rfl (en rfl (en rfl (en rfl (en rfl (en rfl (en rfl (en rfl (en rfl (en rfl s19))))))))))))))))))))))))))))))
  have s57 := (hg 57).trans (en rfl (en rfl (en rfl (en rfl (en rfl (en rfl (en rfl (en rfl (en rfl (en rfl (en rfl (en rfl (en rfl (en rfl (en rfl (en rfl (en rfl (en rfl (en rfl (en rfl (en rfl (en rfl (en rfl (en rfl (en rfl (en rfl (en rfl (en rfl (en rfl (en rfl s57))))))))))))))))))))))))))))))
  have s92 := (hg 92).trans (en rfl (en rfl (en rfl (en rfl (en rfl (en rfl (en rfl (en rfl (en rfl (en rfl (en rfl (en rfl (en rfl (en rfl (en rfl (en rfl (en rfl (en rfl (en rfl (en rfl (en rfl (en rfl (en rfl (en rfl (en rfl (en rfl (en rfl (en rfl (en rfl (en rfl s92))))))))))))))))))))))))))))))
  clear hg
  refine xc_ret ?_
  refine bodyR_1 rfl s10 ?_
  exact ⟨rfl, h.drop.drop.drop.drop⟩
end
end Go.Proofs.Ytmfkhfmidnojhaa
