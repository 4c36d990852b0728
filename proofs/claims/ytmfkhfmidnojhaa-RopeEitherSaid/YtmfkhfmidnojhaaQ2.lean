/-
RopeEither: the walk.
-/
import Derived.Test.YtmfkhfmidnojhaaQ0
namespace Go.Proofs.Ytmfkhfmidnojhaa
open Go Go.RowKit
theorem either_law {zs xa xb : List Int} {i j : Nat} (hij : i ≤ j) (hj : j ≤ zs.length) :
    (zs.take j ++ (xb ++ zs.drop j)).take i ++ (xa ++ (zs.take j ++ (xb ++ zs.drop j)).drop i) = (zs.take i ++ (xa ++ zs.drop i)).take (j + xa.length) ++ (xb ++ (zs.take i ++ (xa ++ zs.drop i)).drop (j + xa.length)) := by
  obtain ⟨A, B, C, rfl, rfl, hB⟩ : ∃ A B C : List Int, zs = A ++ (B ++ C) ∧ A.length = i ∧ B.length = j - i :=
    ⟨zs.take i, (zs.drop i).take (j - i), zs.drop j, by rw [← List.drop_drop.trans (show zs.drop (i + (j - i)) = zs.drop j by rw [show i + (j - i) = j by omega]), List.take_append_drop, List.take_append_drop], by rw [List.length_take]; omega, by rw [List.length_take, List.length_drop]; omega⟩
  obtain rfl : j = A.length + B.length := by omega
  have e1 : (A ++ (B ++ C)).take (A.length + B.length) = A ++ B := by rw [← List.append_assoc, ← List.length_append, List.take_left]
  have e2 : (A ++ (B ++ C)).drop (A.length + B.length) = C := by rw [← List.append_assoc, ← List.length_append, List.drop_left]
  have e5 : (A ++ (xa ++ (B ++ C))) = (A ++ xa ++ B) ++ C := by simp
  have e6 : A.length + B.length + xa.length = (A ++ xa ++ B).length := by simp; omega
  rw [e1, e2, List.take_left, List.drop_left, e5, e6, List.take_left, List.drop_left, List.append_assoc, List.take_left, List.drop_left]
  simp
section
variable {E : Env} {R : List SProp} {w : World} {zs xa xb : List Int} {v va vb : Value}
theorem either_all {i j : Int} (hv : Reads E R v .i32 zs) (hva : Reads E R va .i32 xa) (hvb : Reads E R vb .i32 xb) (hi : I64 i) (hj : I64 j) (h : SatL E w R) : Calls Try.prog 6 #[v, va, vb, .int .i64 i, .int .i64 j] w (Ret fun u w' => u = .bool true ∧ SatL E w' R) := by
  obtain ⟨a1, cap1, rfl, _, _⟩ := hv.slice h
  obtain ⟨a2, cap2, rfl, _, _⟩ := hva.slice h
  obtain ⟨a3, cap3, rfl, _, _⟩ := hvb.slice h
  unfold I64 at hi hj
  rcases Nat.lt_or_ge 1000 zs.length with h1 | h1
  · skip
    refine calls_x Try.func6 rfl Try.ntmps6 rfl ?_
    refine xc_gen (fun g hg => ?_)
    have s0 := (hg 0).trans arg0
    have s1 := (hg 1).trans arg1
    have s2 := (hg 2).trans arg2
    have s3 := (hg 3).trans arg3
    have s4 := (hg 4).trans arg4
    clear hg
    refine xc_seq (fun K hK1 => ?_)
    refine xc_region ?_
    refine x_val (r_assign ec) (nd_of rfl) rfl ?_
    refine xw_nil ?_
    refine hK1 _ _ ?_
    refine xc_gen (fun g hg => ?_)
    have s0 := (hg 0).trans (en rfl s0)
    have s1 := (hg 1).trans (en rfl s1)
    have s2 := (hg 2).trans (en rfl s2)
    have s3 := (hg 3).trans (en rfl s3)
    have s4 := (hg 4).trans (en rfl s4)
    have s10 := (hg 10).trans es
    clear hg
    refine xc_seq (fun K hK2 => ?_)
    refine xc_seq (fun K hK3 => ?_)
    refine xc_region ?_
    refine x_val (r_move s0) (nd_of rfl) rfl ?_
    refine x_val (r_len Try.underlying23 es) (nd_of rfl) rfl ?_
    refine x_val (r_gtr es ec (decide_eq_true (by omega))) (nd_of rfl) rfl ?_
    refine x_val (r_move es) (nd_of rfl) rfl ?_
    refine x_pass (d := 20) rfl rfl es rfl ?_
    refine x_pass (d := 20) rfl rfl (en rfl es) rfl ?_
    refine x_pass (d := 20) rfl rfl (en rfl (en rfl es)) rfl ?_
    refine x_val (r_pick_t (en rfl (en rfl (en rfl es))) ec) (nd_of rfl) rfl ?_
    refine x_val (r_move es) (nd_of rfl) rfl ?_
    refine x_pass (d := 25) rfl rfl es rfl ?_
    refine x_pass (d := 25) rfl rfl (en rfl es) rfl ?_
    refine x_pass (d := 25) rfl rfl (en rfl (en rfl es)) rfl ?_
    refine x_val (r_pick_t (en rfl (en rfl (en rfl es))) ec) (nd_of rfl) rfl ?_
    refine xw_nil ?_
    refine hK3 _ _ ?_
    refine xc_gen (fun g hg => ?_)
    have s0 := (hg 0).trans (en rfl (en rfl (en rfl (en rfl (en rfl (en rfl (en rfl (en rfl (en rfl (en rfl (en rfl (en rfl (en rfl s0)))))))))))))
    have s1 := (hg 1).trans (en rfl (en rfl (en rfl (en rfl (en rfl (en rfl (en rfl (en rfl (en rfl (en rfl (en rfl (en rfl (en rfl s1)))))))))))))
    have s2 := (hg 2).trans (en rfl (en rfl (en rfl (en rfl (en rfl (en rfl (en rfl (en rfl (en rfl (en rfl (en rfl (en rfl (en rfl s2)))))))))))))
    have s3 := (hg 3).trans (en rfl (en rfl (en rfl (en rfl (en rfl (en rfl (en rfl (en rfl (en rfl (en rfl (en rfl (en rfl (en rfl s3)))))))))))))
    have s4 := (hg 4).trans (en rfl (en rfl (en rfl (en rfl (en rfl (en rfl (en rfl (en rfl (en rfl (en rfl (en rfl (en rfl (en rfl s4)))))))))))))
    have s10 := (hg 10).trans (en rfl (en rfl (en rfl (en rfl (en rfl (en rfl (en rfl (en rfl (en rfl (en rfl (en rfl (en rfl (en rfl s10)))))))))))))
    have s29 := (hg 29).trans es
    clear hg
    refine xc_cond s29 (fun _ => ?_) (fun hc => by cases hc)
    refine xc_seq (fun K hK4 => ?_)
    refine xc_region ?_
    refine x_enter (r_call Try.call10 .nil) (nd_of rfl) rfl (known_ok h) ?_
    rintro _ w ⟨rfl, h⟩
    refine x_val (r_assign es) (nd_of rfl) rfl ?_
    refine xw_nil ?_
    refine hK4 _ _ ?_
    refine xc_gen (fun g hg => ?_)
    have s0 := (hg 0).trans (en rfl (en rfl s0))
    have s1 := (hg 1).trans (en rfl (en rfl s1))
    have s2 := (hg 2).trans (en rfl (en rfl s2))
    have s3 := (hg 3).trans (en rfl (en rfl s3))
    have s4 := (hg 4).trans (en rfl (en rfl s4))
    have s10 := (hg 10).trans es
    have s29 := (hg 29).trans (en rfl (en rfl s29))
    clear hg
    refine xc_ret ?_
    refine bodyR_1 rfl s10 ?_
    exact ⟨rfl, h⟩
  rcases Nat.lt_or_ge 300 xa.length with h2 | h2
  · skip
    refine calls_x Try.func6 rfl Try.ntmps6 rfl ?_
    refine xc_gen (fun g hg => ?_)
    have s0 := (hg 0).trans arg0
    have s1 := (hg 1).trans arg1
    have s2 := (hg 2).trans arg2
    have s3 := (hg 3).trans arg3
    have s4 := (hg 4).trans arg4
    clear hg
    refine xc_seq (fun K hK1 => ?_)
    refine xc_region ?_
    refine x_val (r_assign ec) (nd_of rfl) rfl ?_
    refine xw_nil ?_
    refine hK1 _ _ ?_
    refine xc_gen (fun g hg => ?_)
    have s0 := (hg 0).trans (en rfl s0)
    have s1 := (hg 1).trans (en rfl s1)
    have s2 := (hg 2).trans (en rfl s2)
    have s3 := (hg 3).trans (en rfl s3)
    have s4 := (hg 4).trans (en rfl s4)
    have s10 := (hg 10).trans es
    clear hg
    refine xc_seq (fun K hK2 => ?_)
    refine xc_seq (fun K hK3 => ?_)
    refine xc_region ?_
    refine x_val (r_move s0) (nd_of rfl) rfl ?_
    refine x_val (r_len Try.underlying23 es) (nd_of rfl) rfl ?_
    refine x_val (r_gtr es ec (decide_eq_false (by omega))) (nd_of rfl) rfl ?_
    refine x_val (r_move es) (nd_of rfl) rfl ?_
    refine x_take (d := 20) rfl rfl es ?_
    refine x_val (r_move (en rfl (en rfl (en rfl (en rfl s1))))) (nd_of rfl) rfl ?_
    refine x_take (d := 20) rfl rfl (en rfl es) ?_
    refine x_val (r_len Try.underlying23 es) (nd_of rfl) rfl ?_
    refine x_take (d := 20) rfl rfl (en rfl (en rfl es)) ?_
    refine x_val (r_gtr es ec (decide_eq_true (by omega))) (nd_of rfl) rfl ?_
    refine x_val (r_pick_f (en rfl (en rfl (en rfl es))) es) (nd_of rfl) rfl ?_
    refine x_val (r_move es) (nd_of rfl) rfl ?_
    refine x_pass (d := 25) rfl rfl es rfl ?_
    refine x_pass (d := 25) rfl rfl (en rfl es) rfl ?_
    refine x_pass (d := 25) rfl rfl (en rfl (en rfl es)) rfl ?_
    refine x_val (r_pick_t (en rfl (en rfl (en rfl es))) ec) (nd_of rfl) rfl ?_
    refine xw_nil ?_
    refine hK3 _ _ ?_
    refine xc_gen (fun g hg => ?_)
    have s0 := (hg 0).trans (en rfl (en rfl (en rfl (en rfl (en rfl (en rfl (en rfl (en rfl (en rfl (en rfl (en rfl (en rfl (en rfl s0)))))))))))))
    have s1 := (hg 1).trans (en rfl (en rfl (en rfl (en rfl (en rfl (en rfl (en rfl (en rfl (en rfl (en rfl (en rfl (en rfl (en rfl s1)))))))))))))
    have s2 := (hg 2).trans (en rfl (en rfl (en rfl (en rfl (en rfl (en rfl (en rfl (en rfl (en rfl (en rfl (en rfl (en rfl (en rfl s2)))))))))))))
    have s3 := (hg 3).trans (en rfl (en rfl (en rfl (en rfl (en rfl (en rfl (en rfl (en rfl (en rfl (en rfl (en rfl (en rfl (en rfl s3)))))))))))))
    have s4 := (hg 4).trans (en rfl (en rfl (en rfl (en rfl (en rfl (en rfl (en rfl (en rfl (en rfl (en rfl (en rfl (en rfl (en rfl s4)))))))))))))
    have s10 := (hg 10).trans (en rfl (en rfl (en rfl (en rfl (en rfl (en rfl (en rfl (en rfl (en rfl (en rfl (en rfl (en rfl (en rfl s10)))))))))))))
    have s29 := (hg 29).trans es
    clear hg
    refine xc_cond s29 (fun _ => ?_) (fun hc => by cases hc)
    refine xc_seq (fun K hK4 => ?_)
    refine xc_region ?_
    refine x_enter (r_call Try.call10 .nil) (nd_of rfl) rfl (known_ok h) ?_
    rintro _ w ⟨rfl, h⟩
    refine x_val (r_assign es) (nd_of rfl) rfl ?_
    refine xw_nil ?_
    refine hK4 _ _ ?_
    refine xc_gen (fun g hg => ?_)
    have s0 := (hg 0).trans (en rfl (en rfl s0))
    have s1 := (hg 1).trans (en rfl (en rfl s1))
    have s2 := (hg 2).trans (en rfl (en rfl s2))
    have s3 := (hg 3).trans (en rfl (en rfl s3))
    have s4 := (hg 4).trans (en rfl (en rfl s4))
    have s10 := (hg 10).trans es
    have s29 := (hg 29).trans (en rfl (en rfl s29))
    clear hg
    refine xc_ret ?_
    refine bodyR_1 rfl s10 ?_
    exact ⟨rfl, h⟩
  rcases Nat.lt_or_ge 300 xb.length with h3 | h3
  · skip
    refine calls_x Try.func6 rfl Try.ntmps6 rfl ?_
    refine xc_gen (fun g hg => ?_)
    have s0 := (hg 0).trans arg0
    have s1 := (hg 1).trans arg1
    have s2 := (hg 2).trans arg2
    have s3 := (hg 3).trans arg3
    have s4 := (hg 4).trans arg4
    clear hg
    refine xc_seq (fun K hK1 => ?_)
    refine xc_region ?_
    refine x_val (r_assign ec) (nd_of rfl) rfl ?_
    refine xw_nil ?_
    refine hK1 _ _ ?_
    refine xc_gen (fun g hg => ?_)
    have s0 := (hg 0).trans (en rfl s0)
    have s1 := (hg 1).trans (en rfl s1)
    have s2 := (hg 2).trans (en rfl s2)
    have s3 := (hg 3).trans (en rfl s3)
    have s4 := (hg 4).trans (en rfl s4)
    have s10 := (hg 10).trans es
    clear hg
    refine xc_seq (fun K hK2 => ?_)
    refine xc_seq (fun K hK3 => ?_)
    refine xc_region ?_
    refine x_val (r_move s0) (nd_of rfl) rfl ?_
    refine x_val (r_len Try.underlying23 es) (nd_of rfl) rfl ?_
    refine x_val (r_gtr es ec (decide_eq_false (by omega))) (nd_of rfl) rfl ?_
    refine x_val (r_move es) (nd_of rfl) rfl ?_
    refine x_take (d := 20) rfl rfl es ?_
    refine x_val (r_move (en rfl (en rfl (en rfl (en rfl s1))))) (nd_of rfl) rfl ?_
    refine x_take (d := 20) rfl rfl (en rfl es) ?_
    refine x_val (r_len Try.underlying23 es) (nd_of rfl) rfl ?_
    refine x_take (d := 20) rfl rfl (en rfl (en rfl es)) ?_
    refine x_val (r_gtr es ec (decide_eq_false (by omega))) (nd_of rfl) rfl ?_
    refine x_val (r_pick_f (en rfl (en rfl (en rfl es))) es) (nd_of rfl) rfl ?_
    refine x_val (r_move es) (nd_of rfl) rfl ?_
    refine x_take (d := 25) rfl rfl es ?_
    refine x_val (r_move (en rfl (en rfl (en rfl (en rfl (en rfl (en rfl (en rfl (en rfl (en rfl s2)))))))))) (nd_of rfl) rfl ?_
    refine x_take (d := 25) rfl rfl (en rfl es) ?_
    refine x_val (r_len Try.underlying23 es) (nd_of rfl) rfl ?_
    refine x_take (d := 25) rfl rfl (en rfl (en rfl es)) ?_
    refine x_val (r_gtr es ec (decide_eq_true (by omega))) (nd_of rfl) rfl ?_
    refine x_val (r_pick_f (en rfl (en rfl (en rfl es))) es) (nd_of rfl) rfl ?_
    refine xw_nil ?_
    refine hK3 _ _ ?_
    refine xc_gen (fun g hg => ?_)
    have s0 := (hg 0).trans (en rfl (en rfl (en rfl (en rfl (en rfl (en rfl (en rfl (en rfl (en rfl (en rfl (en rfl (en rfl (en rfl s0)))))))))))))
    have s1 := (hg 1).trans (en rfl (en rfl (en rfl (en rfl (en rfl (en rfl (en rfl (en rfl (en rfl (en rfl (en rfl (en rfl (en rfl s1)))))))))))))
    have s2 := (hg 2).trans (en rfl (en rfl (en rfl (en rfl (en rfl (en rfl (en rfl (en rfl (en rfl (en rfl (en rfl (en rfl (en rfl s2)))))))))))))
    have s3 := (hg 3).trans (en rfl (en rfl (en rfl (en rfl (en rfl (en rfl (en rfl (en rfl (en rfl (en rfl (en rfl (en rfl (en rfl s3)))))))))))))
    have s4 := (hg 4).trans (en rfl (en rfl (en rfl (en rfl (en rfl (en rfl (en rfl (en rfl (en rfl (en rfl (en rfl (en rfl (en rfl s4)))))))))))))
    have s10 := (hg 10).trans (en rfl (en rfl (en rfl (en rfl (en rfl (en rfl (en rfl (en rfl (en rfl (en rfl (en rfl (en rfl (en rfl s10)))))))))))))
    have s29 := (hg 29).trans es
    clear hg
    refine xc_cond s29 (fun _ => ?_) (fun hc => by cases hc)
    refine xc_seq (fun K hK4 => ?_)
    refine xc_region ?_
    refine x_enter (r_call Try.call10 .nil) (nd_of rfl) rfl (known_ok h) ?_
    rintro _ w ⟨rfl, h⟩
    refine x_val (r_assign es) (nd_of rfl) rfl ?_
    refine xw_nil ?_
    refine hK4 _ _ ?_
    refine xc_gen (fun g hg => ?_)
    have s0 := (hg 0).trans (en rfl (en rfl s0))
    have s1 := (hg 1).trans (en rfl (en rfl s1))
    have s2 := (hg 2).trans (en rfl (en rfl s2))
    have s3 := (hg 3).trans (en rfl (en rfl s3))
    have s4 := (hg 4).trans (en rfl (en rfl s4))
    have s10 := (hg 10).trans es
    have s29 := (hg 29).trans (en rfl (en rfl s29))
    clear hg
    refine xc_ret ?_
    refine bodyR_1 rfl s10 ?_
    exact ⟨rfl, h⟩
  by_cases he : insE [] zs 0 = 0
  case neg =>
    refine calls_x Try.func6 rfl Try.ntmps6 rfl ?_
    refine xc_gen (fun g hg => ?_)
    have s0 := (hg 0).trans arg0
    have s1 := (hg 1).trans arg1
    have s2 := (hg 2).trans arg2
    have s3 := (hg 3).trans arg3
    have s4 := (hg 4).trans arg4
    clear hg
    refine xc_seq (fun K hK1 => ?_)
    refine xc_region ?_
    refine x_val (r_assign ec) (nd_of rfl) rfl ?_
    refine xw_nil ?_
    refine hK1 _ _ ?_
    refine xc_gen (fun g hg => ?_)
    have s0 := (hg 0).trans (en rfl s0)
    have s1 := (hg 1).trans (en rfl s1)
    have s2 := (hg 2).trans (en rfl s2)
    have s3 := (hg 3).trans (en rfl s3)
    have s4 := (hg 4).trans (en rfl s4)
    have s10 := (hg 10).trans es
    clear hg
    refine xc_seq (fun K hK2 => ?_)
    refine xc_seq (fun K hK3 => ?_)
    refine xc_region ?_
    refine x_val (r_move s0) (nd_of rfl) rfl ?_
    refine x_val (r_len Try.underlying23 es) (nd_of rfl) rfl ?_
    refine x_val (r_gtr es ec (decide_eq_false (by omega))) (nd_of rfl) rfl ?_
    refine x_val (r_move es) (nd_of rfl) rfl ?_
    refine x_take (d := 20) rfl rfl es ?_
    refine x_val (r_move (en rfl (en rfl (en rfl (en rfl s1))))) (nd_of rfl) rfl ?_
    refine x_take (d := 20) rfl rfl (en rfl es) ?_
    refine x_val (r_len Try.underlying23 es) (nd_of rfl) rfl ?_
    refine x_take (d := 20) rfl rfl (en rfl (en rfl es)) ?_
    refine x_val (r_gtr es ec (decide_eq_false (by omega))) (nd_of rfl) rfl ?_
    refine x_val (r_pick_f (en rfl (en rfl (en rfl es))) es) (nd_of rfl) rfl ?_
    refine x_val (r_move es) (nd_of rfl) rfl ?_
    refine x_take (d := 25) rfl rfl es ?_
    refine x_val (r_move (en rfl (en rfl (en rfl (en rfl (en rfl (en rfl (en rfl (en rfl (en rfl s2)))))))))) (nd_of rfl) rfl ?_
    refine x_take (d := 25) rfl rfl (en rfl es) ?_
    refine x_val (r_len Try.underlying23 es) (nd_of rfl) rfl ?_
    refine x_take (d := 25) rfl rfl (en rfl (en rfl es)) ?_
    refine x_val (r_gtr es ec (decide_eq_false (by omega))) (nd_of rfl) rfl ?_
    refine x_val (r_pick_f (en rfl (en rfl (en rfl es))) es) (nd_of rfl) rfl ?_
    refine xw_nil ?_
    refine hK3 _ _ ?_
    refine xc_gen (fun g hg => ?_)
    have s0 := (hg 0).trans (en rfl (en rfl (en rfl (en rfl (en rfl (en rfl (en rfl (en rfl (en rfl (en rfl (en rfl (en rfl (en rfl s0)))))))))))))
    have s1 := (hg 1).trans (en rfl (en rfl (en rfl (en rfl (en rfl (en rfl (en rfl (en rfl (en rfl (en rfl (en rfl (en rfl (en rfl s1)))))))))))))
    have s2 := (hg 2).trans (en rfl (en rfl (en rfl (en rfl (en rfl (en rfl (en rfl (en rfl (en rfl (en rfl (en rfl (en rfl (en rfl s2)))))))))))))
    have s3 := (hg 3).trans (en rfl (en rfl (en rfl (en rfl (en rfl (en rfl (en rfl (en rfl (en rfl (en rfl (en rfl (en rfl (en rfl s3)))))))))))))
    have s4 := (hg 4).trans (en rfl (en rfl (en rfl (en rfl (en rfl (en rfl (en rfl (en rfl (en rfl (en rfl (en rfl (en rfl (en rfl s4)))))))))))))
    have s10 := (hg 10).trans (en rfl (en rfl (en rfl (en rfl (en rfl (en rfl (en rfl (en rfl (en rfl (en rfl (en rfl (en rfl (en rfl s10)))))))))))))
    have s29 := (hg 29).trans es
    clear hg
    refine xc_cond s29 (fun hc => by cases hc) (fun _ => ?_)
    refine xc_skip ?_
    refine hK2 _ _ ?_
    refine xc_seq (fun K hK4 => ?_)
    refine xc_region ?_
    refine x_enter (r_call Try.call9 .nil) (nd_of rfl) rfl (newR h) ?_
    rintro _ w ⟨b, rfl, h⟩
    refine x_enter (r_call Try.call9 .nil) (nd_of rfl) rfl (newR h) ?_
    rintro _ w ⟨q, rfl, h⟩
    refine x_val (r_assign (en rfl es)) (nd_of rfl) rfl ?_
    refine x_val (r_assign (en rfl es)) (nd_of rfl) rfl ?_
    refine xw_nil ?_
    refine hK4 _ _ ?_
    refine xc_gen (fun g hg => ?_)
    have s0 := (hg 0).trans (en rfl (en rfl (en rfl (en rfl s0))))
    have s1 := (hg 1).trans (en rfl (en rfl (en rfl (en rfl s1))))
    have s2 := (hg 2).trans (en rfl (en rfl (en rfl (en rfl s2))))
    have s3 := (hg 3).trans (en rfl (en rfl (en rfl (en rfl s3))))
    have s4 := (hg 4).trans (en rfl (en rfl (en rfl (en rfl s4))))
    have s10 := (hg 10).trans (en rfl (en rfl (en rfl (en rfl s10))))
    have s11 := (hg 11).trans (en rfl es)
    have s12 := (hg 12).trans es
    have s29 := (hg 29).trans (en rfl (en rfl (en rfl (en rfl s29))))
    clear hg
    refine xc_seq (fun K hK5 => ?_)
    refine xc_seq (fun K hK6 => ?_)
    refine xc_region ?_
    refine x_val (r_move s11) (nd_of rfl) rfl ?_
    refine x_val (r_move (en rfl s0)) (nd_of rfl) rfl ?_
    have h := h.f1
    refine x_enter (r_call Try.call13 (.cons (en rfl es) (.cons ec (.cons es .nil)))) (nd_of rfl) rfl (insert_fail he (hv.up) (B' := 2000) (by simp; omega) (by omega) (by omega) h) ?_
    rintro _ w ⟨rfl, h⟩
    refine x_val (r_neq es ec (decide_eq_true (by exact he))) (nd_of rfl) rfl ?_
    refine x_val (r_move es) (nd_of rfl) rfl ?_
    refine x_pass (d := 37) rfl rfl es rfl ?_
    refine x_pass (d := 37) rfl rfl (en rfl es) rfl ?_
    refine x_pass (d := 37) rfl rfl (en rfl (en rfl es)) rfl ?_
    refine x_pass (d := 37) rfl rfl (en rfl (en rfl (en rfl es))) rfl ?_
    refine x_val (r_pick_t (en rfl (en rfl (en rfl (en rfl es)))) ec) (nd_of rfl) rfl ?_
    refine x_val (r_move es) (nd_of rfl) rfl ?_
    refine x_pass (d := 43) rfl rfl es rfl ?_
    refine x_pass (d := 43) rfl rfl (en rfl es) rfl ?_
    refine x_val (r_pick_t (en rfl (en rfl es)) ec) (nd_of rfl) rfl ?_
    refine x_val (r_move es) (nd_of rfl) rfl ?_
    refine x_pass (d := 47) rfl rfl es rfl ?_
    refine x_pass (d := 47) rfl rfl (en rfl es) rfl ?_
    refine x_pass (d := 47) rfl rfl (en rfl (en rfl es)) rfl ?_
    refine x_val (r_pick_t (en rfl (en rfl (en rfl es))) ec) (nd_of rfl) rfl ?_
    refine x_val (r_move es) (nd_of rfl) rfl ?_
    refine x_pass (d := 52) rfl rfl es rfl ?_
    refine x_pass (d := 52) rfl rfl (en rfl es) rfl ?_
    refine x_pass (d := 52) rfl rfl (en rfl (en rfl es)) rfl ?_
    refine x_pass (d := 52) rfl rfl (en rfl (en rfl (en rfl es))) rfl ?_
    refine x_val (r_pick_t (en rfl (en rfl (en rfl (en rfl es)))) ec) (nd_of rfl) rfl ?_
    refine xw_nil ?_
    refine hK6 _ _ ?_
    refine xc_gen (fun g hg => ?_)
    have s0 := (hg 0).trans (en rfl (en rfl (en rfl (en rfl (en rfl (en rfl (en rfl (en rfl (en rfl (en rfl (en rfl (en rfl (en rfl (en rfl (en rfl (en rfl (en rfl (en rfl (en rfl (en rfl (en rfl (en rfl (en rfl (en rfl (en rfl s0)))))))))))))))))))))))))
    have s1 := (hg 1).trans (en rfl (en rfl (en rfl (en rfl (en rfl (en rfl (en rfl (en rfl (en rfl (en rfl (en rfl (en rfl (en rfl (en rfl (en rfl (en rfl (en rfl (en rfl (en rfl (en rfl (en rfl (en rfl (en rfl (en rfl (en rfl s1)))))))))))))))))))))))))
    have s2 := (hg 2).trans (en rfl (en rfl (en rfl (en rfl (en rfl (en rfl (en rfl (en rfl (en rfl (en rfl (en rfl (en rfl (en rfl (en rfl (en rfl (en rfl (en rfl (en rfl (en rfl (en rfl (en rfl (en rfl (en rfl (en rfl (en rfl s2)))))))))))))))))))))))))
    have s3 := (hg 3).trans (en rfl (en rfl (en rfl (en rfl (en rfl (en rfl (en rfl (en rfl (en rfl (en rfl (en rfl (en rfl (en rfl (en rfl (en rfl (en rfl (en rfl (en rfl (en rfl (en rfl (en rfl (en rfl (en rfl (en rfl (en rfl s3)))))))))))))))))))))))))
    have s4 := (hg 4).trans (en rfl (en rfl (en rfl (en rfl (en rfl (en rfl (en rfl (en rfl (en rfl (en rfl (en rfl (en rfl (en rfl (en rfl (en rfl (en rfl (en rfl (en rfl (en rfl (en rfl (en rfl (en rfl (en rfl (en rfl (en rfl s4)))))))))))))))))))))))))
    have s10 := (hg 10).trans (en rfl (en rfl (en rfl (en rfl (en rfl (en rfl (en rfl (en rfl (en rfl (en rfl (en rfl (en rfl (en rfl (en rfl (en rfl (en rfl (en rfl (en rfl (en rfl (en rfl (en rfl (en rfl (en rfl (en rfl (en rfl s10)))))))))))))))))))))))))
    have s11 := (hg 11).trans (en rfl (en rfl (en rfl (en rfl (en rfl (en rfl (en rfl (en rfl (en rfl (en rfl (en rfl (en rfl (en rfl (en rfl (en rfl (en rfl (en rfl (en rfl (en rfl (en rfl (en rfl (en rfl (en rfl (en rfl (en rfl s11)))))))))))))))))))))))))
    have s12 := (hg 12).trans (en rfl (en rfl (en rfl (en rfl (en rfl (en rfl (en rfl (en rfl (en rfl (en rfl (en rfl (en rfl (en rfl (en rfl (en rfl (en rfl (en rfl (en rfl (en rfl (en rfl (en rfl (en rfl (en rfl (en rfl (en rfl s12)))))))))))))))))))))))))
    have s29 := (hg 29).trans (en rfl (en rfl (en rfl (en rfl (en rfl (en rfl (en rfl (en rfl (en rfl (en rfl (en rfl (en rfl (en rfl (en rfl (en rfl (en rfl (en rfl (en rfl (en rfl (en rfl (en rfl (en rfl (en rfl (en rfl (en rfl s29)))))))))))))))))))))))))
    have s57 := (hg 57).trans es
    clear hg
    refine xc_cond s57 (fun _ => ?_) (fun hc => by cases hc)
    refine xc_seq (fun K hK7 => ?_)
    refine xc_region ?_
    refine x_enter (r_call Try.call10 .nil) (nd_of rfl) rfl (known_ok h) ?_
    rintro _ w ⟨rfl, h⟩
    refine x_val (r_assign es) (nd_of rfl) rfl ?_
    refine xw_nil ?_
    refine hK7 _ _ ?_
    refine xc_gen (fun g hg => ?_)
    have s0 := (hg 0).trans (en rfl (en rfl s0))
    have s1 := (hg 1).trans (en rfl (en rfl s1))
    have s2 := (hg 2).trans (en rfl (en rfl s2))
    have s3 := (hg 3).trans (en rfl (en rfl s3))
    have s4 := (hg 4).trans (en rfl (en rfl s4))
    have s10 := (hg 10).trans es
    have s11 := (hg 11).trans (en rfl (en rfl s11))
    have s12 := (hg 12).trans (en rfl (en rfl s12))
    have s29 := (hg 29).trans (en rfl (en rfl s29))
    have s57 := (hg 57).trans (en rfl (en rfl s57))
    clear hg
    refine xc_ret ?_
    refine bodyR_1 rfl s10 ?_
    exact ⟨rfl, h.drop.drop⟩
  rcases Int.lt_or_le i 0 with hi0 | hi0
  · skip
    refine calls_x Try.func6 rfl Try.ntmps6 rfl ?_
    refine xc_gen (fun g hg => ?_)
    have s0 := (hg 0).trans arg0
    have s1 := (hg 1).trans arg1
    have s2 := (hg 2).trans arg2
    have s3 := (hg 3).trans arg3
    have s4 := (hg 4).trans arg4
    clear hg
    refine xc_seq (fun K hK1 => ?_)
    refine xc_region ?_
    refine x_val (r_assign ec) (nd_of rfl) rfl ?_
    refine xw_nil ?_
    refine hK1 _ _ ?_
    refine xc_gen (fun g hg => ?_)
    have s0 := (hg 0).trans (en rfl s0)
    have s1 := (hg 1).trans (en rfl s1)
    have s2 := (hg 2).trans (en rfl s2)
    have s3 := (hg 3).trans (en rfl s3)
    have s4 := (hg 4).trans (en rfl s4)
    have s10 := (hg 10).trans es
    clear hg
    refine xc_seq (fun K hK2 => ?_)
    refine xc_seq (fun K hK3 => ?_)
    refine xc_region ?_
    refine x_val (r_move s0) (nd_of rfl) rfl ?_
    refine x_val (r_len Try.underlying23 es) (nd_of rfl) rfl ?_
    refine x_val (r_gtr es ec (decide_eq_false (by omega))) (nd_of rfl) rfl ?_
    refine x_val (r_move es) (nd_of rfl) rfl ?_
    refine x_take (d := 20) rfl rfl es ?_
    refine x_val (r_move (en rfl (en rfl (en rfl (en rfl s1))))) (nd_of rfl) rfl ?_
    refine x_take (d := 20) rfl rfl (en rfl es) ?_
    refine x_val (r_len Try.underlying23 es) (nd_of rfl) rfl ?_
    refine x_take (d := 20) rfl rfl (en rfl (en rfl es)) ?_
    refine x_val (r_gtr es ec (decide_eq_false (by omega))) (nd_of rfl) rfl ?_
    refine x_val (r_pick_f (en rfl (en rfl (en rfl es))) es) (nd_of rfl) rfl ?_
    refine x_val (r_move es) (nd_of rfl) rfl ?_
    refine x_take (d := 25) rfl rfl es ?_
    refine x_val (r_move (en rfl (en rfl (en rfl (en rfl (en rfl (en rfl (en rfl (en rfl (en rfl s2)))))))))) (nd_of rfl) rfl ?_
    refine x_take (d := 25) rfl rfl (en rfl es) ?_
    refine x_val (r_len Try.underlying23 es) (nd_of rfl) rfl ?_
    refine x_take (d := 25) rfl rfl (en rfl (en rfl es)) ?_
    refine x_val (r_gtr es ec (decide_eq_false (by omega))) (nd_of rfl) rfl ?_
    refine x_val (r_pick_f (en rfl (en rfl (en rfl es))) es) (nd_of rfl) rfl ?_
    refine xw_nil ?_
    refine hK3 _ _ ?_
    refine xc_gen (fun g hg => ?_)
    have s0 := (hg 0).trans (en rfl (en rfl (en rfl (en rfl (en rfl (en rfl (en rfl (en rfl (en rfl (en rfl (en rfl (en rfl (en rfl s0)))))))))))))
    have s1 := (hg 1).trans (en rfl (en rfl (en rfl (en rfl (en rfl (en rfl (en rfl (en rfl (en rfl (en rfl (en rfl (en rfl (en rfl s1)))))))))))))
    have s2 := (hg 2).trans (en rfl (en rfl (en rfl (en rfl (en rfl (en rfl (en rfl (en rfl (en rfl (en rfl (en rfl (en rfl (en rfl s2)))))))))))))
    have s3 := (hg 3).trans (en rfl (en rfl (en rfl (en rfl (en rfl (en rfl (en rfl (en rfl (en rfl (en rfl (en rfl (en rfl (en rfl s3)))))))))))))
    have s4 := (hg 4).trans (en rfl (en rfl (en rfl (en rfl (en rfl (en rfl (en rfl (en rfl (en rfl (en rfl (en rfl (en rfl (en rfl s4)))))))))))))
    have s10 := (hg 10).trans (en rfl (en rfl (en rfl (en rfl (en rfl (en rfl (en rfl (en rfl (en rfl (en rfl (en rfl (en rfl (en rfl s10)))))))))))))
    have s29 := (hg 29).trans es
    clear hg
    refine xc_cond s29 (fun hc => by cases hc) (fun _ => ?_)
    refine xc_skip ?_
    refine hK2 _ _ ?_
    refine xc_seq (fun K hK4 => ?_)
    refine xc_region ?_
    refine x_enter (r_call Try.call9 .nil) (nd_of rfl) rfl (newR h) ?_
    rintro _ w ⟨b, rfl, h⟩
    refine x_enter (r_call Try.call9 .nil) (nd_of rfl) rfl (newR h) ?_
    rintro _ w ⟨q, rfl, h⟩
    refine x_val (r_assign (en rfl es)) (nd_of rfl) rfl ?_
    refine x_val (r_assign (en rfl es)) (nd_of rfl) rfl ?_
    refine xw_nil ?_
    refine hK4 _ _ ?_
    refine xc_gen (fun g hg => ?_)
    have s0 := (hg 0).trans (en rfl (en rfl (en rfl (en rfl s0))))
    have s1 := (hg 1).trans (en rfl (en rfl (en rfl (en rfl s1))))
    have s2 := (hg 2).trans (en rfl (en rfl (en rfl (en rfl s2))))
    have s3 := (hg 3).trans (en rfl (en rfl (en rfl (en rfl s3))))
    have s4 := (hg 4).trans (en rfl (en rfl (en rfl (en rfl s4))))
    have s10 := (hg 10).trans (en rfl (en rfl (en rfl (en rfl s10))))
    have s11 := (hg 11).trans (en rfl es)
    have s12 := (hg 12).trans es
    have s29 := (hg 29).trans (en rfl (en rfl (en rfl (en rfl s29))))
    clear hg
    refine xc_seq (fun K hK5 => ?_)
    refine xc_seq (fun K hK6 => ?_)
    refine xc_region ?_
    refine x_val (r_move s11) (nd_of rfl) rfl ?_
    refine x_val (r_move (en rfl s0)) (nd_of rfl) rfl ?_
    have h := h.f1
    refine x_enter (r_call Try.call13 (.cons (en rfl es) (.cons ec (.cons es .nil)))) (nd_of rfl) rfl (insert_new he (hv.up) (B' := 2000) (by omega) (by omega) (by omega) h) ?_
    rintro _ w ⟨rfl, h⟩
    refine x_val (r_neq es ec (r := false) rfl) (nd_of rfl) rfl ?_
    refine x_val (r_move es) (nd_of rfl) rfl ?_
    refine x_take (d := 37) rfl rfl es ?_
    refine x_val (r_move (en rfl (en rfl (en rfl (en rfl (en rfl s12)))))) (nd_of rfl) rfl ?_
    refine x_take (d := 37) rfl rfl (en rfl es) ?_
    refine x_val (r_move (en rfl (en rfl (en rfl (en rfl (en rfl (en rfl s0))))))) (nd_of rfl) rfl ?_
    refine x_take (d := 37) rfl rfl (en rfl (en rfl es)) ?_
    have h := h.f1
    refine x_enter (r_call Try.call13 (.cons (en rfl es) (.cons ec (.cons es .nil)))) (nd_of rfl) rfl (insert_new he (hv.up) (B' := 2000) (by omega) (by omega) (by omega) h) ?_
    rintro _ w ⟨rfl, h⟩
    refine x_take (d := 37) rfl rfl (en rfl (en rfl (en rfl es))) ?_
    refine x_val (r_neq es ec (r := false) rfl) (nd_of rfl) rfl ?_
    refine x_val (r_pick_f (en rfl (en rfl (en rfl (en rfl es)))) es) (nd_of rfl) rfl ?_
    refine x_val (r_move es) (nd_of rfl) rfl ?_
    refine x_take (d := 43) rfl rfl es ?_
    refine x_val (r_move (en rfl (en rfl (en rfl (en rfl (en rfl (en rfl (en rfl (en rfl (en rfl (en rfl (en rfl s3)))))))))))) (nd_of rfl) rfl ?_
    refine x_take (d := 43) rfl rfl (en rfl es) ?_
    refine x_val (r_lss es ec (decide_eq_true (by omega))) (nd_of rfl) rfl ?_
    refine x_val (r_pick_f (en rfl (en rfl es)) es) (nd_of rfl) rfl ?_
    refine x_val (r_move es) (nd_of rfl) rfl ?_
    refine x_pass (d := 47) rfl rfl es rfl ?_
    refine x_pass (d := 47) rfl rfl (en rfl es) rfl ?_
    refine x_pass (d := 47) rfl rfl (en rfl (en rfl es)) rfl ?_
    refine x_val (r_pick_t (en rfl (en rfl (en rfl es))) ec) (nd_of rfl) rfl ?_
    refine x_val (r_move es) (nd_of rfl) rfl ?_
    refine x_pass (d := 52) rfl rfl es rfl ?_
    refine x_pass (d := 52) rfl rfl (en rfl es) rfl ?_
    refine x_pass (d := 52) rfl rfl (en rfl (en rfl es)) rfl ?_
    refine x_pass (d := 52) rfl rfl (en rfl (en rfl (en rfl es))) rfl ?_
    refine x_val (r_pick_t (en rfl (en rfl (en rfl (en rfl es)))) ec) (nd_of rfl) rfl ?_
    refine xw_nil ?_
    refine hK6 _ _ ?_
    refine xc_gen (fun g hg => ?_)
    have s0 := (hg 0).trans (en rfl (en rfl (en rfl (en rfl (en rfl (en rfl (en rfl (en rfl (en rfl (en rfl (en rfl (en rfl (en rfl (en rfl (en rfl (en rfl (en rfl (en rfl (en rfl (en rfl (en rfl (en rfl (en rfl (en rfl (en rfl s0)))))))))))))))))))))))))
    have s1 := (hg 1).trans (en rfl (en rfl (en rfl (en rfl (en rfl (en rfl (en rfl (en rfl (en rfl (en rfl (en rfl (en rfl (en rfl (en rfl (en rfl (en rfl (en rfl (en rfl (en rfl (en rfl (en rfl (en rfl (en rfl (en rfl (en rfl s1)))))))))))))))))))))))))
    have s2 := (hg 2).trans (en rfl (en rfl (en rfl (en rfl (en rfl (en rfl (en rfl (en rfl (en rfl (en rfl (en rfl (en rfl (en rfl (en rfl (en rfl (en rfl (en rfl (en rfl (en rfl (en rfl (en rfl (en rfl (en rfl (en rfl (en rfl s2)))))))))))))))))))))))))
    have s3 := (hg 3).trans (en rfl (en rfl (en rfl (en rfl (en rfl (en rfl (en rfl (en rfl (en rfl (en rfl (en rfl (en rfl (en rfl (en rfl (en rfl (en rfl (en rfl (en rfl (en rfl (en rfl (en rfl (en rfl (en rfl (en rfl (en rfl s3)))))))))))))))))))))))))
    have s4 := (hg 4).trans (en rfl (en rfl (en rfl (en rfl (en rfl (en rfl (en rfl (en rfl (en rfl (en rfl (en rfl (en rfl (en rfl (en rfl (en rfl (en rfl (en rfl (en rfl (en rfl (en rfl (en rfl (en rfl (en rfl (en rfl (en rfl s4)))))))))))))))))))))))))
    have s10 := (hg 10).trans (en rfl (en rfl (en rfl (en rfl (en rfl (en rfl (en rfl (en rfl (en rfl (en rfl (en rfl (en rfl (en rfl (en rfl (en rfl (en rfl (en rfl (en rfl (en rfl (en rfl (en rfl (en rfl (en rfl (en rfl (en rfl s10)))))))))))))))))))))))))
    have s11 := (hg 11).trans (en rfl (en rfl (en rfl (en rfl (en rfl (en rfl (en rfl (en rfl (en rfl (en rfl (en rfl (en rfl (en rfl (en rfl (en rfl (en rfl (en rfl (en rfl (en rfl (en rfl (en rfl (en rfl (en rfl (en rfl (en rfl s11)))))))))))))))))))))))))
    have s12 := (hg 12).trans (en rfl (en rfl (en rfl (en rfl (en rfl (en rfl (en rfl (en rfl (en rfl (en rfl (en rfl (en rfl (en rfl (en rfl (en rfl (en rfl (en rfl (en rfl (en rfl (en rfl (en rfl (en rfl (en rfl (en rfl (en rfl s12)))))))))))))))))))))))))
    have s29 := (hg 29).trans (en rfl (en rfl (en rfl (en rfl (en rfl (en rfl (en rfl (en rfl (en rfl (en rfl (en rfl (en rfl (en rfl (en rfl (en rfl (en rfl (en rfl (en rfl (en rfl (en rfl (en rfl (en rfl (en rfl (en rfl (en rfl s29)))))))))))))))))))))))))
    have s57 := (hg 57).trans es
    clear hg
    refine xc_cond s57 (fun _ => ?_) (fun hc => by cases hc)
    refine xc_seq (fun K hK7 => ?_)
    refine xc_region ?_
    refine x_enter (r_call Try.call10 .nil) (nd_of rfl) rfl (known_ok h) ?_
    rintro _ w ⟨rfl, h⟩
    refine x_val (r_assign es) (nd_of rfl) rfl ?_
    refine xw_nil ?_
    refine hK7 _ _ ?_
    refine xc_gen (fun g hg => ?_)
    have s0 := (hg 0).trans (en rfl (en rfl s0))
    have s1 := (hg 1).trans (en rfl (en rfl s1))
    have s2 := (hg 2).trans (en rfl (en rfl s2))
    have s3 := (hg 3).trans (en rfl (en rfl s3))
    have s4 := (hg 4).trans (en rfl (en rfl s4))
    have s10 := (hg 10).trans es
    have s11 := (hg 11).trans (en rfl (en rfl s11))
    have s12 := (hg 12).trans (en rfl (en rfl s12))
    have s29 := (hg 29).trans (en rfl (en rfl s29))
    have s57 := (hg 57).trans (en rfl (en rfl s57))
    clear hg
    refine xc_ret ?_
    refine bodyR_1 rfl s10 ?_
    exact ⟨rfl, h.drop.drop⟩
  rcases Int.lt_or_le j i with hij | hij
  · skip
    refine calls_x Try.func6 rfl Try.ntmps6 rfl ?_
    refine xc_gen (fun g hg => ?_)
    have s0 := (hg 0).trans arg0
    have s1 := (hg 1).trans arg1
    have s2 := (hg 2).trans arg2
    have s3 := (hg 3).trans arg3
    have s4 := (hg 4).trans arg4
    clear hg
    refine xc_seq (fun K hK1 => ?_)
    refine xc_region ?_
    refine x_val (r_assign ec) (nd_of rfl) rfl ?_
    refine xw_nil ?_
    refine hK1 _ _ ?_
    refine xc_gen (fun g hg => ?_)
    have s0 := (hg 0).trans (en rfl s0)
    have s1 := (hg 1).trans (en rfl s1)
    have s2 := (hg 2).trans (en rfl s2)
    have s3 := (hg 3).trans (en rfl s3)
    have s4 := (hg 4).trans (en rfl s4)
    have s10 := (hg 10).trans es
    clear hg
    refine xc_seq (fun K hK2 => ?_)
    refine xc_seq (fun K hK3 => ?_)
    refine xc_region ?_
    refine x_val (r_move s0) (nd_of rfl) rfl ?_
    refine x_val (r_len Try.underlying23 es) (nd_of rfl) rfl ?_
    refine x_val (r_gtr es ec (decide_eq_false (by omega))) (nd_of rfl) rfl ?_
    refine x_val (r_move es) (nd_of rfl) rfl ?_
    refine x_take (d := 20) rfl rfl es ?_
    refine x_val (r_move (en rfl (en rfl (en rfl (en rfl s1))))) (nd_of rfl) rfl ?_
    refine x_take (d := 20) rfl rfl (en rfl es) ?_
    refine x_val (r_len Try.underlying23 es) (nd_of rfl) rfl ?_
    refine x_take (d := 20) rfl rfl (en rfl (en rfl es)) ?_
    refine x_val (r_gtr es ec (decide_eq_false (by omega))) (nd_of rfl) rfl ?_
    refine x_val (r_pick_f (en rfl (en rfl (en rfl es))) es) (nd_of rfl) rfl ?_
    refine x_val (r_move es) (nd_of rfl) rfl ?_
    refine x_take (d := 25) rfl rfl es ?_
    refine x_val (r_move (en rfl (en rfl (en rfl (en rfl (en rfl (en rfl (en rfl (en rfl (en rfl s2)))))))))) (nd_of rfl) rfl ?_
    refine x_take (d := 25) rfl rfl (en rfl es) ?_
    refine x_val (r_len Try.underlying23 es) (nd_of rfl) rfl ?_
    refine x_take (d := 25) rfl rfl (en rfl (en rfl es)) ?_
    refine x_val (r_gtr es ec (decide_eq_false (by omega))) (nd_of rfl) rfl ?_
    refine x_val (r_pick_f (en rfl (en rfl (en rfl es))) es) (nd_of rfl) rfl ?_
    refine xw_nil ?_
    refine hK3 _ _ ?_
    refine xc_gen (fun g hg => ?_)
    have s0 := (hg 0).trans (en rfl (en rfl (en rfl (en rfl (en rfl (en rfl (en rfl (en rfl (en rfl (en rfl (en rfl (en rfl (en rfl s0)))))))))))))
    have s1 := (hg 1).trans (en rfl (en rfl (en rfl (en rfl (en rfl (en rfl (en rfl (en rfl (en rfl (en rfl (en rfl (en rfl (en rfl s1)))))))))))))
    have s2 := (hg 2).trans (en rfl (en rfl (en rfl (en rfl (en rfl (en rfl (en rfl (en rfl (en rfl (en rfl (en rfl (en rfl (en rfl s2)))))))))))))
    have s3 := (hg 3).trans (en rfl (en rfl (en rfl (en rfl (en rfl (en rfl (en rfl (en rfl (en rfl (en rfl (en rfl (en rfl (en rfl s3)))))))))))))
    have s4 := (hg 4).trans (en rfl (en rfl (en rfl (en rfl (en rfl (en rfl (en rfl (en rfl (en rfl (en rfl (en rfl (en rfl (en rfl s4)))))))))))))
    have s10 := (hg 10).trans (en rfl (en rfl (en rfl (en rfl (en rfl (en rfl (en rfl (en rfl (en rfl (en rfl (en rfl (en rfl (en rfl s10)))))))))))))
    have s29 := (hg 29).trans es
    clear hg
    refine xc_cond s29 (fun hc => by cases hc) (fun _ => ?_)
    refine xc_skip ?_
    refine hK2 _ _ ?_
    refine xc_seq (fun K hK4 => ?_)
    refine xc_region ?_
    refine x_enter (r_call Try.call9 .nil) (nd_of rfl) rfl (newR h) ?_
    rintro _ w ⟨b, rfl, h⟩
    refine x_enter (r_call Try.call9 .nil) (nd_of rfl) rfl (newR h) ?_
    rintro _ w ⟨q, rfl, h⟩
    refine x_val (r_assign (en rfl es)) (nd_of rfl) rfl ?_
    refine x_val (r_assign (en rfl es)) (nd_of rfl) rfl ?_
    refine xw_nil ?_
    refine hK4 _ _ ?_
    refine xc_gen (fun g hg => ?_)
    have s0 := (hg 0).trans (en rfl (en rfl (en rfl (en rfl s0))))
    have s1 := (hg 1).trans (en rfl (en rfl (en rfl (en rfl s1))))
    have s2 := (hg 2).trans (en rfl (en rfl (en rfl (en rfl s2))))
    have s3 := (hg 3).trans (en rfl (en rfl (en rfl (en rfl s3))))
    have s4 := (hg 4).trans (en rfl (en rfl (en rfl (en rfl s4))))
    have s10 := (hg 10).trans (en rfl (en rfl (en rfl (en rfl s10))))
    have s11 := (hg 11).trans (en rfl es)
    have s12 := (hg 12).trans es
    have s29 := (hg 29).trans (en rfl (en rfl (en rfl (en rfl s29))))
    clear hg
    refine xc_seq (fun K hK5 => ?_)
    refine xc_seq (fun K hK6 => ?_)
    refine xc_region ?_
    refine x_val (r_move s11) (nd_of rfl) rfl ?_
    refine x_val (r_move (en rfl s0)) (nd_of rfl) rfl ?_
    have h := h.f1
    refine x_enter (r_call Try.call13 (.cons (en rfl es) (.cons ec (.cons es .nil)))) (nd_of rfl) rfl (insert_new he (hv.up) (B' := 2000) (by omega) (by omega) (by omega) h) ?_
    rintro _ w ⟨rfl, h⟩
    refine x_val (r_neq es ec (r := false) rfl) (nd_of rfl) rfl ?_
    refine x_val (r_move es) (nd_of rfl) rfl ?_
    refine x_take (d := 37) rfl rfl es ?_
    refine x_val (r_move (en rfl (en rfl (en rfl (en rfl (en rfl s12)))))) (nd_of rfl) rfl ?_
    refine x_take (d := 37) rfl rfl (en rfl es) ?_
    refine x_val (r_move (en rfl (en rfl (en rfl (en rfl (en rfl (en rfl s0))))))) (nd_of rfl) rfl ?_
    refine x_take (d := 37) rfl rfl (en rfl (en rfl es)) ?_
    have h := h.f1
    refine x_enter (r_call Try.call13 (.cons (en rfl es) (.cons ec (.cons es .nil)))) (nd_of rfl) rfl (insert_new he (hv.up) (B' := 2000) (by omega) (by omega) (by omega) h) ?_
    rintro _ w ⟨rfl, h⟩
    refine x_take (d := 37) rfl rfl (en rfl (en rfl (en rfl es))) ?_
    refine x_val (r_neq es ec (r := false) rfl) (nd_of rfl) rfl ?_
    refine x_val (r_pick_f (en rfl (en rfl (en rfl (en rfl es)))) es) (nd_of rfl) rfl ?_
    refine x_val (r_move es) (nd_of rfl) rfl ?_
    refine x_take (d := 43) rfl rfl es ?_
    refine x_val (r_move (en rfl (en rfl (en rfl (en rfl (en rfl (en rfl (en rfl (en rfl (en rfl (en rfl (en rfl s3)))))))))))) (nd_of rfl) rfl ?_
    refine x_take (d := 43) rfl rfl (en rfl es) ?_
    refine x_val (r_lss es ec (decide_eq_false (by omega))) (nd_of rfl) rfl ?_
    refine x_val (r_pick_f (en rfl (en rfl es)) es) (nd_of rfl) rfl ?_
    refine x_val (r_move es) (nd_of rfl) rfl ?_
    refine x_take (d := 47) rfl rfl es ?_
    refine x_val (r_move (en rfl (en rfl (en rfl (en rfl (en rfl (en rfl (en rfl (en rfl (en rfl (en rfl (en rfl (en rfl (en rfl (en rfl (en rfl s3)))))))))))))))) (nd_of rfl) rfl ?_
    refine x_take (d := 47) rfl rfl (en rfl es) ?_
    refine x_val (r_move (en rfl (en rfl (en rfl (en rfl (en rfl (en rfl (en rfl (en rfl (en rfl (en rfl (en rfl (en rfl (en rfl (en rfl (en rfl (en rfl s4))))))))))))))))) (nd_of rfl) rfl ?_
    refine x_take (d := 47) rfl rfl (en rfl (en rfl es)) ?_
    refine x_val (r_gtr (en rfl es) es (decide_eq_true (by omega))) (nd_of rfl) rfl ?_
    refine x_val (r_pick_f (en rfl (en rfl (en rfl es))) es) (nd_of rfl) rfl ?_
    refine x_val (r_move es) (nd_of rfl) rfl ?_
    refine x_pass (d := 52) rfl rfl es rfl ?_
    refine x_pass (d := 52) rfl rfl (en rfl es) rfl ?_
    refine x_pass (d := 52) rfl rfl (en rfl (en rfl es)) rfl ?_
    refine x_pass (d := 52) rfl rfl (en rfl (en rfl (en rfl es))) rfl ?_
    refine x_val (r_pick_t (en rfl (en rfl (en rfl (en rfl es)))) ec) (nd_of rfl) rfl ?_
    refine xw_nil ?_
    refine hK6 _ _ ?_
    refine xc_gen (fun g hg => ?_)
    have s0 := (hg 0).trans (en rfl (en rfl (en rfl (en rfl (en rfl (en rfl (en rfl (en rfl (en rfl (en rfl (en rfl (en rfl (en rfl (en rfl (en rfl (en rfl (en rfl (en rfl (en rfl (en rfl (en rfl (en rfl (en rfl (en rfl (en rfl s0)))))))))))))))))))))))))
    have s1 := (hg 1).trans (en rfl (en rfl (en rfl (en rfl (en rfl (en rfl (en rfl (en rfl (en rfl (en rfl (en rfl (en rfl (en rfl (en rfl (en rfl (en rfl (en rfl (en rfl (en rfl (en rfl (en rfl (en rfl (en rfl (en rfl (en rfl s1)))))))))))))))))))))))))
    have s2 := (hg 2).trans (en rfl (en rfl (en rfl (en rfl (en rfl (en rfl (en rfl (en rfl (en rfl (en rfl (en rfl (en rfl (en rfl (en rfl (en rfl (en rfl (en rfl (en rfl (en rfl (en rfl (en rfl (en rfl (en rfl (en rfl (en rfl s2)))))))))))))))))))))))))
    have s3 := (hg 3).trans (en rfl (en rfl (en rfl (en rfl (en rfl (en rfl (en rfl (en rfl (en rfl (en rfl (en rfl (en rfl (en rfl (en rfl (en rfl (en rfl (en rfl (en rfl (en rfl (en rfl (en rfl (en rfl (en rfl (en rfl (en rfl s3)))))))))))))))))))))))))
    have s4 := (hg 4).trans (en rfl (en rfl (en rfl (en rfl (en rfl (en rfl (en rfl (en rfl (en rfl (en rfl (en rfl (en rfl (en rfl (en rfl (en rfl (en rfl (en rfl (en rfl (en rfl (en rfl (en rfl (en rfl (en rfl (en rfl (en rfl s4)))))))))))))))))))))))))
    have s10 := (hg 10).trans (en rfl (en rfl (en rfl (en rfl (en rfl (en rfl (en rfl (en rfl (en rfl (en rfl (en rfl (en rfl (en rfl (en rfl (en rfl (en rfl (en rfl (en rfl (en rfl (en rfl (en rfl (en rfl (en rfl (en rfl (en rfl s10)))))))))))))))))))))))))
    have s11 := (hg 11).trans (en rfl (en rfl (en rfl (en rfl (en rfl (en rfl (en rfl (en rfl (en rfl (en rfl (en rfl (en rfl (en rfl (en rfl (en rfl (en rfl (en rfl (en rfl (en rfl (en rfl (en rfl (en rfl (en rfl (en rfl (en rfl s11)))))))))))))))))))))))))
    have s12 := (hg 12).trans (en rfl (en rfl (en rfl (en rfl (en rfl (en rfl (en rfl (en rfl (en rfl (en rfl (en rfl (en rfl (en rfl (en rfl (en rfl (en rfl (en rfl (en rfl (en rfl (en rfl (en rfl (en rfl (en rfl (en rfl (en rfl s12)))))))))))))))))))))))))
    have s29 := (hg 29).trans (en rfl (en rfl (en rfl (en rfl (en rfl (en rfl (en rfl (en rfl (en rfl (en rfl (en rfl (en rfl (en rfl (en rfl (en rfl (en rfl (en rfl (en rfl (en rfl (en rfl (en rfl (en rfl (en rfl (en rfl (en rfl s29)))))))))))))))))))))))))
    have s57 := (hg 57).trans es
    clear hg
    refine xc_cond s57 (fun _ => ?_) (fun hc => by cases hc)
    refine xc_seq (fun K hK7 => ?_)
    refine xc_region ?_
    refine x_enter (r_call Try.call10 .nil) (nd_of rfl) rfl (known_ok h) ?_
    rintro _ w ⟨rfl, h⟩
    refine x_val (r_assign es) (nd_of rfl) rfl ?_
    refine xw_nil ?_
    refine hK7 _ _ ?_
    refine xc_gen (fun g hg => ?_)
    have s0 := (hg 0).trans (en rfl (en rfl s0))
    have s1 := (hg 1).trans (en rfl (en rfl s1))
    have s2 := (hg 2).trans (en rfl (en rfl s2))
    have s3 := (hg 3).trans (en rfl (en rfl s3))
    have s4 := (hg 4).trans (en rfl (en rfl s4))
    have s10 := (hg 10).trans es
    have s11 := (hg 11).trans (en rfl (en rfl s11))
    have s12 := (hg 12).trans (en rfl (en rfl s12))
    have s29 := (hg 29).trans (en rfl (en rfl s29))
    have s57 := (hg 57).trans (en rfl (en rfl s57))
    clear hg
    refine xc_ret ?_
    refine bodyR_1 rfl s10 ?_
    exact ⟨rfl, h.drop.drop⟩
  rcases Int.lt_or_le (zs.length : Int) j with hjl | hjl
  · skip
    refine calls_x Try.func6 rfl Try.ntmps6 rfl ?_
    refine xc_gen (fun g hg => ?_)
    have s0 := (hg 0).trans arg0
    have s1 := (hg 1).trans arg1
    have s2 := (hg 2).trans arg2
    have s3 := (hg 3).trans arg3
    have s4 := (hg 4).trans arg4
    clear hg
    refine xc_seq (fun K hK1 => ?_)
    refine xc_region ?_
    refine x_val (r_assign ec) (nd_of rfl) rfl ?_
    refine xw_nil ?_
    refine hK1 _ _ ?_
    refine xc_gen (fun g hg => ?_)
    have s0 := (hg 0).trans (en rfl s0)
    have s1 := (hg 1).trans (en rfl s1)
    have s2 := (hg 2).trans (en rfl s2)
    have s3 := (hg 3).trans (en rfl s3)
    have s4 := (hg 4).trans (en rfl s4)
    have s10 := (hg 10).trans es
    clear hg
    refine xc_seq (fun K hK2 => ?_)
    refine xc_seq (fun K hK3 => ?_)
    refine xc_region ?_
    refine x_val (r_move s0) (nd_of rfl) rfl ?_
    refine x_val (r_len Try.underlying23 es) (nd_of rfl) rfl ?_
    refine x_val (r_gtr es ec (decide_eq_false (by omega))) (nd_of rfl) rfl ?_
    refine x_val (r_move es) (nd_of rfl) rfl ?_
    refine x_take (d := 20) rfl rfl es ?_
    refine x_val (r_move (en rfl (en rfl (en rfl (en rfl s1))))) (nd_of rfl) rfl ?_
    refine x_take (d := 20) rfl rfl (en rfl es) ?_
    refine x_val (r_len Try.underlying23 es) (nd_of rfl) rfl ?_
    refine x_take (d := 20) rfl rfl (en rfl (en rfl es)) ?_
    refine x_val (r_gtr es ec (decide_eq_false (by omega))) (nd_of rfl) rfl ?_
    refine x_val (r_pick_f (en rfl (en rfl (en rfl es))) es) (nd_of rfl) rfl ?_
    refine x_val (r_move es) (nd_of rfl) rfl ?_
    refine x_take (d := 25) rfl rfl es ?_
    refine x_val (r_move (en rfl (en rfl (en rfl (en rfl (en rfl (en rfl (en rfl (en rfl (en rfl s2)))))))))) (nd_of rfl) rfl ?_
    refine x_take (d := 25) rfl rfl (en rfl es) ?_
    refine x_val (r_len Try.underlying23 es) (nd_of rfl) rfl ?_
    refine x_take (d := 25) rfl rfl (en rfl (en rfl es)) ?_
    refine x_val (r_gtr es ec (decide_eq_false (by omega))) (nd_of rfl) rfl ?_
    refine x_val (r_pick_f (en rfl (en rfl (en rfl es))) es) (nd_of rfl) rfl ?_
    refine xw_nil ?_
    refine hK3 _ _ ?_
    refine xc_gen (fun g hg => ?_)
    have s0 := (hg 0).trans (en rfl (en rfl (en rfl (en rfl (en rfl (en rfl (en rfl (en rfl (en rfl (en rfl (en rfl (en rfl (en rfl s0)))))))))))))
    have s1 := (hg 1).trans (en rfl (en rfl (en rfl (en rfl (en rfl (en rfl (en rfl (en rfl (en rfl (en rfl (en rfl (en rfl (en rfl s1)))))))))))))
    have s2 := (hg 2).trans (en rfl (en rfl (en rfl (en rfl (en rfl (en rfl (en rfl (en rfl (en rfl (en rfl (en rfl (en rfl (en rfl s2)))))))))))))
    have s3 := (hg 3).trans (en rfl (en rfl (en rfl (en rfl (en rfl (en rfl (en rfl (en rfl (en rfl (en rfl (en rfl (en rfl (en rfl s3)))))))))))))
    have s4 := (hg 4).trans (en rfl (en rfl (en rfl (en rfl (en rfl (en rfl (en rfl (en rfl (en rfl (en rfl (en rfl (en rfl (en rfl s4)))))))))))))
    have s10 := (hg 10).trans (en rfl (en rfl (en rfl (en rfl (en rfl (en rfl (en rfl (en rfl (en rfl (en rfl (en rfl (en rfl (en rfl s10)))))))))))))
    have s29 := (hg 29).trans es
    clear hg
    refine xc_cond s29 (fun hc => by cases hc) (fun _ => ?_)
    refine xc_skip ?_
    refine hK2 _ _ ?_
    refine xc_seq (fun K hK4 => ?_)
    refine xc_region ?_
    refine x_enter (r_call Try.call9 .nil) (nd_of rfl) rfl (newR h) ?_
    rintro _ w ⟨b, rfl, h⟩
    refine x_enter (r_call Try.call9 .nil) (nd_of rfl) rfl (newR h) ?_
    rintro _ w ⟨q, rfl, h⟩
    refine x_val (r_assign (en rfl es)) (nd_of rfl) rfl ?_
    refine x_val (r_assign (en rfl es)) (nd_of rfl) rfl ?_
    refine xw_nil ?_
    refine hK4 _ _ ?_
    refine xc_gen (fun g hg => ?_)
    have s0 := (hg 0).trans (en rfl (en rfl (en rfl (en rfl s0))))
    have s1 := (hg 1).trans (en rfl (en rfl (en rfl (en rfl s1))))
    have s2 := (hg 2).trans (en rfl (en rfl (en rfl (en rfl s2))))
    have s3 := (hg 3).trans (en rfl (en rfl (en rfl (en rfl s3))))
    have s4 := (hg 4).trans (en rfl (en rfl (en rfl (en rfl s4))))
    have s10 := (hg 10).trans (en rfl (en rfl (en rfl (en rfl s10))))
    have s11 := (hg 11).trans (en rfl es)
    have s12 := (hg 12).trans es
    have s29 := (hg 29).trans (en rfl (en rfl (en rfl (en rfl s29))))
    clear hg
    refine xc_seq (fun K hK5 => ?_)
    refine xc_seq (fun K hK6 => ?_)
    refine xc_region ?_
    refine x_val (r_move s11) (nd_of rfl) rfl ?_
    refine x_val (r_move (en rfl s0)) (nd_of rfl) rfl ?_
    have h := h.f1
    refine x_enter (r_call Try.call13 (.cons (en rfl es) (.cons ec (.cons es .nil)))) (nd_of rfl) rfl (insert_new he (hv.up) (B' := 2000) (by omega) (by omega) (by omega) h) ?_
    rintro _ w ⟨rfl, h⟩
    refine x_val (r_neq es ec (r := false) rfl) (nd_of rfl) rfl ?_
    refine x_val (r_move es) (nd_of rfl) rfl ?_
    refine x_take (d := 37) rfl rfl es ?_
    refine x_val (r_move (en rfl (en rfl (en rfl (en rfl (en rfl s12)))))) (nd_of rfl) rfl ?_
    refine x_take (d := 37) rfl rfl (en rfl es) ?_
    refine x_val (r_move (en rfl (en rfl (en rfl (en rfl (en rfl (en rfl s0))))))) (nd_of rfl) rfl ?_
    refine x_take (d := 37) rfl rfl (en rfl (en rfl es)) ?_
    have h := h.f1
    refine x_enter (r_call Try.call13 (.cons (en rfl es) (.cons ec (.cons es .nil)))) (nd_of rfl) rfl (insert_new he (hv.up) (B' := 2000) (by omega) (by omega) (by omega) h) ?_
    rintro _ w ⟨rfl, h⟩
    refine x_take (d := 37) rfl rfl (en rfl (en rfl (en rfl es))) ?_
    refine x_val (r_neq es ec (r := false) rfl) (nd_of rfl) rfl ?_
    refine x_val (r_pick_f (en rfl (en rfl (en rfl (en rfl es)))) es) (nd_of rfl) rfl ?_
    refine x_val (r_move es) (nd_of rfl) rfl ?_
    refine x_take (d := 43) rfl rfl es ?_
    refine x_val (r_move (en rfl (en rfl (en rfl (en rfl (en rfl (en rfl (en rfl (en rfl (en rfl (en rfl (en rfl s3)))))))))))) (nd_of rfl) rfl ?_
    refine x_take (d := 43) rfl rfl (en rfl es) ?_
    refine x_val (r_lss es ec (decide_eq_false (by omega))) (nd_of rfl) rfl ?_
    refine x_val (r_pick_f (en rfl (en rfl es)) es) (nd_of rfl) rfl ?_
    refine x_val (r_move es) (nd_of rfl) rfl ?_
    refine x_take (d := 47) rfl rfl es ?_
    refine x_val (r_move (en rfl (en rfl (en rfl (en rfl (en rfl (en rfl (en rfl (en rfl (en rfl (en rfl (en rfl (en rfl (en rfl (en rfl (en rfl s3)))))))))))))))) (nd_of rfl) rfl ?_
    refine x_take (d := 47) rfl rfl (en rfl es) ?_
    refine x_val (r_move (en rfl (en rfl (en rfl (en rfl (en rfl (en rfl (en rfl (en rfl (en rfl (en rfl (en rfl (en rfl (en rfl (en rfl (en rfl (en rfl s4))))))))))))))))) (nd_of rfl) rfl ?_
    refine x_take (d := 47) rfl rfl (en rfl (en rfl es)) ?_
    refine x_val (r_gtr (en rfl es) es (decide_eq_false (by omega))) (nd_of rfl) rfl ?_
    refine x_val (r_pick_f (en rfl (en rfl (en rfl es))) es) (nd_of rfl) rfl ?_
    refine x_val (r_move es) (nd_of rfl) rfl ?_
    refine x_take (d := 52) rfl rfl es ?_
    refine x_val (r_move (en rfl (en rfl (en rfl (en rfl (en rfl (en rfl (en rfl (en rfl (en rfl (en rfl (en rfl (en rfl (en rfl (en rfl (en rfl (en rfl (en rfl (en rfl (en rfl (en rfl s4))))))))))))))))))))) (nd_of rfl) rfl ?_
    refine x_take (d := 52) rfl rfl (en rfl es) ?_
    refine x_val (r_move (en rfl (en rfl (en rfl (en rfl (en rfl (en rfl (en rfl (en rfl (en rfl (en rfl (en rfl (en rfl (en rfl (en rfl (en rfl (en rfl (en rfl (en rfl (en rfl (en rfl (en rfl s0)))))))))))))))))))))) (nd_of rfl) rfl ?_
    refine x_take (d := 52) rfl rfl (en rfl (en rfl es)) ?_
    refine x_val (r_len Try.underlying23 es) (nd_of rfl) rfl ?_
    refine x_take (d := 52) rfl rfl (en rfl (en rfl (en rfl es))) ?_
    refine x_val (r_gtr (en rfl (en rfl es)) es (decide_eq_true (by omega))) (nd_of rfl) rfl ?_
    refine x_val (r_pick_f (en rfl (en rfl (en rfl (en rfl es)))) es) (nd_of rfl) rfl ?_
    refine xw_nil ?_
    refine hK6 _ _ ?_
    refine xc_gen (fun g hg => ?_)
    have s0 := (hg 0).trans (en rfl (en rfl (en rfl (en rfl (en rfl (en rfl (en rfl (en rfl (en rfl (en rfl (en rfl (en rfl (en rfl (en rfl (en rfl (en rfl (en rfl (en rfl (en rfl (en rfl (en rfl (en rfl (en rfl (en rfl (en rfl s0)))))))))))))))))))))))))
    have s1 := (hg 1).trans (en rfl (en rfl (en rfl (en rfl (en rfl (en rfl (en rfl (en rfl (en rfl (en rfl (en rfl (en rfl (en rfl (en rfl (en rfl (en rfl (en rfl (en rfl (en rfl (en rfl (en rfl (en rfl (en rfl (en rfl (en rfl s1)))))))))))))))))))))))))
    have s2 := (hg 2).trans (en rfl (en rfl (en rfl (en rfl (en rfl (en rfl (en rfl (en rfl (en rfl (en rfl (en rfl (en rfl (en rfl (en rfl (en rfl (en rfl (en rfl (en rfl (en rfl (en rfl (en rfl (en rfl (en rfl (en rfl (en rfl s2)))))))))))))))))))))))))
    have s3 := (hg 3).trans (en rfl (en rfl (en rfl (en rfl (en rfl (en rfl (en rfl (en rfl (en rfl (en rfl (en rfl (en rfl (en rfl (en rfl (en rfl (en rfl (en rfl (en rfl (en rfl (en rfl (en rfl (en rfl (en rfl (en rfl (en rfl s3)))))))))))))))))))))))))
    have s4 := (hg 4).trans (en rfl (en rfl (en rfl (en rfl (en rfl (en rfl (en rfl (en rfl (en rfl (en rfl (en rfl (en rfl (en rfl (en rfl (en rfl (en rfl (en rfl (en rfl (en rfl (en rfl (en rfl (en rfl (en rfl (en rfl (en rfl s4)))))))))))))))))))))))))
    have s10 := (hg 10).trans (en rfl (en rfl (en rfl (en rfl (en rfl (en rfl (en rfl (en rfl (en rfl (en rfl (en rfl (en rfl (en rfl (en rfl (en rfl (en rfl (en rfl (en rfl (en rfl (en rfl (en rfl (en rfl (en rfl (en rfl (en rfl s10)))))))))))))))))))))))))
    have s11 := (hg 11).trans (en rfl (en rfl (en rfl (en rfl (en rfl (en rfl (en rfl (en rfl (en rfl (en rfl (en rfl (en rfl (en rfl (en rfl (en rfl (en rfl (en rfl (en rfl (en rfl (en rfl (en rfl (en rfl (en rfl (en rfl (en rfl s11)))))))))))))))))))))))))
    have s12 := (hg 12).trans (en rfl (en rfl (en rfl (en rfl (en rfl (en rfl (en rfl (en rfl (en rfl (en rfl (en rfl (en rfl (en rfl (en rfl (en rfl (en rfl (en rfl (en rfl (en rfl (en rfl (en rfl (en rfl (en rfl (en rfl (en rfl s12)))))))))))))))))))))))))
    have s29 := (hg 29).trans (en rfl (en rfl (en rfl (en rfl (en rfl (en rfl (en rfl (en rfl (en rfl (en rfl (en rfl (en rfl (en rfl (en rfl (en rfl (en rfl (en rfl (en rfl (en rfl (en rfl (en rfl (en rfl (en rfl (en rfl (en rfl s29)))))))))))))))))))))))))
    have s57 := (hg 57).trans es
    clear hg
    refine xc_cond s57 (fun _ => ?_) (fun hc => by cases hc)
    refine xc_seq (fun K hK7 => ?_)
    refine xc_region ?_
    refine x_enter (r_call Try.call10 .nil) (nd_of rfl) rfl (known_ok h) ?_
    rintro _ w ⟨rfl, h⟩
    refine x_val (r_assign es) (nd_of rfl) rfl ?_
    refine xw_nil ?_
    refine hK7 _ _ ?_
    refine xc_gen (fun g hg => ?_)
    have s0 := (hg 0).trans (en rfl (en rfl s0))
    have s1 := (hg 1).trans (en rfl (en rfl s1))
    have s2 := (hg 2).trans (en rfl (en rfl s2))
    have s3 := (hg 3).trans (en rfl (en rfl s3))
    have s4 := (hg 4).trans (en rfl (en rfl s4))
    have s10 := (hg 10).trans es
    have s11 := (hg 11).trans (en rfl (en rfl s11))
    have s12 := (hg 12).trans (en rfl (en rfl s12))
    have s29 := (hg 29).trans (en rfl (en rfl s29))
    have s57 := (hg 57).trans (en rfl (en rfl s57))
    clear hg
    refine xc_ret ?_
    refine bodyR_1 rfl s10 ?_
    exact ⟨rfl, h.drop.drop⟩
  obtain ⟨ni, rfl⟩ := Int.eq_ofNat_of_zero_le hi0
  obtain ⟨nj, rfl⟩ := Int.eq_ofNat_of_zero_le (Int.le_trans hi0 hij)
  by_cases h4 : insE zs xb (nj : Int) = 0
  case neg =>
    refine calls_x Try.func6 rfl Try.ntmps6 rfl ?_
    refine xc_gen (fun g hg => ?_)
    have s0 := (hg 0).trans arg0
    have s1 := (hg 1).trans arg1
    have s2 := (hg 2).trans arg2
    have s3 := (hg 3).trans arg3
    have s4 := (hg 4).trans arg4
    clear hg
    refine xc_seq (fun K hK1 => ?_)
    refine xc_region ?_
    refine x_val (r_assign ec) (nd_of rfl) rfl ?_
    refine xw_nil ?_
    refine hK1 _ _ ?_
    refine xc_gen (fun g hg => ?_)
    have s0 := (hg 0).trans (en rfl s0)
    have s1 := (hg 1).trans (en rfl s1)
    have s2 := (hg 2).trans (en rfl s2)
    have s3 := (hg 3).trans (en rfl s3)
    have s4 := (hg 4).trans (en rfl s4)
    have s10 := (hg 10).trans es
    clear hg
    refine xc_seq (fun K hK2 => ?_)
    refine xc_seq (fun K hK3 => ?_)
    refine xc_region ?_
    refine x_val (r_move s0) (nd_of rfl) rfl ?_
    refine x_val (r_len Try.underlying23 es) (nd_of rfl) rfl ?_
    refine x_val (r_gtr es ec (decide_eq_false (by omega))) (nd_of rfl) rfl ?_
    refine x_val (r_move es) (nd_of rfl) rfl ?_
    refine x_take (d := 20) rfl rfl es ?_
    refine x_val (r_move (en rfl (en rfl (en rfl (en rfl s1))))) (nd_of rfl) rfl ?_
    refine x_take (d := 20) rfl rfl (en rfl es) ?_
    refine x_val (r_len Try.underlying23 es) (nd_of rfl) rfl ?_
    refine x_take (d := 20) rfl rfl (en rfl (en rfl es)) ?_
    refine x_val (r_gtr es ec (decide_eq_false (by omega))) (nd_of rfl) rfl ?_
    refine x_val (r_pick_f (en rfl (en rfl (en rfl es))) es) (nd_of rfl) rfl ?_
    refine x_val (r_move es) (nd_of rfl) rfl ?_
    refine x_take (d := 25) rfl rfl es ?_
    refine x_val (r_move (en rfl (en rfl (en rfl (en rfl (en rfl (en rfl (en rfl (en rfl (en rfl s2)))))))))) (nd_of rfl) rfl ?_
    refine x_take (d := 25) rfl rfl (en rfl es) ?_
    refine x_val (r_len Try.underlying23 es) (nd_of rfl) rfl ?_
    refine x_take (d := 25) rfl rfl (en rfl (en rfl es)) ?_
    refine x_val (r_gtr es ec (decide_eq_false (by omega))) (nd_of rfl) rfl ?_
    refine x_val (r_pick_f (en rfl (en rfl (en rfl es))) es) (nd_of rfl) rfl ?_
    refine xw_nil ?_
    refine hK3 _ _ ?_
    refine xc_gen (fun g hg => ?_)
    have s0 := (hg 0).trans (en rfl (en rfl (en rfl (en rfl (en rfl (en rfl (en rfl (en rfl (en rfl (en rfl (en rfl (en rfl (en rfl s0)))))))))))))
    have s1 := (hg 1).trans (en rfl (en rfl (en rfl (en rfl (en rfl (en rfl (en rfl (en rfl (en rfl (en rfl (en rfl (en rfl (en rfl s1)))))))))))))
    have s2 := (hg 2).trans (en rfl (en rfl (en rfl (en rfl (en rfl (en rfl (en rfl (en rfl (en rfl (en rfl (en rfl (en rfl (en rfl s2)))))))))))))
    have s3 := (hg 3).trans (en rfl (en rfl (en rfl (en rfl (en rfl (en rfl (en rfl (en rfl (en rfl (en rfl (en rfl (en rfl (en rfl s3)))))))))))))
    have s4 := (hg 4).trans (en rfl (en rfl (en rfl (en rfl (en rfl (en rfl (en rfl (en rfl (en rfl (en rfl (en rfl (en rfl (en rfl s4)))))))))))))
    have s10 := (hg 10).trans (en rfl (en rfl (en rfl (en rfl (en rfl (en rfl (en rfl (en rfl (en rfl (en rfl (en rfl (en rfl (en rfl s10)))))))))))))
    have s29 := (hg 29).trans es
    clear hg
    refine xc_cond s29 (fun hc => by cases hc) (fun _ => ?_)
    refine xc_skip ?_
    refine hK2 _ _ ?_
    refine xc_seq (fun K hK4 => ?_)
    refine xc_region ?_
    refine x_enter (r_call Try.call9 .nil) (nd_of rfl) rfl (newR h) ?_
    rintro _ w ⟨b, rfl, h⟩
    refine x_enter (r_call Try.call9 .nil) (nd_of rfl) rfl (newR h) ?_
    rintro _ w ⟨q, rfl, h⟩
    refine x_val (r_assign (en rfl es)) (nd_of rfl) rfl ?_
    refine x_val (r_assign (en rfl es)) (nd_of rfl) rfl ?_
    refine xw_nil ?_
    refine hK4 _ _ ?_
    refine xc_gen (fun g hg => ?_)
    have s0 := (hg 0).trans (en rfl (en rfl (en rfl (en rfl s0))))
    have s1 := (hg 1).trans (en rfl (en rfl (en rfl (en rfl s1))))
    have s2 := (hg 2).trans (en rfl (en rfl (en rfl (en rfl s2))))
    have s3 := (hg 3).trans (en rfl (en rfl (en rfl (en rfl s3))))
    have s4 := (hg 4).trans (en rfl (en rfl (en rfl (en rfl s4))))
    have s10 := (hg 10).trans (en rfl (en rfl (en rfl (en rfl s10))))
    have s11 := (hg 11).trans (en rfl es)
    have s12 := (hg 12).trans es
    have s29 := (hg 29).trans (en rfl (en rfl (en rfl (en rfl s29))))
    clear hg
    refine xc_seq (fun K hK5 => ?_)
    refine xc_seq (fun K hK6 => ?_)
    refine xc_region ?_
    refine x_val (r_move s11) (nd_of rfl) rfl ?_
    refine x_val (r_move (en rfl s0)) (nd_of rfl) rfl ?_
    have h := h.f1
    refine x_enter (r_call Try.call13 (.cons (en rfl es) (.cons ec (.cons es .nil)))) (nd_of rfl) rfl (insert_new he (hv.up) (B' := 2000) (by omega) (by omega) (by omega) h) ?_
    rintro _ w ⟨rfl, h⟩
    refine x_val (r_neq es ec (r := false) rfl) (nd_of rfl) rfl ?_
    refine x_val (r_move es) (nd_of rfl) rfl ?_
    refine x_take (d := 37) rfl rfl es ?_
    refine x_val (r_move (en rfl (en rfl (en rfl (en rfl (en rfl s12)))))) (nd_of rfl) rfl ?_
    refine x_take (d := 37) rfl rfl (en rfl es) ?_
    refine x_val (r_move (en rfl (en rfl (en rfl (en rfl (en rfl (en rfl s0))))))) (nd_of rfl) rfl ?_
    refine x_take (d := 37) rfl rfl (en rfl (en rfl es)) ?_
    have h := h.f1
    refine x_enter (r_call Try.call13 (.cons (en rfl es) (.cons ec (.cons es .nil)))) (nd_of rfl) rfl (insert_new he (hv.up) (B' := 2000) (by omega) (by omega) (by omega) h) ?_
    rintro _ w ⟨rfl, h⟩
    refine x_take (d := 37) rfl rfl (en rfl (en rfl (en rfl es))) ?_
    refine x_val (r_neq es ec (r := false) rfl) (nd_of rfl) rfl ?_
    refine x_val (r_pick_f (en rfl (en rfl (en rfl (en rfl es)))) es) (nd_of rfl) rfl ?_
    refine x_val (r_move es) (nd_of rfl) rfl ?_
    refine x_take (d := 43) rfl rfl es ?_
    refine x_val (r_move (en rfl (en rfl (en rfl (en rfl (en rfl (en rfl (en rfl (en rfl (en rfl (en rfl (en rfl s3)))))))))))) (nd_of rfl) rfl ?_
    refine x_take (d := 43) rfl rfl (en rfl es) ?_
    refine x_val (r_lss es ec (decide_eq_false (by omega))) (nd_of rfl) rfl ?_
    refine x_val (r_pick_f (en rfl (en rfl es)) es) (nd_of rfl) rfl ?_
    refine x_val (r_move es) (nd_of rfl) rfl ?_
    refine x_take (d := 47) rfl rfl es ?_
    refine x_val (r_move (en rfl (en rfl (en rfl (en rfl (en rfl (en rfl (en rfl (en rfl (en rfl (en rfl (en rfl (en rfl (en rfl (en rfl (en rfl s3)))))))))))))))) (nd_of rfl) rfl ?_
    refine x_take (d := 47) rfl rfl (en rfl es) ?_
    refine x_val (r_move (en rfl (en rfl (en rfl (en rfl (en rfl (en rfl (en rfl (en rfl (en rfl (en rfl (en rfl (en rfl (en rfl (en rfl (en rfl (en rfl s4))))))))))))))))) (nd_of rfl) rfl ?_
    refine x_take (d := 47) rfl rfl (en rfl (en rfl es)) ?_
    refine x_val (r_gtr (en rfl es) es (decide_eq_false (by omega))) (nd_of rfl) rfl ?_
    refine x_val (r_pick_f (en rfl (en rfl (en rfl es))) es) (nd_of rfl) rfl ?_
    refine x_val (r_move es) (nd_of rfl) rfl ?_
    refine x_take (d := 52) rfl rfl es ?_
    refine x_val (r_move (en rfl (en rfl (en rfl (en rfl (en rfl (en rfl (en rfl (en rfl (en rfl (en rfl (en rfl (en rfl (en rfl (en rfl (en rfl (en rfl (en rfl (en rfl (en rfl (en rfl s4))))))))))))))))))))) (nd_of rfl) rfl ?_
    refine x_take (d := 52) rfl rfl (en rfl es) ?_
    refine x_val (r_move (en rfl (en rfl (en rfl (en rfl (en rfl (en rfl (en rfl (en rfl (en rfl (en rfl (en rfl (en rfl (en rfl (en rfl (en rfl (en rfl (en rfl (en rfl (en rfl (en rfl (en rfl s0)))))))))))))))))))))) (nd_of rfl) rfl ?_
    refine x_take (d := 52) rfl rfl (en rfl (en rfl es)) ?_
    refine x_val (r_len Try.underlying23 es) (nd_of rfl) rfl ?_
    refine x_take (d := 52) rfl rfl (en rfl (en rfl (en rfl es))) ?_
    refine x_val (r_gtr (en rfl (en rfl es)) es (decide_eq_false (by omega))) (nd_of rfl) rfl ?_
    refine x_val (r_pick_f (en rfl (en rfl (en rfl (en rfl es)))) es) (nd_of rfl) rfl ?_
    refine xw_nil ?_
    refine hK6 _ _ ?_
    refine xc_gen (fun g hg => ?_)
    have s0 := (hg 0).trans (en rfl (en rfl (en rfl (en rfl (en rfl (en rfl (en rfl (en rfl (en rfl (en rfl (en rfl (en rfl (en rfl (en rfl (en rfl (en rfl (en rfl (en rfl (en rfl (en rfl (en rfl (en rfl (en rfl (en rfl (en rfl s0)))))))))))))))))))))))))
    have s1 := (hg 1).trans (en rfl (en rfl (en rfl (en rfl (en rfl (en rfl (en rfl (en rfl (en rfl (en rfl (en rfl (en rfl (en rfl (en rfl (en rfl (en rfl (en rfl (en rfl (en rfl (en rfl (en rfl (en rfl (en rfl (en rfl (en rfl s1)))))))))))))))))))))))))
    have s2 := (hg 2).trans (en rfl (en rfl (en rfl (en rfl (en rfl (en rfl (en rfl (en rfl (en rfl (en rfl (en rfl (en rfl (en rfl (en rfl (en rfl (en rfl (en rfl (en rfl (en rfl (en rfl (en rfl (en rfl (en rfl (en rfl (en rfl s2)))))))))))))))))))))))))
    have s3 := (hg 3).trans (en rfl (en rfl (en rfl (en rfl (en rfl (en rfl (en rfl (en rfl (en rfl (en rfl (en rfl (en rfl (en rfl (en rfl (en rfl (en rfl (en rfl (en rfl (en rfl (en rfl (en rfl (en rfl (en rfl (en rfl (en rfl s3)))))))))))))))))))))))))
    have s4 := (hg 4).trans (en rfl (en rfl (en rfl (en rfl (en rfl (en rfl (en rfl (en rfl (en rfl (en rfl (en rfl (en rfl (en rfl (en rfl (en rfl (en rfl (en rfl (en rfl (en rfl (en rfl (en rfl (en rfl (en rfl (en rfl (en rfl s4)))))))))))))))))))))))))
    have s10 := (hg 10).trans (en rfl (en rfl (en rfl (en rfl (en rfl (en rfl (en rfl (en rfl (en rfl (en rfl (en rfl (en rfl (en rfl (en rfl (en rfl (en rfl (en rfl (en rfl (en rfl (en rfl (en rfl (en rfl (en rfl (en rfl (en rfl s10)))))))))))))))))))))))))
    have s11 := (hg 11).trans (en rfl (en rfl (en rfl (en rfl (en rfl (en rfl (en rfl (en rfl (en rfl (en rfl (en rfl (en rfl (en rfl (en rfl (en rfl (en rfl (en rfl (en rfl (en rfl (en rfl (en rfl (en rfl (en rfl (en rfl (en rfl s11)))))))))))))))))))))))))
    have s12 := (hg 12).trans (en rfl (en rfl (en rfl (en rfl (en rfl (en rfl (en rfl (en rfl (en rfl (en rfl (en rfl (en rfl (en rfl (en rfl (en rfl (en rfl (en rfl (en rfl (en rfl (en rfl (en rfl (en rfl (en rfl (en rfl (en rfl s12)))))))))))))))))))))))))
    have s29 := (hg 29).trans (en rfl (en rfl (en rfl (en rfl (en rfl (en rfl (en rfl (en rfl (en rfl (en rfl (en rfl (en rfl (en rfl (en rfl (en rfl (en rfl (en rfl (en rfl (en rfl (en rfl (en rfl (en rfl (en rfl (en rfl (en rfl s29)))))))))))))))))))))))))
    have s57 := (hg 57).trans es
    clear hg
    refine xc_cond s57 (fun hc => by cases hc) (fun _ => ?_)
    refine xc_skip ?_
    refine hK5 _ _ ?_
    refine xc_seq (fun K hK7 => ?_)
    refine xc_seq (fun K hK8 => ?_)
    refine xc_region ?_
    refine x_val (r_move s11) (nd_of rfl) rfl ?_
    refine x_val (r_move (en rfl s4)) (nd_of rfl) rfl ?_
    refine x_val (r_move (en rfl (en rfl s2))) (nd_of rfl) rfl ?_
    have h := h.f1
    refine x_enter (r_call Try.call13 (.cons (en rfl (en rfl es)) (.cons (en rfl es) (.cons es .nil)))) (nd_of rfl) rfl (insert_fail h4 (hvb.up) (B' := 3000) (by omega) (by omega) (by omega) h) ?_
    rintro _ w ⟨rfl, h⟩
    refine x_val (r_neq es ec (decide_eq_true (by exact h4))) (nd_of rfl) rfl ?_
    refine x_val (r_move es) (nd_of rfl) rfl ?_
    refine x_pass (d := 64) rfl rfl es rfl ?_
    refine x_pass (d := 64) rfl rfl (en rfl es) rfl ?_
    refine x_pass (d := 64) rfl rfl (en rfl (en rfl es)) rfl ?_
    refine x_pass (d := 64) rfl rfl (en rfl (en rfl (en rfl es))) rfl ?_
    refine x_pass (d := 64) rfl rfl (en rfl (en rfl (en rfl (en rfl es)))) rfl ?_
    refine x_val (r_pick_t (en rfl (en rfl (en rfl (en rfl (en rfl es))))) ec) (nd_of rfl) rfl ?_
    refine xw_nil ?_
    refine hK8 _ _ ?_
    refine xc_gen (fun g hg => ?_)
    have s0 := (hg 0).trans (en rfl (en rfl (en rfl (en rfl (en rfl (en rfl (en rfl (en rfl (en rfl (en rfl (en rfl (en rfl s0))))))))))))
    have s1 := (hg 1).trans (en rfl (en rfl (en rfl (en rfl (en rfl (en rfl (en rfl (en rfl (en rfl (en rfl (en rfl (en rfl s1))))))))))))
    have s2 := (hg 2).trans (en rfl (en rfl (en rfl (en rfl (en rfl (en rfl (en rfl (en rfl (en rfl (en rfl (en rfl (en rfl s2))))))))))))
    have s3 := (hg 3).trans (en rfl (en rfl (en rfl (en rfl (en rfl (en rfl (en rfl (en rfl (en rfl (en rfl (en rfl (en rfl s3))))))))))))
    have s4 := (hg 4).trans (en rfl (en rfl (en rfl (en rfl (en rfl (en rfl (en rfl (en rfl (en rfl (en rfl (en rfl (en rfl s4))))))))))))
    have s10 := (hg 10).trans (en rfl (en rfl (en rfl (en rfl (en rfl (en rfl (en rfl (en rfl (en rfl (en rfl (en rfl (en rfl s10))))))))))))
    have s11 := (hg 11).trans (en rfl (en rfl (en rfl (en rfl (en rfl (en rfl (en rfl (en rfl (en rfl (en rfl (en rfl (en rfl s11))))))))))))
    have s12 := (hg 12).trans (en rfl (en rfl (en rfl (en rfl (en rfl (en rfl (en rfl (en rfl (en rfl (en rfl (en rfl (en rfl s12))))))))))))
    have s29 := (hg 29).trans (en rfl (en rfl (en rfl (en rfl (en rfl (en rfl (en rfl (en rfl (en rfl (en rfl (en rfl (en rfl s29))))))))))))
    have s57 := (hg 57).trans (en rfl (en rfl (en rfl (en rfl (en rfl (en rfl (en rfl (en rfl (en rfl (en rfl (en rfl (en rfl s57))))))))))))
    have s70 := (hg 70).trans es
    clear hg
    refine xc_cond s70 (fun _ => ?_) (fun hc => by cases hc)
    refine xc_seq (fun K hK9 => ?_)
    refine xc_region ?_
    refine x_enter (r_call Try.call10 .nil) (nd_of rfl) rfl (known_ok h) ?_
    rintro _ w ⟨rfl, h⟩
    refine x_val (r_assign es) (nd_of rfl) rfl ?_
    refine xw_nil ?_
    refine hK9 _ _ ?_
    refine xc_gen (fun g hg => ?_)
    have s0 := (hg 0).trans (en rfl (en rfl s0))
    have s1 := (hg 1).trans (en rfl (en rfl s1))
    have s2 := (hg 2).trans (en rfl (en rfl s2))
    have s3 := (hg 3).trans (en rfl (en rfl s3))
    have s4 := (hg 4).trans (en rfl (en rfl s4))
    have s10 := (hg 10).trans es
    have s11 := (hg 11).trans (en rfl (en rfl s11))
    have s12 := (hg 12).trans (en rfl (en rfl s12))
    have s29 := (hg 29).trans (en rfl (en rfl s29))
    have s57 := (hg 57).trans (en rfl (en rfl s57))
    have s70 := (hg 70).trans (en rfl (en rfl s70))
    clear hg
    refine xc_ret ?_
    refine bodyR_1 rfl s10 ?_
    exact ⟨rfl, h.drop.drop⟩
  obtain ⟨T1, hT1⟩ : ∃ T1, T1 = zs.take nj ++ (xb ++ zs.drop nj) := ⟨_, rfl⟩
  have hl1 : T1.length = zs.length + xb.length := by rw [hT1]; simp only [List.length_append, List.length_take, List.length_drop]; omega
  by_cases h5 : insE T1 xa (ni : Int) = 0
  case neg =>
    refine calls_x Try.func6 rfl Try.ntmps6 rfl ?_
    refine xc_gen (fun g hg => ?_)
    have s0 := (hg 0).trans arg0
    have s1 := (hg 1).trans arg1
    have s2 := (hg 2).trans arg2
    have s3 := (hg 3).trans arg3
    have s4 := (hg 4).trans arg4
    clear hg
    refine xc_seq (fun K hK1 => ?_)
    refine xc_region ?_
    refine x_val (r_assign ec) (nd_of rfl) rfl ?_
    refine xw_nil ?_
    refine hK1 _ _ ?_
    refine xc_gen (fun g hg => ?_)
    have s0 := (hg 0).trans (en rfl s0)
    have s1 := (hg 1).trans (en rfl s1)
    have s2 := (hg 2).trans (en rfl s2)
    have s3 := (hg 3).trans (en rfl s3)
    have s4 := (hg 4).trans (en rfl s4)
    have s10 := (hg 10).trans es
    clear hg
    refine xc_seq (fun K hK2 => ?_)
    refine xc_seq (fun K hK3 => ?_)
    refine xc_region ?_
    refine x_val (r_move s0) (nd_of rfl) rfl ?_
    refine x_val (r_len Try.underlying23 es) (nd_of rfl) rfl ?_
    refine x_val (r_gtr es ec (decide_eq_false (by omega))) (nd_of rfl) rfl ?_
    refine x_val (r_move es) (nd_of rfl) rfl ?_
    refine x_take (d := 20) rfl rfl es ?_
    refine x_val (r_move (en rfl (en rfl (en rfl (en rfl s1))))) (nd_of rfl) rfl ?_
    refine x_take (d := 20) rfl rfl (en rfl es) ?_
    refine x_val (r_len Try.underlying23 es) (nd_of rfl) rfl ?_
    refine x_take (d := 20) rfl rfl (en rfl (en rfl es)) ?_
    refine x_val (r_gtr es ec (decide_eq_false (by omega))) (nd_of rfl) rfl ?_
    refine x_val (r_pick_f (en rfl (en rfl (en rfl es))) es) (nd_of rfl) rfl ?_
    refine x_val (r_move es) (nd_of rfl) rfl ?_
    refine x_take (d := 25) rfl rfl es ?_
    refine x_val (r_move (en rfl (en rfl (en rfl (en rfl (en rfl (en rfl (en rfl (en rfl (en rfl s2)))))))))) (nd_of rfl) rfl ?_
    refine x_take (d := 25) rfl rfl (en rfl es) ?_
    refine x_val (r_len Try.underlying23 es) (nd_of rfl) rfl ?_
    refine x_take (d := 25) rfl rfl (en rfl (en rfl es)) ?_
    refine x_val (r_gtr es ec (decide_eq_false (by omega))) (nd_of rfl) rfl ?_
    refine x_val (r_pick_f (en rfl (en rfl (en rfl es))) es) (nd_of rfl) rfl ?_
    refine xw_nil ?_
    refine hK3 _ _ ?_
    refine xc_gen (fun g hg => ?_)
    have s0 := (hg 0).trans (en rfl (en rfl (en rfl (en rfl (en rfl (en rfl (en rfl (en rfl (en rfl (en rfl (en rfl (en rfl (en rfl s0)))))))))))))
    have s1 := (hg 1).trans (en rfl (en rfl (en rfl (en rfl (en rfl (en rfl (en rfl (en rfl (en rfl (en rfl (en rfl (en rfl (en rfl s1)))))))))))))
    have s2 := (hg 2).trans (en rfl (en rfl (en rfl (en rfl (en rfl (en rfl (en rfl (en rfl (en rfl (en rfl (en rfl (en rfl (en rfl s2)))))))))))))
    have s3 := (hg 3).trans (en rfl (en rfl (en rfl (en rfl (en rfl (en rfl (en rfl (en rfl (en rfl (en rfl (en rfl (en rfl (en rfl s3)))))))))))))
    have s4 := (hg 4).trans (en rfl (en rfl (en rfl (en rfl (en rfl (en rfl (en rfl (en rfl (en rfl (en rfl (en rfl (en rfl (en rfl s4)))))))))))))
    have s10 := (hg 10).trans (en rfl (en rfl (en rfl (en rfl (en rfl (en rfl (en rfl (en rfl (en rfl (en rfl (en rfl (en rfl (en rfl s10)))))))))))))
    have s29 := (hg 29).trans es
    clear hg
    refine xc_cond s29 (fun hc => by cases hc) (fun _ => ?_)
    refine xc_skip ?_
    refine hK2 _ _ ?_
    refine xc_seq (fun K hK4 => ?_)
    refine xc_region ?_
    refine x_enter (r_call Try.call9 .nil) (nd_of rfl) rfl (newR h) ?_
    rintro _ w ⟨b, rfl, h⟩
    refine x_enter (r_call Try.call9 .nil) (nd_of rfl) rfl (newR h) ?_
    rintro _ w ⟨q, rfl, h⟩
    refine x_val (r_assign (en rfl es)) (nd_of rfl) rfl ?_
    refine x_val (r_assign (en rfl es)) (nd_of rfl) rfl ?_
    refine xw_nil ?_
    refine hK4 _ _ ?_
    refine xc_gen (fun g hg => ?_)
    have s0 := (hg 0).trans (en rfl (en rfl (en rfl (en rfl s0))))
    have s1 := (hg 1).trans (en rfl (en rfl (en rfl (en rfl s1))))
    have s2 := (hg 2).trans (en rfl (en rfl (en rfl (en rfl s2))))
    have s3 := (hg 3).trans (en rfl (en rfl (en rfl (en rfl s3))))
    have s4 := (hg 4).trans (en rfl (en rfl (en rfl (en rfl s4))))
    have s10 := (hg 10).trans (en rfl (en rfl (en rfl (en rfl s10))))
    have s11 := (hg 11).trans (en rfl es)
    have s12 := (hg 12).trans es
    have s29 := (hg 29).trans (en rfl (en rfl (en rfl (en rfl s29))))
    clear hg
    refine xc_seq (fun K hK5 => ?_)
    refine xc_seq (fun K hK6 => ?_)
    refine xc_region ?_
    refine x_val (r_move s11) (nd_of rfl) rfl ?_
    refine x_val (r_move (en rfl s0)) (nd_of rfl) rfl ?_
    have h := h.f1
    refine x_enter (r_call Try.call13 (.cons (en rfl es) (.cons ec (.cons es .nil)))) (nd_of rfl) rfl (insert_new he (hv.up) (B' := 2000) (by omega) (by omega) (by omega) h) ?_
    rintro _ w ⟨rfl, h⟩
    refine x_val (r_neq es ec (r := false) rfl) (nd_of rfl) rfl ?_
    refine x_val (r_move es) (nd_of rfl) rfl ?_
    refine x_take (d := 37) rfl rfl es ?_
    refine x_val (r_move (en rfl (en rfl (en rfl (en rfl (en rfl s12)))))) (nd_of rfl) rfl ?_
    refine x_take (d := 37) rfl rfl (en rfl es) ?_
    refine x_val (r_move (en rfl (en rfl (en rfl (en rfl (en rfl (en rfl s0))))))) (nd_of rfl) rfl ?_
    refine x_take (d := 37) rfl rfl (en rfl (en rfl es)) ?_
    have h := h.f1
    refine x_enter (r_call Try.call13 (.cons (en rfl es) (.cons ec (.cons es .nil)))) (nd_of rfl) rfl (insert_new he (hv.up) (B' := 2000) (by omega) (by omega) (by omega) h) ?_
    rintro _ w ⟨rfl, h⟩
    refine x_take (d := 37) rfl rfl (en rfl (en rfl (en rfl es))) ?_
    refine x_val (r_neq es ec (r := false) rfl) (nd_of rfl) rfl ?_
    refine x_val (r_pick_f (en rfl (en rfl (en rfl (en rfl es)))) es) (nd_of rfl) rfl ?_
    refine x_val (r_move es) (nd_of rfl) rfl ?_
    refine x_take (d := 43) rfl rfl es ?_
    refine x_val (r_move (en rfl (en rfl (en rfl (en rfl (en rfl (en rfl (en rfl (en rfl (en rfl (en rfl (en rfl s3)))))))))))) (nd_of rfl) rfl ?_
    refine x_take (d := 43) rfl rfl (en rfl es) ?_
    refine x_val (r_lss es ec (decide_eq_false (by omega))) (nd_of rfl) rfl ?_
    refine x_val (r_pick_f (en rfl (en rfl es)) es) (nd_of rfl) rfl ?_
    refine x_val (r_move es) (nd_of rfl) rfl ?_
    refine x_take (d := 47) rfl rfl es ?_
    refine x_val (r_move (en rfl (en rfl (en rfl (en rfl (en rfl (en rfl (en rfl (en rfl (en rfl (en rfl (en rfl (en rfl (en rfl (en rfl (en rfl s3)))))))))))))))) (nd_of rfl) rfl ?_
    refine x_take (d := 47) rfl rfl (en rfl es) ?_
    refine x_val (r_move (en rfl (en rfl (en rfl (en rfl (en rfl (en rfl (en rfl (en rfl (en rfl (en rfl (en rfl (en rfl (en rfl (en rfl (en rfl (en rfl s4))))))))))))))))) (nd_of rfl) rfl ?_
    refine x_take (d := 47) rfl rfl (en rfl (en rfl es)) ?_
    refine x_val (r_gtr (en rfl es) es (decide_eq_false (by omega))) (nd_of rfl) rfl ?_
    refine x_val (r_pick_f (en rfl (en rfl (en rfl es))) es) (nd_of rfl) rfl ?_
    refine x_val (r_move es) (nd_of rfl) rfl ?_
    refine x_take (d := 52) rfl rfl es ?_
    refine x_val (r_move (en rfl (en rfl (en rfl (en rfl (en rfl (en rfl (en rfl (en rfl (en rfl (en rfl (en rfl (en rfl (en rfl (en rfl (en rfl (en rfl (en rfl (en rfl (en rfl (en rfl s4))))))))))))))))))))) (nd_of rfl) rfl ?_
    refine x_take (d := 52) rfl rfl (en rfl es) ?_
    refine x_val (r_move (en rfl (en rfl (en rfl (en rfl (en rfl (en rfl (en rfl (en rfl (en rfl (en rfl (en rfl (en rfl (en rfl (en rfl (en rfl (en rfl (en rfl (en rfl (en rfl (en rfl (en rfl s0)))))))))))))))))))))) (nd_of rfl) rfl ?_
    refine x_take (d := 52) rfl rfl (en rfl (en rfl es)) ?_
    refine x_val (r_len Try.underlying23 es) (nd_of rfl) rfl ?_
    refine x_take (d := 52) rfl rfl (en rfl (en rfl (en rfl es))) ?_
    refine x_val (r_gtr (en rfl (en rfl es)) es (decide_eq_false (by omega))) (nd_of rfl) rfl ?_
    refine x_val (r_pick_f (en rfl (en rfl (en rfl (en rfl es)))) es) (nd_of rfl) rfl ?_
    refine xw_nil ?_
    refine hK6 _ _ ?_
    refine xc_gen (fun g hg => ?_)
    have s0 := (hg 0).trans (en rfl (en rfl (en rfl (en rfl (en rfl (en rfl (en rfl (en rfl (en rfl (en rfl (en rfl (en rfl (en rfl (en rfl (en rfl (en rfl (en rfl (en rfl (en rfl (en rfl (en rfl (en rfl (en rfl (en rfl (en rfl s0)))))))))))))))))))))))))
    have s1 := (hg 1).trans (en rfl (en rfl (en rfl (en rfl (en rfl (en rfl (en rfl (en rfl (en rfl (en rfl (en rfl (en rfl (en rfl (en rfl (en rfl (en rfl (en rfl (en rfl (en rfl (en rfl (en rfl (en rfl (en rfl (en rfl (en rfl s1)))))))))))))))))))))))))
    have s2 := (hg 2).trans (en rfl (en rfl (en rfl (en rfl (en rfl (en rfl (en rfl (en rfl (en rfl (en rfl (en rfl (en rfl (en rfl (en rfl (en rfl (en rfl (en rfl (en rfl (en rfl (en rfl (en rfl (en rfl (en rfl (en rfl (en rfl s2)))))))))))))))))))))))))
    have s3 := (hg 3).trans (en rfl (en rfl (en rfl (en rfl (en rfl (en rfl (en rfl (en rfl (en rfl (en rfl (en rfl (en rfl (en rfl (en rfl (en rfl (en rfl (en rfl (en rfl (en rfl (en rfl (en rfl (en rfl (en rfl (en rfl (en rfl s3)))))))))))))))))))))))))
    have s4 := (hg 4).trans (en rfl (en rfl (en rfl (en rfl (en rfl (en rfl (en rfl (en rfl (en rfl (en rfl (en rfl (en rfl (en rfl (en rfl (en rfl (en rfl (en rfl (en rfl (en rfl (en rfl (en rfl (en rfl (en rfl (en rfl (en rfl s4)))))))))))))))))))))))))
    have s10 := (hg 10).trans (en rfl (en rfl (en rfl (en rfl (en rfl (en rfl (en rfl (en rfl (en rfl (en rfl (en rfl (en rfl (en rfl (en rfl (en rfl (en rfl (en rfl (en rfl (en rfl (en rfl (en rfl (en rfl (en rfl (en rfl (en rfl s10)))))))))))))))))))))))))
    have s11 := (hg 11).trans (en rfl (en rfl (en rfl (en rfl (en rfl (en rfl (en rfl (en rfl (en rfl (en rfl (en rfl (en rfl (en rfl (en rfl (en rfl (en rfl (en rfl (en rfl (en rfl (en rfl (en rfl (en rfl (en rfl (en rfl (en rfl s11)))))))))))))))))))))))))
    have s12 := (hg 12).trans (en rfl (en rfl (en rfl (en rfl (en rfl (en rfl (en rfl (en rfl (en rfl (en rfl (en rfl (en rfl (en rfl (en rfl (en rfl (en rfl (en rfl (en rfl (en rfl (en rfl (en rfl (en rfl (en rfl (en rfl (en rfl s12)))))))))))))))))))))))))
    have s29 := (hg 29).trans (en rfl (en rfl (en rfl (en rfl (en rfl (en rfl (en rfl (en rfl (en rfl (en rfl (en rfl (en rfl (en rfl (en rfl (en rfl (en rfl (en rfl (en rfl (en rfl (en rfl (en rfl (en rfl (en rfl (en rfl (en rfl s29)))))))))))))))))))))))))
    have s57 := (hg 57).trans es
    clear hg
    refine xc_cond s57 (fun hc => by cases hc) (fun _ => ?_)
    refine xc_skip ?_
    refine hK5 _ _ ?_
    refine xc_seq (fun K hK7 => ?_)
    refine xc_seq (fun K hK8 => ?_)
    refine xc_region ?_
    refine x_val (r_move s11) (nd_of rfl) rfl ?_
    refine x_val (r_move (en rfl s4)) (nd_of rfl) rfl ?_
    refine x_val (r_move (en rfl (en rfl s2))) (nd_of rfl) rfl ?_
    have h := h.f1
    refine x_enter (r_call Try.call13 (.cons (en rfl (en rfl es)) (.cons (en rfl es) (.cons es .nil)))) (nd_of rfl) rfl (insert_yes h4 (hvb.up) (B' := 3000) (by omega) (by omega) (by omega) h) ?_
    rintro _ w ⟨rfl, h⟩
    rw [Int.toNat_natCast, ← hT1] at h
    refine x_val (r_neq es ec (r := false) rfl) (nd_of rfl) rfl ?_
    refine x_val (r_move es) (nd_of rfl) rfl ?_
    refine x_take (d := 64) rfl rfl es ?_
    refine x_val (r_move (en rfl (en rfl (en rfl (en rfl (en rfl (en rfl s11))))))) (nd_of rfl) rfl ?_
    refine x_take (d := 64) rfl rfl (en rfl es) ?_
    refine x_val (r_move (en rfl (en rfl (en rfl (en rfl (en rfl (en rfl (en rfl s3)))))))) (nd_of rfl) rfl ?_
    refine x_take (d := 64) rfl rfl (en rfl (en rfl es)) ?_
    refine x_val (r_move (en rfl (en rfl (en rfl (en rfl (en rfl (en rfl (en rfl (en rfl s1))))))))) (nd_of rfl) rfl ?_
    refine x_take (d := 64) rfl rfl (en rfl (en rfl (en rfl es))) ?_
    refine x_enter (r_call Try.call13 (.cons (en rfl (en rfl es)) (.cons (en rfl es) (.cons es .nil)))) (nd_of rfl) rfl (insert_fail h5 (hva.up) (B' := 4000) (by omega) (by omega) (by omega) h) ?_
    rintro _ w ⟨rfl, h⟩
    refine x_take (d := 64) rfl rfl (en rfl (en rfl (en rfl (en rfl es)))) ?_
    refine x_val (r_neq es ec (decide_eq_true (by exact h5))) (nd_of rfl) rfl ?_
    refine x_val (r_pick_f (en rfl (en rfl (en rfl (en rfl (en rfl es))))) es) (nd_of rfl) rfl ?_
    refine xw_nil ?_
    refine hK8 _ _ ?_
    refine xc_gen (fun g hg => ?_)
    have s0 := (hg 0).trans (en rfl (en rfl (en rfl (en rfl (en rfl (en rfl (en rfl (en rfl (en rfl (en rfl (en rfl (en rfl s0))))))))))))
    have s1 := (hg 1).trans (en rfl (en rfl (en rfl (en rfl (en rfl (en rfl (en rfl (en rfl (en rfl (en rfl (en rfl (en rfl s1))))))))))))
    have s2 := (hg 2).trans (en rfl (en rfl (en rfl (en rfl (en rfl (en rfl (en rfl (en rfl (en rfl (en rfl (en rfl (en rfl s2))))))))))))
    have s3 := (hg 3).trans (en rfl (en rfl (en rfl (en rfl (en rfl (en rfl (en rfl (en rfl (en rfl (en rfl (en rfl (en rfl s3))))))))))))
    have s4 := (hg 4).trans (en rfl (en rfl (en rfl (en rfl (en rfl (en rfl (en rfl (en rfl (en rfl (en rfl (en rfl (en rfl s4))))))))))))
    have s10 := (hg 10).trans (en rfl (en rfl (en rfl (en rfl (en rfl (en rfl (en rfl (en rfl (en rfl (en rfl (en rfl (en rfl s10))))))))))))
    have s11 := (hg 11).trans (en rfl (en rfl (en rfl (en rfl (en rfl (en rfl (en rfl (en rfl (en rfl (en rfl (en rfl (en rfl s11))))))))))))
    have s12 := (hg 12).trans (en rfl (en rfl (en rfl (en rfl (en rfl (en rfl (en rfl (en rfl (en rfl (en rfl (en rfl (en rfl s12))))))))))))
    have s29 := (hg 29).trans (en rfl (en rfl (en rfl (en rfl (en rfl (en rfl (en rfl (en rfl (en rfl (en rfl (en rfl (en rfl s29))))))))))))
    have s57 := (hg 57).trans (en rfl (en rfl (en rfl (en rfl (en rfl (en rfl (en rfl (en rfl (en rfl (en rfl (en rfl (en rfl s57))))))))))))
    have s70 := (hg 70).trans es
    clear hg
    refine xc_cond s70 (fun _ => ?_) (fun hc => by cases hc)
    refine xc_seq (fun K hK9 => ?_)
    refine xc_region ?_
    refine x_enter (r_call Try.call10 .nil) (nd_of rfl) rfl (known_ok h) ?_
    rintro _ w ⟨rfl, h⟩
    refine x_val (r_assign es) (nd_of rfl) rfl ?_
    refine xw_nil ?_
    refine hK9 _ _ ?_
    refine xc_gen (fun g hg => ?_)
    have s0 := (hg 0).trans (en rfl (en rfl s0))
    have s1 := (hg 1).trans (en rfl (en rfl s1))
    have s2 := (hg 2).trans (en rfl (en rfl s2))
    have s3 := (hg 3).trans (en rfl (en rfl s3))
    have s4 := (hg 4).trans (en rfl (en rfl s4))
    have s10 := (hg 10).trans es
    have s11 := (hg 11).trans (en rfl (en rfl s11))
    have s12 := (hg 12).trans (en rfl (en rfl s12))
    have s29 := (hg 29).trans (en rfl (en rfl s29))
    have s57 := (hg 57).trans (en rfl (en rfl s57))
    have s70 := (hg 70).trans (en rfl (en rfl s70))
    clear hg
    refine xc_ret ?_
    refine bodyR_1 rfl s10 ?_
    exact ⟨rfl, h.drop.drop⟩
  obtain ⟨S1, hS1⟩ : ∃ S1, S1 = zs.take ni ++ (xa ++ zs.drop ni) := ⟨_, rfl⟩
  have hl2 : S1.length = zs.length + xa.length := by rw [hS1]; simp only [List.length_append, List.length_take, List.length_drop]; omega
  have h6 : insE zs xa (ni : Int) = 0 := insE_mk (insE_zero h5).1 ⟨by omega, by omega, by omega⟩
  have h7 : insE S1 xb ((nj + xa.length : Nat) : Int) = 0 := insE_mk (insE_zero h4).1 ⟨by omega, by omega, by omega⟩
  have hlaw := either_law (zs := zs) (xa := xa) (xb := xb) (i := ni) (j := nj) (by omega) (by omega)
  rw [← hT1, ← hS1] at hlaw
  have fl : (T1.take ni ++ (xa ++ T1.drop ni)).length = T1.length + xa.length := by simp only [List.length_append, List.length_take, List.length_drop]; omega
  refine calls_x Try.func6 rfl Try.ntmps6 rfl ?_
  refine xc_gen (fun g hg => ?_)
  have s0 := (hg 0).trans arg0
  have s1 := (hg 1).trans arg1
  have s2 := (hg 2).trans arg2
  have s3 := (hg 3).trans arg3
  have s4 := (hg 4).trans arg4
  clear hg
  refine xc_seq (fun K hK1 => ?_)
  refine xc_region ?_
  refine x_val (r_assign ec) (nd_of rfl) rfl ?_
  refine xw_nil ?_
  refine hK1 _ _ ?_
  refine xc_gen (fun g hg => ?_)
  have s0 := (hg 0).trans (en rfl s0)
  have s1 := (hg 1).trans (en rfl s1)
  have s2 := (hg 2).trans (en rfl s2)
  have s3 := (hg 3).trans (en rfl s3)
  have s4 := (hg 4).trans (en rfl s4)
  have s10 := (hg 10).trans es
  clear hg
  refine xc_seq (fun K hK2 => ?_)
  refine xc_seq (fun K hK3 => ?_)
  refine xc_region ?_
  refine x_val (r_move s0) (nd_of rfl) rfl ?_
  refine x_val (r_len Try.underlying23 es) (nd_of rfl) rfl ?_
  refine x_val (r_gtr es ec (decide_eq_false (by omega))) (nd_of rfl) rfl ?_
  refine x_val (r_move es) (nd_of rfl) rfl ?_
  refine x_take (d := 20) rfl rfl es ?_
  refine x_val (r_move (en rfl (en rfl (en rfl (en rfl s1))))) (nd_of rfl) rfl ?_
  refine x_take (d := 20) rfl rfl (en rfl es) ?_
  refine x_val (r_len Try.underlying23 es) (nd_of rfl) rfl ?_
  refine x_take (d := 20) rfl rfl (en rfl (en rfl es)) ?_
  refine x_val (r_gtr es ec (decide_eq_false (by omega))) (nd_of rfl) rfl ?_
  refine x_val (r_pick_f (en rfl (en rfl (en rfl es))) es) (nd_of rfl) rfl ?_
  refine x_val (r_move es) (nd_of rfl) rfl ?_
  refine x_take (d := 25) rfl rfl es ?_
  refine x_val (r_move (en rfl (en rfl (en rfl (en rfl (en rfl (en rfl (en rfl (en rfl (en rfl s2)))))))))) (nd_of rfl) rfl ?_
  refine x_take (d := 25) rfl rfl (en rfl es) ?_
  refine x_val (r_len Try.underlying23 es) (nd_of rfl) rfl ?_
  refine x_take (d := 25) rfl rfl (en rfl (en rfl es)) ?_
  refine x_val (r_gtr es ec (decide_eq_false (by omega))) (nd_of rfl) rfl ?_
  refine x_val (r_pick_f (en rfl (en rfl (en rfl es))) es) (nd_of rfl) rfl ?_
  refine xw_nil ?_
  refine hK3 _ _ ?_
  refine xc_gen (fun g hg => ?_)
  have s0 := (hg 0).trans (en rfl (en rfl (en rfl (en rfl (en rfl (en rfl (en rfl (en rfl (en rfl (en rfl (en rfl (en rfl (en rfl s0)))))))))))))
  have s1 := (hg 1).trans (en rfl (en rfl (en rfl (en rfl (en rfl (en rfl (en rfl (en rfl (en rfl (en rfl (en rfl (en rfl (en rfl s1)))))))))))))
  have s2 := (hg 2).trans (en rfl (en rfl (en rfl (en rfl (en rfl (en rfl (en rfl (en rfl (en rfl (en rfl (en rfl (en rfl (en rfl s2)))))))))))))
  have s3 := (hg 3).trans (en rfl (en rfl (en rfl (en rfl (en rfl (en rfl (en rfl (en rfl (en rfl (en rfl (en rfl (en rfl (en rfl s3)))))))))))))
  have s4 := (hg 4).trans (en rfl (en rfl (en rfl (en rfl (en rfl (en rfl (en rfl (en rfl (en rfl (en rfl (en rfl (en rfl (en rfl s4)))))))))))))
  have s10 := (hg 10).trans (en rfl (en rfl (en rfl (en rfl (en rfl (en rfl (en rfl (en rfl (en rfl (en rfl (en rfl (en rfl (en rfl s10)))))))))))))
  have s29 := (hg 29).trans es
  clear hg
  refine xc_cond s29 (fun hc => by cases hc) (fun _ => ?_)
  refine xc_skip ?_
  refine hK2 _ _ ?_
  refine xc_seq (fun K hK4 => ?_)
  refine xc_region ?_
  refine x_enter (r_call Try.call9 .nil) (nd_of rfl) rfl (newR h) ?_
  rintro _ w ⟨b, rfl, h⟩
  refine x_enter (r_call Try.call9 .nil) (nd_of rfl) rfl (newR h) ?_
  rintro _ w ⟨q, rfl, h⟩
  refine x_val (r_assign (en rfl es)) (nd_of rfl) rfl ?_
  refine x_val (r_assign (en rfl es)) (nd_of rfl) rfl ?_
  refine xw_nil ?_
  refine hK4 _ _ ?_
  refine xc_gen (fun g hg => ?_)
  have s0 := (hg 0).trans (en rfl (en rfl (en rfl (en rfl s0))))
  have s1 := (hg 1).trans (en rfl (en rfl (en rfl (en rfl s1))))
  have s2 := (hg 2).trans (en rfl (en rfl (en rfl (en rfl s2))))
  have s3 := (hg 3).trans (en rfl (en rfl (en rfl (en rfl s3))))
  have s4 := (hg 4).trans (en rfl (en rfl (en rfl (en rfl s4))))
  have s10 := (hg 10).trans (en rfl (en rfl (en rfl (en rfl s10))))
  have s11 := (hg 11).trans (en rfl es)
  have s12 := (hg 12).trans es
  have s29 := (hg 29).trans (en rfl (en rfl (en rfl (en rfl s29))))
  clear hg
  refine xc_seq (fun K hK5 => ?_)
  refine xc_seq (fun K hK6 => ?_)
  refine xc_region ?_
  refine x_val (r_move s11) (nd_of rfl) rfl ?_
  refine x_val (r_move (en rfl s0)) (nd_of rfl) rfl ?_
  have h := h.f1
  refine x_enter (r_call Try.call13 (.cons (en rfl es) (.cons ec (.cons es .nil)))) (nd_of rfl) rfl (insert_new he (hv.up) (B' := 2000) (by omega) (by omega) (by omega) h) ?_
  rintro _ w ⟨rfl, h⟩
  refine x_val (r_neq es ec (r := false) rfl) (nd_of rfl) rfl ?_
  refine x_val (r_move es) (nd_of rfl) rfl ?_
  refine x_take (d := 37) rfl rfl es ?_
  refine x_val (r_move (en rfl (en rfl (en rfl (en rfl (en rfl s12)))))) (nd_of rfl) rfl ?_
  refine x_take (d := 37) rfl rfl (en rfl es) ?_
  refine x_val (r_move (en rfl (en rfl (en rfl (en rfl (en rfl (en rfl s0))))))) (nd_of rfl) rfl ?_
  refine x_take (d := 37) rfl rfl (en rfl (en rfl es)) ?_
  have h := h.f1
  refine x_enter (r_call Try.call13 (.cons (en rfl es) (.cons ec (.cons es .nil)))) (nd_of rfl) rfl (insert_new he (hv.up) (B' := 2000) (by omega) (by omega) (by omega) h) ?_
  rintro _ w ⟨rfl, h⟩
  refine x_take (d := 37) rfl rfl (en rfl (en rfl (en rfl es))) ?_
  refine x_val (r_neq es ec (r := false) rfl) (nd_of rfl) rfl ?_
  refine x_val (r_pick_f (en rfl (en rfl (en rfl (en rfl es)))) es) (nd_of rfl) rfl ?_
  refine x_val (r_move es) (nd_of rfl) rfl ?_
  refine x_take (d := 43) rfl rfl es ?_
  refine x_val (r_move (en rfl (en rfl (en rfl (en rfl (en rfl (en rfl (en rfl (en rfl (en rfl (en rfl (en rfl s3)))))))))))) (nd_of rfl) rfl ?_
  refine x_take (d := 43) rfl rfl (en rfl es) ?_
  refine x_val (r_lss es ec (decide_eq_false (by omega))) (nd_of rfl) rfl ?_
  refine x_val (r_pick_f (en rfl (en rfl es)) es) (nd_of rfl) rfl ?_
  refine x_val (r_move es) (nd_of rfl) rfl ?_
  refine x_take (d := 47) rfl rfl es ?_
  refine x_val (r_move (en rfl (en rfl (en rfl (en rfl (en rfl (en rfl (en rfl (en rfl (en rfl (en rfl (en rfl (en rfl (en rfl (en rfl (en rfl s3)))))))))))))))) (nd_of rfl) rfl ?_
  refine x_take (d := 47) rfl rfl (en rfl es) ?_
  refine x_val (r_move (en rfl (en rfl (en rfl (en rfl (en rfl (en rfl (en rfl (en rfl (en rfl (en rfl (en rfl (en rfl (en rfl (en rfl (en rfl (en rfl s4))))))))))))))))) (nd_of rfl) rfl ?_
  refine x_take (d := 47) rfl rfl (en rfl (en rfl es)) ?_
  refine x_val (r_gtr (en rfl es) es (decide_eq_false (by omega))) (nd_of rfl) rfl ?_
  refine x_val (r_pick_f (en rfl (en rfl (en rfl es))) es) (nd_of rfl) rfl ?_
  refine x_val (r_move es) (nd_of rfl) rfl ?_
  refine x_take (d := 52) rfl rfl es ?_
  refine x_val (r_move (en rfl (en rfl (en rfl (en rfl (en rfl (en rfl (en rfl (en rfl (en rfl (en rfl (en rfl (en rfl (en rfl (en rfl (en rfl (en rfl (en rfl (en rfl (en rfl (en rfl s4))))))))))))))))))))) (nd_of rfl) rfl ?_
  refine x_take (d := 52) rfl rfl (en rfl es) ?_
  refine x_val (r_move (en rfl (en rfl (en rfl (en rfl (en rfl (en rfl (en rfl (en rfl (en rfl (en rfl (en rfl (en rfl (en rfl (en rfl (en rfl (en rfl (en rfl (en rfl (en rfl (en rfl (en rfl s0)))))))))))))))))))))) (nd_of rfl) rfl ?_
  refine x_take (d := 52) rfl rfl (en rfl (en rfl es)) ?_
  refine x_val (r_len Try.underlying23 es) (nd_of rfl) rfl ?_
  refine x_take (d := 52) rfl rfl (en rfl (en rfl (en rfl es))) ?_
  refine x_val (r_gtr (en rfl (en rfl es)) es (decide_eq_false (by omega))) (nd_of rfl) rfl ?_
  refine x_val (r_pick_f (en rfl (en rfl (en rfl (en rfl es)))) es) (nd_of rfl) rfl ?_
  refine xw_nil ?_
  refine hK6 _ _ ?_
  refine xc_gen (fun g hg => ?_)
  have s0 := (hg 0).trans (en rfl (en rfl (en rfl (en rfl (en rfl (en rfl (en rfl (en rfl (en rfl (en rfl (en rfl (en rfl (en rfl (en rfl (en rfl (en rfl (en rfl (en rfl (en rfl (en rfl (en rfl (en rfl (en rfl (en rfl (en rfl s0)))))))))))))))))))))))))
  have s1 := (hg 1).trans (en rfl (en rfl (en rfl (en rfl (en rfl (en rfl (en rfl (en rfl (en rfl (en rfl (en rfl (en rfl (en rfl (en rfl (en rfl (en rfl (en rfl (en rfl (en rfl (en rfl (en rfl (en rfl (en rfl (en rfl (en rfl s1)))))))))))))))))))))))))
  have s2 := (hg 2).trans (en rfl (en rfl (en rfl (en rfl (en rfl (en rfl (en rfl (en rfl (en rfl (en rfl (en rfl (en rfl (en rfl (en rfl (en rfl (en rfl (en rfl (en rfl (en rfl (en rfl (en rfl (en rfl (en rfl (en rfl (en rfl s2)))))))))))))))))))))))))
  have s3 := (hg 3).trans (en rfl (en rfl (en rfl (en rfl (en rfl (en rfl (en rfl (en rfl (en rfl (en rfl (en rfl (en rfl (en rfl (en rfl (en rfl (en rfl (en rfl (en rfl (en rfl (en rfl (en rfl (en rfl (en rfl (en rfl (en rfl s3)))))))))))))))))))))))))
  have s4 := (hg 4).trans (en rfl (en rfl (en rfl (en rfl (en rfl (en rfl (en rfl (en rfl (en rfl (en rfl (en rfl (en rfl (en rfl (en rfl (en rfl (en rfl (en rfl (en rfl (en rfl (en rfl (en rfl (en rfl (en rfl (en rfl (en rfl s4)))))))))))))))))))))))))
  have s10 := (hg 10).trans (en rfl (en rfl (en rfl (en rfl (en rfl (en rfl (en rfl (en rfl (en rfl (en rfl (en rfl (en rfl (en rfl (en rfl (en rfl (en rfl (en rfl (en rfl (en rfl (en rfl (en rfl (en rfl (en rfl (en rfl (en rfl s10)))))))))))))))))))))))))
  have s11 := (hg 11).trans (en rfl (en rfl (en rfl (en rfl (en rfl (en rfl (en rfl (en rfl (en rfl (en rfl (en rfl (en rfl (en rfl (en rfl (en rfl (en rfl (en rfl (en rfl (en rfl (en rfl (en rfl (en rfl (en rfl (en rfl (en rfl s11)))))))))))))))))))))))))
  have s12 := (hg 12).trans (en rfl (en rfl (en rfl (en rfl (en rfl (en rfl (en rfl (en rfl (en rfl (en rfl (en rfl (en rfl (en rfl (en rfl (en rfl (en rfl (en rfl (en rfl (en rfl (en rfl (en rfl (en rfl (en rfl (en rfl (en rfl s12)))))))))))))))))))))))))
  have s29 := (hg 29).trans (en rfl (en rfl (en rfl (en rfl (en rfl (en rfl (en rfl (en rfl (en rfl (en rfl (en rfl (en rfl (en rfl (en rfl (en rfl (en rfl (en rfl (en rfl (en rfl (en rfl (en rfl (en rfl (en rfl (en rfl (en rfl s29)))))))))))))))))))))))))
  have s57 := (hg 57).trans es
  clear hg
  refine xc_cond s57 (fun hc => by cases hc) (fun _ => ?_)
  refine xc_skip ?_
  refine hK5 _ _ ?_
  refine xc_seq (fun K hK7 => ?_)
  refine xc_seq (fun K hK8 => ?_)
  refine xc_region ?_
  refine x_val (r_move s11) (nd_of rfl) rfl ?_
  refine x_val (r_move (en rfl s4)) (nd_of rfl) rfl ?_
  refine x_val (r_move (en rfl (en rfl s2))) (nd_of rfl) rfl ?_
  have h := h.f1
  refine x_enter (r_call Try.call13 (.cons (en rfl (en rfl es)) (.cons (en rfl es) (.cons es .nil)))) (nd_of rfl) rfl (insert_yes h4 (hvb.up) (B' := 3000) (by omega) (by omega) (by omega) h) ?_
  rintro _ w ⟨rfl, h⟩
  rw [Int.toNat_natCast, ← hT1] at h
  refine x_val (r_neq es ec (r := false) rfl) (nd_of rfl) rfl ?_
  refine x_val (r_move es) (nd_of rfl) rfl ?_
  refine x_take (d := 64) rfl rfl es ?_
  refine x_val (r_move (en rfl (en rfl (en rfl (en rfl (en rfl (en rfl s11))))))) (nd_of rfl) rfl ?_
  refine x_take (d := 64) rfl rfl (en rfl es) ?_
  refine x_val (r_move (en rfl (en rfl (en rfl (en rfl (en rfl (en rfl (en rfl s3)))))))) (nd_of rfl) rfl ?_
  refine x_take (d := 64) rfl rfl (en rfl (en rfl es)) ?_
  refine x_val (r_move (en rfl (en rfl (en rfl (en rfl (en rfl (en rfl (en rfl (en rfl s1))))))))) (nd_of rfl) rfl ?_
  refine x_take (d := 64) rfl rfl (en rfl (en rfl (en rfl es))) ?_
  refine x_enter (r_call Try.call13 (.cons (en rfl (en rfl es)) (.cons (en rfl es) (.cons es .nil)))) (nd_of rfl) rfl (insert_yes h5 (hva.up) (B' := 4000) (by omega) (by omega) (by omega) h) ?_
  rintro _ w ⟨rfl, h⟩
  rw [Int.toNat_natCast] at h
  refine x_take (d := 64) rfl rfl (en rfl (en rfl (en rfl (en rfl es)))) ?_
  refine x_val (r_neq es ec (r := false) rfl) (nd_of rfl) rfl ?_
  refine x_val (r_pick_f (en rfl (en rfl (en rfl (en rfl (en rfl es))))) es) (nd_of rfl) rfl ?_
  refine xw_nil ?_
  refine hK8 _ _ ?_
  refine xc_gen (fun g hg => ?_)
  have s0 := (hg 0).trans (en rfl (en rfl (en rfl (en rfl (en rfl (en rfl (en rfl (en rfl (en rfl (en rfl (en rfl (en rfl s0))))))))))))
  have s1 := (hg 1).trans (en rfl (en rfl (en rfl (en rfl (en rfl (en rfl (en rfl (en rfl (en rfl (en rfl (en rfl (en rfl s1))))))))))))
  have s2 := (hg 2).trans (en rfl (en rfl (en rfl (en rfl (en rfl (en rfl (en rfl (en rfl (en rfl (en rfl (en rfl (en rfl s2))))))))))))
  have s3 := (hg 3).trans (en rfl (en rfl (en rfl (en rfl (en rfl (en rfl (en rfl (en rfl (en rfl (en rfl (en rfl (en rfl s3))))))))))))
  have s4 := (hg 4).trans (en rfl (en rfl (en rfl (en rfl (en rfl (en rfl (en rfl (en rfl (en rfl (en rfl (en rfl (en rfl s4))))))))))))
  have s10 := (hg 10).trans (en rfl (en rfl (en rfl (en rfl (en rfl (en rfl (en rfl (en rfl (en rfl (en rfl (en rfl (en rfl s10))))))))))))
  have s11 := (hg 11).trans (en rfl (en rfl (en rfl (en rfl (en rfl (en rfl (en rfl (en rfl (en rfl (en rfl (en rfl (en rfl s11))))))))))))
  have s12 := (hg 12).trans (en rfl (en rfl (en rfl (en rfl (en rfl (en rfl (en rfl (en rfl (en rfl (en rfl (en rfl (en rfl s12))))))))))))
  have s29 := (hg 29).trans (en rfl (en rfl (en rfl (en rfl (en rfl (en rfl (en rfl (en rfl (en rfl (en rfl (en rfl (en rfl s29))))))))))))
  have s57 := (hg 57).trans (en rfl (en rfl (en rfl (en rfl (en rfl (en rfl (en rfl (en rfl (en rfl (en rfl (en rfl (en rfl s57))))))))))))
  have s70 := (hg 70).trans es
  clear hg
  refine xc_cond s70 (fun hc => by cases hc) (fun _ => ?_)
  refine xc_skip ?_
  refine hK7 _ _ ?_
  refine xc_seq (fun K hK9 => ?_)
  refine xc_seq (fun K hK10 => ?_)
  refine xc_region ?_
  refine x_val (r_move s12) (nd_of rfl) rfl ?_
  refine x_val (r_move (en rfl s3)) (nd_of rfl) rfl ?_
  refine x_val (r_move (en rfl (en rfl s1))) (nd_of rfl) rfl ?_
  have h := h.f1
  refine x_enter (r_call Try.call13 (.cons (en rfl (en rfl es)) (.cons (en rfl es) (.cons es .nil)))) (nd_of rfl) rfl (insert_yes h6 (hva.up) (B' := 3000) (by omega) (by omega) (by omega) h) ?_
  rintro _ w ⟨rfl, h⟩
  rw [Int.toNat_natCast, ← hS1] at h
  refine x_val (r_neq es ec (r := false) rfl) (nd_of rfl) rfl ?_
  refine x_val (r_move es) (nd_of rfl) rfl ?_
  refine x_take (d := 77) rfl rfl es ?_
  refine x_val (r_move (en rfl (en rfl (en rfl (en rfl (en rfl (en rfl s12))))))) (nd_of rfl) rfl ?_
  refine x_take (d := 77) rfl rfl (en rfl es) ?_
  refine x_val (r_move (en rfl (en rfl (en rfl (en rfl (en rfl (en rfl (en rfl s4)))))))) (nd_of rfl) rfl ?_
  refine x_take (d := 77) rfl rfl (en rfl (en rfl es)) ?_
  refine x_val (r_move (en rfl (en rfl (en rfl (en rfl (en rfl (en rfl (en rfl (en rfl s1))))))))) (nd_of rfl) rfl ?_
  refine x_take (d := 77) rfl rfl (en rfl (en rfl (en rfl es))) ?_
  refine x_val (r_len Try.underlying23 es) (nd_of rfl) rfl ?_
  refine x_take (d := 77) rfl rfl (en rfl (en rfl (en rfl (en rfl es)))) ?_
  refine x_val (r_add (en rfl (en rfl es)) es (show _ = (((nj + xa.length : Nat) : Int) : Int) from by omega) (by unfold I64; omega)) (nd_of rfl) rfl ?_
  refine x_take (d := 77) rfl rfl (en rfl (en rfl (en rfl (en rfl (en rfl es))))) ?_
  refine x_val (r_move (en rfl (en rfl (en rfl (en rfl (en rfl (en rfl (en rfl (en rfl (en rfl (en rfl (en rfl s2)))))))))))) (nd_of rfl) rfl ?_
  refine x_take (d := 77) rfl rfl (en rfl (en rfl (en rfl (en rfl (en rfl (en rfl es)))))) ?_
  refine x_enter (r_call Try.call13 (.cons (en rfl (en rfl (en rfl (en rfl (en rfl es))))) (.cons (en rfl es) (.cons es .nil)))) (nd_of rfl) rfl (insert_yes h7 (hvb.up) (B' := 4000) (by omega) (by omega) (by omega) h) ?_
  rintro _ w ⟨rfl, h⟩
  rw [Int.toNat_natCast, ← hlaw] at h
  obtain ⟨fs, hfs⟩ : ∃ fs, fs = T1.take ni ++ (xa ++ T1.drop ni) := ⟨_, rfl⟩
  rw [← hfs] at h fl
  refine x_take (d := 77) rfl rfl (en rfl (en rfl (en rfl (en rfl (en rfl (en rfl (en rfl es))))))) ?_
  refine x_val (r_neq es ec (r := false) rfl) (nd_of rfl) rfl ?_
  refine x_val (r_pick_f (en rfl (en rfl (en rfl (en rfl (en rfl (en rfl (en rfl (en rfl es)))))))) es) (nd_of rfl) rfl ?_
  refine xw_nil ?_
  refine hK10 _ _ ?_
  refine xc_gen (fun g hg => ?_)
  have s0 := (hg 0).trans (en rfl (en rfl (en rfl (en rfl (en rfl (en rfl (en rfl (en rfl (en rfl (en rfl (en rfl (en rfl (en rfl (en rfl (en rfl s0)))))))))))))))
  have s1 := (hg 1).trans (en rfl (en rfl (en rfl (en rfl (en rfl (en rfl (en rfl (en rfl (en rfl (en rfl (en rfl (en rfl (en rfl (en rfl (en rfl s1)))))))))))))))
  have s2 := (hg 2).trans (en rfl (en rfl (en rfl (en rfl (en rfl (en rfl (en rfl (en rfl (en rfl (en rfl (en rfl (en rfl (en rfl (en rfl (en rfl s2)))))))))))))))
  have s3 := (hg 3).trans (en rfl (en rfl (en rfl (en rfl (en rfl (en rfl (en rfl (en rfl (en rfl (en rfl (en rfl (en rfl (en rfl (en rfl (en rfl s3)))))))))))))))
  have s4 := (hg 4).trans (en rfl (en rfl (en rfl (en rfl (en rfl (en rfl (en rfl (en rfl (en rfl (en rfl (en rfl (en rfl (en rfl (en rfl (en rfl s4)))))))))))))))
  have s10 := (hg 10).trans (en rfl (en rfl (en rfl (en rfl (en rfl (en rfl (en rfl (en rfl (en rfl (en rfl (en rfl (en rfl (en rfl (en rfl (en rfl s10)))))))))))))))
  have s11 := (hg 11).trans (en rfl (en rfl (en rfl (en rfl (en rfl (en rfl (en rfl (en rfl (en rfl (en rfl (en rfl (en rfl (en rfl (en rfl (en rfl s11)))))))))))))))
  have s12 := (hg 12).trans (en rfl (en rfl (en rfl (en rfl (en rfl (en rfl (en rfl (en rfl (en rfl (en rfl (en rfl (en rfl (en rfl (en rfl (en rfl s12)))))))))))))))
  have s29 := (hg 29).trans (en rfl (en rfl (en rfl (en rfl (en rfl (en rfl (en rfl (en rfl (en rfl (en rfl (en rfl (en rfl (en rfl (en rfl (en rfl s29)))))))))))))))
  have s57 := (hg 57).trans (en rfl (en rfl (en rfl (en rfl (en rfl (en rfl (en rfl (en rfl (en rfl (en rfl (en rfl (en rfl (en rfl (en rfl (en rfl s57)))))))))))))))
  have s70 := (hg 70).trans (en rfl (en rfl (en rfl (en rfl (en rfl (en rfl (en rfl (en rfl (en rfl (en rfl (en rfl (en rfl (en rfl (en rfl (en rfl s70)))))))))))))))
  have s86 := (hg 86).trans es
  clear hg
  refine xc_cond s86 (fun hc => by cases hc) (fun _ => ?_)
  refine xc_skip ?_
  refine hK9 _ _ ?_
  refine xc_seq (fun K hK11 => ?_)
  refine xc_region ?_
  refine x_val (r_move s11) (nd_of rfl) rfl ?_
  refine x_val (r_move (en rfl s11)) (nd_of rfl) rfl ?_
  have h := h.f1
  refine x_enter (r_call Try.call11 (.cons es .nil)) (nd_of rfl) rfl (lenR h) ?_
  rintro _ w ⟨rfl, h⟩
  refine x_enter (r_call Try.call14 (.cons (en rfl (en rfl es)) (.cons ec (.cons es .nil)))) (nd_of rfl) rfl (slice_all (by omega) h) ?_
  rintro _ w ⟨vx, rfl, h⟩
  refine x_val (r_move es) (nd_of rfl) rfl ?_
  refine x_val (r_extract es gc0) (nd_of rfl) rfl ?_
  refine x_val (r_extract (en rfl es) gc1) (nd_of rfl) rfl ?_
  refine x_val (r_assign (en rfl es)) (nd_of rfl) rfl ?_
  refine x_val (r_assign (en rfl es)) (nd_of rfl) rfl ?_
  refine xw_nil ?_
  refine hK11 _ _ ?_
  refine xc_gen (fun g hg => ?_)
  have s0 := (hg 0).trans (en rfl (en rfl (en rfl (en rfl (en rfl (en rfl (en rfl (en rfl (en rfl s0)))))))))
  have s1 := (hg 1).trans (en rfl (en rfl (en rfl (en rfl (en rfl (en rfl (en rfl (en rfl (en rfl s1)))))))))
  have s2 := (hg 2).trans (en rfl (en rfl (en rfl (en rfl (en rfl (en rfl (en rfl (en rfl (en rfl s2)))))))))
  have s3 := (hg 3).trans (en rfl (en rfl (en rfl (en rfl (en rfl (en rfl (en rfl (en rfl (en rfl s3)))))))))
  have s4 := (hg 4).trans (en rfl (en rfl (en rfl (en rfl (en rfl (en rfl (en rfl (en rfl (en rfl s4)))))))))
  have s10 := (hg 10).trans (en rfl (en rfl (en rfl (en rfl (en rfl (en rfl (en rfl (en rfl (en rfl s10)))))))))
  have s11 := (hg 11).trans (en rfl (en rfl (en rfl (en rfl (en rfl (en rfl (en rfl (en rfl (en rfl s11)))))))))
  have s12 := (hg 12).trans (en rfl (en rfl (en rfl (en rfl (en rfl (en rfl (en rfl (en rfl (en rfl s12)))))))))
  have s13 := (hg 13).trans (en rfl es)
  have s14 := (hg 14).trans es
  have s29 := (hg 29).trans (en rfl (en rfl (en rfl (en rfl (en rfl (en rfl (en rfl (en rfl (en rfl s29)))))))))
  have s57 := (hg 57).trans (en rfl (en rfl (en rfl (en rfl (en rfl (en rfl (en rfl (en rfl (en rfl s57)))))))))
  have s70 := (hg 70).trans (en rfl (en rfl (en rfl (en rfl (en rfl (en rfl (en rfl (en rfl (en rfl s70)))))))))
  have s86 := (hg 86).trans (en rfl (en rfl (en rfl (en rfl (en rfl (en rfl (en rfl (en rfl (en rfl s86)))))))))
  clear hg
  refine xc_seq (fun K hK12 => ?_)
  refine xc_region ?_
  refine x_val (r_move s12) (nd_of rfl) rfl ?_
  refine x_val (r_move (en rfl s12)) (nd_of rfl) rfl ?_
  have h := h.f2
  refine x_enter (r_call Try.call11 (.cons es .nil)) (nd_of rfl) rfl (lenR h) ?_
  rintro _ w ⟨rfl, h⟩
  refine x_enter (r_call Try.call14 (.cons (en rfl (en rfl es)) (.cons ec (.cons es .nil)))) (nd_of rfl) rfl (slice_all (by omega) h) ?_
  rintro _ w ⟨vy, rfl, h⟩
  refine x_val (r_move es) (nd_of rfl) rfl ?_
  refine x_val (r_extract es gc0) (nd_of rfl) rfl ?_
  refine x_val (r_extract (en rfl es) gc1) (nd_of rfl) rfl ?_
  refine x_val (r_assign (en rfl es)) (nd_of rfl) rfl ?_
  refine x_val (r_assign (en rfl es)) (nd_of rfl) rfl ?_
  refine xw_nil ?_
  refine hK12 _ _ ?_
  refine xc_gen (fun g hg => ?_)
  have s0 := (hg 0).trans (en rfl (en rfl (en rfl (en rfl (en rfl (en rfl (en rfl (en rfl (en rfl s0)))))))))
  have s1 := (hg 1).trans (en rfl (en rfl (en rfl (en rfl (en rfl (en rfl (en rfl (en rfl (en rfl s1)))))))))
  have s2 := (hg 2).trans (en rfl (en rfl (en rfl (en rfl (en rfl (en rfl (en rfl (en rfl (en rfl s2)))))))))
  have s3 := (hg 3).trans (en rfl (en rfl (en rfl (en rfl (en rfl (en rfl (en rfl (en rfl (en rfl s3)))))))))
  have s4 := (hg 4).trans (en rfl (en rfl (en rfl (en rfl (en rfl (en rfl (en rfl (en rfl (en rfl s4)))))))))
  have s10 := (hg 10).trans (en rfl (en rfl (en rfl (en rfl (en rfl (en rfl (en rfl (en rfl (en rfl s10)))))))))
  have s11 := (hg 11).trans (en rfl (en rfl (en rfl (en rfl (en rfl (en rfl (en rfl (en rfl (en rfl s11)))))))))
  have s12 := (hg 12).trans (en rfl (en rfl (en rfl (en rfl (en rfl (en rfl (en rfl (en rfl (en rfl s12)))))))))
  have s13 := (hg 13).trans (en rfl (en rfl (en rfl (en rfl (en rfl (en rfl (en rfl (en rfl (en rfl s13)))))))))
  have s14 := (hg 14).trans (en rfl (en rfl (en rfl (en rfl (en rfl (en rfl (en rfl (en rfl (en rfl s14)))))))))
  have s15 := (hg 15).trans (en rfl es)
  have s16 := (hg 16).trans es
  have s29 := (hg 29).trans (en rfl (en rfl (en rfl (en rfl (en rfl (en rfl (en rfl (en rfl (en rfl s29)))))))))
  have s57 := (hg 57).trans (en rfl (en rfl (en rfl (en rfl (en rfl (en rfl (en rfl (en rfl (en rfl s57)))))))))
  have s70 := (hg 70).trans (en rfl (en rfl (en rfl (en rfl (en rfl (en rfl (en rfl (en rfl (en rfl s70)))))))))
  have s86 := (hg 86).trans (en rfl (en rfl (en rfl (en rfl (en rfl (en rfl (en rfl (en rfl (en rfl s86)))))))))
  clear hg
  refine xc_seq (fun K hK13 => ?_)
  refine xc_region ?_
  refine x_val (r_move s14) (nd_of rfl) rfl ?_
  refine x_val (r_eql es ec (r := true) rfl) (nd_of rfl) rfl ?_
  refine x_val (r_move es) (nd_of rfl) rfl ?_
  refine x_take (d := 103) rfl rfl es ?_
  refine x_val (r_move (en rfl (en rfl (en rfl s16)))) (nd_of rfl) rfl ?_
  refine x_take (d := 103) rfl rfl (en rfl es) ?_
  refine x_val (r_eql es ec (r := true) rfl) (nd_of rfl) rfl ?_
  refine x_val (r_pick_t (en rfl (en rfl es)) es) (nd_of rfl) rfl ?_
  refine x_val (r_move es) (nd_of rfl) rfl ?_
  refine x_take (d := 107) rfl rfl es ?_
  refine x_val (r_move (en rfl (en rfl (en rfl (en rfl (en rfl (en rfl (en rfl s13)))))))) (nd_of rfl) rfl ?_
  refine x_take (d := 107) rfl rfl (en rfl es) ?_
  refine x_val (r_move (en rfl (en rfl (en rfl (en rfl (en rfl (en rfl (en rfl (en rfl s15))))))))) (nd_of rfl) rfl ?_
  refine x_take (d := 107) rfl rfl (en rfl (en rfl es)) ?_
  refine x_enter (r_call Try.call15 (.cons (en rfl es) (.cons es .nil))) (nd_of rfl) rfl (same_yes (zs := fs) (fun w h => rowReads w (h.f2)) rowReads (by omega) h) ?_
  rintro _ w ⟨rfl, h⟩
  refine x_val (r_pick_t (en rfl (en rfl (en rfl es))) es) (nd_of rfl) rfl ?_
  refine x_val (r_move es) (nd_of rfl) rfl ?_
  refine x_take (d := 112) rfl rfl es ?_
  refine x_val (r_move (en rfl (en rfl (en rfl (en rfl (en rfl (en rfl (en rfl (en rfl (en rfl (en rfl (en rfl (en rfl s11))))))))))))) (nd_of rfl) rfl ?_
  refine x_take (d := 112) rfl rfl (en rfl es) ?_
  have h := h.f3
  refine x_enter (r_call Try.call18 (.cons es .nil)) (nd_of rfl) rfl (newlinesR h) ?_
  rintro _ w ⟨rfl, h⟩
  refine x_take (d := 112) rfl rfl (en rfl (en rfl es)) ?_
  refine x_val (r_move (en rfl (en rfl (en rfl (en rfl (en rfl (en rfl (en rfl (en rfl (en rfl (en rfl (en rfl (en rfl (en rfl (en rfl s12))))))))))))))) (nd_of rfl) rfl ?_
  refine x_take (d := 112) rfl rfl (en rfl (en rfl (en rfl es))) ?_
  have h := h.f2
  refine x_enter (r_call Try.call18 (.cons es .nil)) (nd_of rfl) rfl (newlinesR h) ?_
  rintro _ w ⟨rfl, h⟩
  refine x_take (d := 112) rfl rfl (en rfl (en rfl (en rfl (en rfl es)))) ?_
  refine x_val (r_eql (en rfl (en rfl es)) es (decide_eq_true (by rfl))) (nd_of rfl) rfl ?_
  refine x_val (r_pick_t (en rfl (en rfl (en rfl (en rfl (en rfl es))))) es) (nd_of rfl) rfl ?_
  refine x_val (r_move es) (nd_of rfl) rfl ?_
  refine x_take (d := 119) rfl rfl es ?_
  refine x_enter (r_call Try.call10 .nil) (nd_of rfl) rfl (known_ok h) ?_
  rintro _ w ⟨rfl, h⟩
  refine x_val (r_pick_t (en rfl es) es) (nd_of rfl) rfl ?_
  refine x_val (r_assign es) (nd_of rfl) rfl ?_
  refine xw_nil ?_
  refine hK13 _ _ ?_
  refine xc_gen (fun g hg => ?_)
  have s0 := (hg 0).trans (en rfl (en rfl (en rfl (en rfl (en rfl (en rfl (en rfl (en rfl (en rfl (en rfl (en rfl (en rfl (en rfl (en rfl (en rfl (en rfl (en rfl (en rfl (en rfl (en rfl (en rfl (en rfl s0))))))))))))))))))))))
  have s1 := (hg 1).trans (en rfl (en rfl (en rfl (en rfl (en rfl (en rfl (en rfl (en rfl (en rfl (en rfl (en rfl (en rfl (en rfl (en rfl (en rfl (en rfl (en rfl (en rfl (en rfl (en rfl (en rfl (en rfl s1))))))))))))))))))))))
  have s2 := (hg 2).trans (en rfl (en rfl (en rfl (en rfl (en rfl (en rfl (en rfl (en rfl (en rfl (en rfl (en rfl (en rfl (en rfl (en rfl (en rfl (en rfl (en rfl (en rfl (en rfl (en rfl (en rfl (en rfl s2))))))))))))))))))))))
  have s3 := (hg 3).trans (en rfl (en rfl (en rfl (en rfl (en rfl (en rfl (en rfl (en rfl (en rfl (en rfl (en rfl (en rfl (en rfl (en rfl (en rfl (en rfl (en rfl (en rfl (en rfl (en rfl (en rfl (en rfl s3))))))))))))))))))))))
  have s4 := (hg 4).trans (en rfl (en rfl (en rfl (en rfl (en rfl (en rfl (en rfl (en rfl (en rfl (en rfl (en rfl (en rfl (en rfl (en rfl (en rfl (en rfl (en rfl (en rfl (en rfl (en rfl (en rfl (en rfl s4))))))))))))))))))))))
  have s10 := (hg 10).trans es
  have s11 := (hg 11).trans (en rfl (en rfl (en rfl (en rfl (en rfl (en rfl (en rfl (en rfl (en rfl (en rfl (en rfl (en rfl (en rfl (en rfl (en rfl (en rfl (en rfl (en rfl (en rfl (en rfl (en rfl (en rfl s11))))))))))))))))))))))
  have s12 := (hg 12).trans (en rfl (en rfl (en rfl (en rfl (en rfl (en rfl (en rfl (en rfl (en rfl (en rfl (en rfl (en rfl (en rfl (en rfl (en rfl (en rfl (en rfl (en rfl (en rfl (en rfl (en rfl (en rfl s12))))))))))))))))))))))
  have s13 := (hg 13).trans (en rfl (en rfl (en rfl (en rfl (en rfl (en rfl (en rfl (en rfl (en rfl (en rfl (en rfl (en rfl (en rfl (en rfl (en rfl (en rfl (en rfl (en rfl (en rfl (en rfl (en rfl (en rfl s13))))))))))))))))))))))
  have s14 := (hg 14).trans (en rfl (en rfl (en rfl (en rfl (en rfl (en rfl (en rfl (en rfl (en rfl (en rfl (en rfl (en rfl (en rfl (en rfl (en rfl (en rfl (en rfl (en rfl (en rfl (en rfl (en rfl (en rfl s14))))))))))))))))))))))
  have s15 := (hg 15).trans (en rfl (en rfl (en rfl (en rfl (en rfl (en rfl (en rfl (en rfl (en rfl (en rfl (en rfl (en rfl (en rfl (en rfl (en rfl (en rfl (en rfl (en rfl (en rfl (en rfl (en rfl (en rfl s15))))))))))))))))))))))
  have s16 := (hg 16).trans (en rfl (en rfl (en rfl (en rfl (en rfl (en rfl (en rfl (en rfl (en rfl (en rfl (en rfl (en rfl (en rfl (en rfl (en rfl (en rfl (en rfl (en rfl (en rfl (en rfl (en rfl (en rfl s16))))))))))))))))))))))
  have s29 := (hg 29).trans (en rfl (en rfl (en rfl (en rfl (en rfl (en rfl (en rfl (en rfl (en rfl (en rfl (en rfl (en rfl (en rfl (en rfl (en rfl (en rfl (en rfl (en rfl (en rfl (en rfl (en rfl (en rfl s29))))))))))))))))))))))
  have s57 := (hg 57).trans (en rfl (en rfl (en rfl (en rfl (en rfl (en rfl (en rfl (en rfl (en rfl (en rfl (en rfl (en rfl (en rfl (en rfl (en rfl (en rfl (en rfl (en rfl (en rfl (en rfl (en rfl (en rfl s57))))))))))))))))))))))
  have s70 := (hg 70).trans (en rfl (en rfl (en rfl (en rfl (en rfl (en rfl (en rfl (en rfl (en rfl (en rfl (en rfl (en rfl (en rfl (en rfl (en rfl (en rfl (en rfl (en rfl (en rfl (en rfl (en rfl (en rfl s70))))))))))))))))))))))
  have s86 := (hg 86).trans (en rfl (en rfl (en rfl (en rfl (en rfl (en rfl (en rfl (en rfl (en rfl (en rfl (en rfl (en rfl (en rfl (en rfl (en rfl (en rfl (en rfl (en rfl (en rfl (en rfl (en rfl (en rfl s86))))))))))))))))))))))
  clear hg
  refine xc_ret ?_
  refine bodyR_1 rfl s10 ?_
  exact ⟨rfl, h.drop.drop.drop.drop⟩
end
end Go.Proofs.Ytmfkhfmidnojhaa
