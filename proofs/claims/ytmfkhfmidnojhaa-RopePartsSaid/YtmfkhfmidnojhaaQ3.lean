/-
RopeParts: the walk.
-/
import Derived.Test.YtmfkhfmidnojhaaQ0
namespace Go.Proofs.Ytmfkhfmidnojhaa
open Go Go.RowKit
theorem parts_law {zs : List Int} {i j k : Nat} (hij : i ≤ j) (hjk : j ≤ k) : (zs.take j).drop i ++ (zs.take k).drop j = (zs.take k).drop i := by
  have e : zs.take j = (zs.take k).take j := by rw [List.take_take, Nat.min_eq_left hjk]
  rw [e]
  generalize zs.take k = t
  rw [List.drop_take]
  have e2 : t.drop j = (t.drop i).drop (j - i) := by rw [List.drop_drop, show i + (j - i) = j by omega]
  rw [e2, List.take_append_drop]
theorem cnt_part {zs : List Int} {i k : Nat} (hik : i ≤ k) : (zs.take i).count 10 + ((zs.take k).drop i).count 10 = (zs.take k).count 10 := by
  have e : zs.take i = (zs.take k).take i := by rw [List.take_take, Nat.min_eq_left hik]
  rw [e, ← List.count_append, List.take_append_drop]
section
variable {E : Env} {R : List SProp} {w : World} {zs : List Int} {v : Value}
theorem rparts_all {i j k : Int} (hv : Reads E R v .i32 zs) (hi : I64 i) (hj : I64 j) (hk : I64 k) (h : SatL E w R) : Calls Try.prog 7 #[v, .int .i64 i, .int .i64 j, .int .i64 k] w (Ret fun u w' => u = .bool true ∧ SatL E w' R) := by
  obtain ⟨a, cap, rfl, _, _⟩ := hv.slice h
  unfold I64 at hi hj hk
  rcases Nat.lt_or_ge 2000 zs.length with h1 | h1
  · skip
    refine calls_x Try.func7 rfl Try.ntmps7 rfl ?_
    refine xc_gen (fun g hg => ?_)
    have s0 := (hg 0).trans arg0
    have s1 := (hg 1).trans arg1
    have s2 := (hg 2).trans arg2
    have s3 := (hg 3).trans arg3
    clear hg
    refine xc_seq (fun K hK1 => ?_)
    refine xc_region ?_
    refine x_val (r_assign ec) (nd_of rfl) rfl ?_
    refine xw_nil ?_
    refine hK1 _ _ ?_
    refine xc_gen (fun g hg => ?_)
    have s0 := (hg 0).trans (en rfl s0)
    have s1 := (hg 1).trans (en rfl s1)
    have s2 := (hg 2).trans (en rfl s2)
    have s3 := (hg 3).trans (en rfl s3)
    have s8 := (hg 8).trans es
    clear hg
    refine xc_seq (fun K hK2 => ?_)
    refine xc_seq (fun K hK3 => ?_)
    refine xc_region ?_
    refine x_val (r_move s0) (nd_of rfl) rfl ?_
    refine x_val (r_len Try.underlying23 es) (nd_of rfl) rfl ?_
    refine x_val (r_gtr es ec (decide_eq_true (by omega))) (nd_of rfl) rfl ?_
    refine xw_nil ?_
    refine hK3 _ _ ?_
    refine xc_gen (fun g hg => ?_)
    have s0 := (hg 0).trans (en rfl (en rfl (en rfl s0)))
    have s1 := (hg 1).trans (en rfl (en rfl (en rfl s1)))
    have s2 := (hg 2).trans (en rfl (en rfl (en rfl s2)))
    have s3 := (hg 3).trans (en rfl (en rfl (en rfl s3)))
    have s8 := (hg 8).trans (en rfl (en rfl (en rfl s8)))
    have s25 := (hg 25).trans es
    clear hg
    refine xc_cond s25 (fun _ => ?_) (fun hc => by cases hc)
    refine xc_seq (fun K hK4 => ?_)
    refine xc_region ?_
    refine x_enter (r_call Try.call10 .nil) (nd_of rfl) rfl (known_ok h) ?_
    rintro _ w ⟨rfl, h⟩
    refine x_val (r_assign es) (nd_of rfl) rfl ?_
    refine xw_nil ?_
    refine hK4 _ _ ?_
    refine xc_gen (fun g hg => ?_)
    have s0 := (hg 0).trans (en rfl (en rfl s0))
    have s1 := (hg 1).trans (en rfl (en rfl s1))
    have s2 := (hg 2).trans (en rfl (en rfl s2))
    have s3 := (hg 3).trans (en rfl (en rfl s3))
    have s8 := (hg 8).trans es
    have s25 := (hg 25).trans (en rfl (en rfl s25))
    clear hg
    refine xc_ret ?_
    refine bodyR_1 rfl s8 ?_
    exact ⟨rfl, h⟩
  by_cases he : insE [] zs 0 = 0
  case neg =>
    refine calls_x Try.func7 rfl Try.ntmps7 rfl ?_
    refine xc_gen (fun g hg => ?_)
    have s0 := (hg 0).trans arg0
    have s1 := (hg 1).trans arg1
    have s2 := (hg 2).trans arg2
    have s3 := (hg 3).trans arg3
    clear hg
    refine xc_seq (fun K hK1 => ?_)
    refine xc_region ?_
    refine x_val (r_assign ec) (nd_of rfl) rfl ?_
    refine xw_nil ?_
    refine hK1 _ _ ?_
    refine xc_gen (fun g hg => ?_)
    have s0 := (hg 0).trans (en rfl s0)
    have s1 := (hg 1).trans (en rfl s1)
    have s2 := (hg 2).trans (en rfl s2)
    have s3 := (hg 3).trans (en rfl s3)
    have s8 := (hg 8).trans es
    clear hg
    refine xc_seq (fun K hK2 => ?_)
    refine xc_seq (fun K hK3 => ?_)
    refine xc_region ?_
    refine x_val (r_move s0) (nd_of rfl) rfl ?_
    refine x_val (r_len Try.underlying23 es) (nd_of rfl) rfl ?_
    refine x_val (r_gtr es ec (decide_eq_false (by omega))) (nd_of rfl) rfl ?_
    refine xw_nil ?_
    refine hK3 _ _ ?_
    refine xc_gen (fun g hg => ?_)
    have s0 := (hg 0).trans (en rfl (en rfl (en rfl s0)))
    have s1 := (hg 1).trans (en rfl (en rfl (en rfl s1)))
    have s2 := (hg 2).trans (en rfl (en rfl (en rfl s2)))
    have s3 := (hg 3).trans (en rfl (en rfl (en rfl s3)))
    have s8 := (hg 8).trans (en rfl (en rfl (en rfl s8)))
    have s25 := (hg 25).trans es
    clear hg
    refine xc_cond s25 (fun hc => by cases hc) (fun _ => ?_)
    refine xc_skip ?_
    refine hK2 _ _ ?_
    refine xc_seq (fun K hK4 => ?_)
    refine xc_region ?_
    refine x_enter (r_call Try.call9 .nil) (nd_of rfl) rfl (newR h) ?_
    rintro _ w ⟨b, rfl, h⟩
    refine x_val (r_assign es) (nd_of rfl) rfl ?_
    refine xw_nil ?_
    refine hK4 _ _ ?_
    refine xc_gen (fun g hg => ?_)
    have s0 := (hg 0).trans (en rfl (en rfl s0))
    have s1 := (hg 1).trans (en rfl (en rfl s1))
    have s2 := (hg 2).trans (en rfl (en rfl s2))
    have s3 := (hg 3).trans (en rfl (en rfl s3))
    have s8 := (hg 8).trans (en rfl (en rfl s8))
    have s9 := (hg 9).trans es
    have s25 := (hg 25).trans (en rfl (en rfl s25))
    clear hg
    refine xc_seq (fun K hK5 => ?_)
    refine xc_seq (fun K hK6 => ?_)
    refine xc_region ?_
    refine x_val (r_move s9) (nd_of rfl) rfl ?_
    refine x_val (r_move (en rfl s0)) (nd_of rfl) rfl ?_
    refine x_enter (r_call Try.call13 (.cons (en rfl es) (.cons ec (.cons es .nil)))) (nd_of rfl) rfl (insert_fail he hv (B' := 3000) (by simp; omega) (by omega) (by omega) h) ?_
    rintro _ w ⟨rfl, h⟩
    refine x_val (r_neq es ec (decide_eq_true (by exact he))) (nd_of rfl) rfl ?_
    refine x_val (r_move es) (nd_of rfl) rfl ?_
    refine x_pass (d := 32) rfl rfl es rfl ?_
    refine x_pass (d := 32) rfl rfl (en rfl es) rfl ?_
    refine x_val (r_pick_t (en rfl (en rfl es)) ec) (nd_of rfl) rfl ?_
    refine x_val (r_move es) (nd_of rfl) rfl ?_
    refine x_pass (d := 36) rfl rfl es rfl ?_
    refine x_pass (d := 36) rfl rfl (en rfl es) rfl ?_
    refine x_pass (d := 36) rfl rfl (en rfl (en rfl es)) rfl ?_
    refine x_val (r_pick_t (en rfl (en rfl (en rfl es))) ec) (nd_of rfl) rfl ?_
    refine x_val (r_move es) (nd_of rfl) rfl ?_
    refine x_pass (d := 41) rfl rfl es rfl ?_
    refine x_pass (d := 41) rfl rfl (en rfl es) rfl ?_
    refine x_pass (d := 41) rfl rfl (en rfl (en rfl es)) rfl ?_
    refine x_val (r_pick_t (en rfl (en rfl (en rfl es))) ec) (nd_of rfl) rfl ?_
    refine x_val (r_move es) (nd_of rfl) rfl ?_
    refine x_pass (d := 46) rfl rfl es rfl ?_
    refine x_pass (d := 46) rfl rfl (en rfl es) rfl ?_
    refine x_pass (d := 46) rfl rfl (en rfl (en rfl es)) rfl ?_
    refine x_pass (d := 46) rfl rfl (en rfl (en rfl (en rfl es))) rfl ?_
    refine x_val (r_pick_t (en rfl (en rfl (en rfl (en rfl es)))) ec) (nd_of rfl) rfl ?_
    refine xw_nil ?_
    refine hK6 _ _ ?_
    refine xc_gen (fun g hg => ?_)
    have s0 := (hg 0).trans (en rfl (en rfl (en rfl (en rfl (en rfl (en rfl (en rfl (en rfl (en rfl (en rfl (en rfl (en rfl (en rfl (en rfl (en rfl (en rfl (en rfl (en rfl (en rfl (en rfl (en rfl (en rfl (en rfl (en rfl s0))))))))))))))))))))))))
    have s1 := (hg 1).trans (en rfl (en rfl (en rfl (en rfl (en rfl (en rfl (en rfl (en rfl (en rfl (en rfl (en rfl (en rfl (en rfl (en rfl (en rfl (en rfl (en rfl (en rfl (en rfl (en rfl (en rfl (en rfl (en rfl (en rfl s1))))))))))))))))))))))))
    have s2 := (hg 2).trans (en rfl (en rfl (en rfl (en rfl (en rfl (en rfl (en rfl (en rfl (en rfl (en rfl (en rfl (en rfl (en rfl (en rfl (en rfl (en rfl (en rfl (en rfl (en rfl (en rfl (en rfl (en rfl (en rfl (en rfl s2))))))))))))))))))))))))
    have s3 := (hg 3).trans (en rfl (en rfl (en rfl (en rfl (en rfl (en rfl (en rfl (en rfl (en rfl (en rfl (en rfl (en rfl (en rfl (en rfl (en rfl (en rfl (en rfl (en rfl (en rfl (en rfl (en rfl (en rfl (en rfl (en rfl s3))))))))))))))))))))))))
    have s8 := (hg 8).trans (en rfl (en rfl (en rfl (en rfl (en rfl (en rfl (en rfl (en rfl (en rfl (en rfl (en rfl (en rfl (en rfl (en rfl (en rfl (en rfl (en rfl (en rfl (en rfl (en rfl (en rfl (en rfl (en rfl (en rfl s8))))))))))))))))))))))))
    have s9 := (hg 9).trans (en rfl (en rfl (en rfl (en rfl (en rfl (en rfl (en rfl (en rfl (en rfl (en rfl (en rfl (en rfl (en rfl (en rfl (en rfl (en rfl (en rfl (en rfl (en rfl (en rfl (en rfl (en rfl (en rfl (en rfl s9))))))))))))))))))))))))
    have s25 := (hg 25).trans (en rfl (en rfl (en rfl (en rfl (en rfl (en rfl (en rfl (en rfl (en rfl (en rfl (en rfl (en rfl (en rfl (en rfl (en rfl (en rfl (en rfl (en rfl (en rfl (en rfl (en rfl (en rfl (en rfl (en rfl s25))))))))))))))))))))))))
    have s51 := (hg 51).trans es
    clear hg
    refine xc_cond s51 (fun _ => ?_) (fun hc => by cases hc)
    refine xc_seq (fun K hK7 => ?_)
    refine xc_region ?_
    refine x_enter (r_call Try.call10 .nil) (nd_of rfl) rfl (known_ok h) ?_
    rintro _ w ⟨rfl, h⟩
    refine x_val (r_assign es) (nd_of rfl) rfl ?_
    refine xw_nil ?_
    refine hK7 _ _ ?_
    refine xc_gen (fun g hg => ?_)
    have s0 := (hg 0).trans (en rfl (en rfl s0))
    have s1 := (hg 1).trans (en rfl (en rfl s1))
    have s2 := (hg 2).trans (en rfl (en rfl s2))
    have s3 := (hg 3).trans (en rfl (en rfl s3))
    have s8 := (hg 8).trans es
    have s9 := (hg 9).trans (en rfl (en rfl s9))
    have s25 := (hg 25).trans (en rfl (en rfl s25))
    have s51 := (hg 51).trans (en rfl (en rfl s51))
    clear hg
    refine xc_ret ?_
    refine bodyR_1 rfl s8 ?_
    exact ⟨rfl, h.drop⟩
  rcases Int.lt_or_le i 0 with hi0 | hi0
  · skip
    refine calls_x Try.func7 rfl Try.ntmps7 rfl ?_
    refine xc_gen (fun g hg => ?_)
    have s0 := (hg 0).trans arg0
    have s1 := (hg 1).trans arg1
    have s2 := (hg 2).trans arg2
    have s3 := (hg 3).trans arg3
    clear hg
    refine xc_seq (fun K hK1 => ?_)
    refine xc_region ?_
    refine x_val (r_assign ec) (nd_of rfl) rfl ?_
    refine xw_nil ?_
    refine hK1 _ _ ?_
    refine xc_gen (fun g hg => ?_)
    have s0 := (hg 0).trans (en rfl s0)
    have s1 := (hg 1).trans (en rfl s1)
    have s2 := (hg 2).trans (en rfl s2)
    have s3 := (hg 3).trans (en rfl s3)
    have s8 := (hg 8).trans es
    clear hg
    refine xc_seq (fun K hK2 => ?_)
    refine xc_seq (fun K hK3 => ?_)
    refine xc_region ?_
    refine x_val (r_move s0) (nd_of rfl) rfl ?_
    refine x_val (r_len Try.underlying23 es) (nd_of rfl) rfl ?_
    refine x_val (r_gtr es ec (decide_eq_false (by omega))) (nd_of rfl) rfl ?_
    refine xw_nil ?_
    refine hK3 _ _ ?_
    refine xc_gen (fun g hg => ?_)
    have s0 := (hg 0).trans (en rfl (en rfl (en rfl s0)))
    have s1 := (hg 1).trans (en rfl (en rfl (en rfl s1)))
    have s2 := (hg 2).trans (en rfl (en rfl (en rfl s2)))
    have s3 := (hg 3).trans (en rfl (en rfl (en rfl s3)))
    have s8 := (hg 8).trans (en rfl (en rfl (en rfl s8)))
    have s25 := (hg 25).trans es
    clear hg
    refine xc_cond s25 (fun hc => by cases hc) (fun _ => ?_)
    refine xc_skip ?_
    refine hK2 _ _ ?_
    refine xc_seq (fun K hK4 => ?_)
    refine xc_region ?_
    refine x_enter (r_call Try.call9 .nil) (nd_of rfl) rfl (newR h) ?_
    rintro _ w ⟨b, rfl, h⟩
    refine x_val (r_assign es) (nd_of rfl) rfl ?_
    refine xw_nil ?_
    refine hK4 _ _ ?_
    refine xc_gen (fun g hg => ?_)
    have s0 := (hg 0).trans (en rfl (en rfl s0))
    have s1 := (hg 1).trans (en rfl (en rfl s1))
    have s2 := (hg 2).trans (en rfl (en rfl s2))
    have s3 := (hg 3).trans (en rfl (en rfl s3))
    have s8 := (hg 8).trans (en rfl (en rfl s8))
    have s9 := (hg 9).trans es
    have s25 := (hg 25).trans (en rfl (en rfl s25))
    clear hg
    refine xc_seq (fun K hK5 => ?_)
    refine xc_seq (fun K hK6 => ?_)
    refine xc_region ?_
    refine x_val (r_move s9) (nd_of rfl) rfl ?_
    refine x_val (r_move (en rfl s0)) (nd_of rfl) rfl ?_
    refine x_enter (r_call Try.call13 (.cons (en rfl es) (.cons ec (.cons es .nil)))) (nd_of rfl) rfl (insert_new he hv (B' := 3000) (by omega) (by omega) (by omega) h) ?_
    rintro _ w ⟨rfl, h⟩
    refine x_val (r_neq es ec (r := false) rfl) (nd_of rfl) rfl ?_
    refine x_val (r_move es) (nd_of rfl) rfl ?_
    refine x_take (d := 32) rfl rfl es ?_
    refine x_val (r_move (en rfl (en rfl (en rfl (en rfl (en rfl s1)))))) (nd_of rfl) rfl ?_
    refine x_take (d := 32) rfl rfl (en rfl es) ?_
    refine x_val (r_lss es ec (decide_eq_true (by omega))) (nd_of rfl) rfl ?_
    refine x_val (r_pick_f (en rfl (en rfl es)) es) (nd_of rfl) rfl ?_
    refine x_val (r_move es) (nd_of rfl) rfl ?_
    refine x_pass (d := 36) rfl rfl es rfl ?_
    refine x_pass (d := 36) rfl rfl (en rfl es) rfl ?_
    refine x_pass (d := 36) rfl rfl (en rfl (en rfl es)) rfl ?_
    refine x_val (r_pick_t (en rfl (en rfl (en rfl es))) ec) (nd_of rfl) rfl ?_
    refine x_val (r_move es) (nd_of rfl) rfl ?_
    refine x_pass (d := 41) rfl rfl es rfl ?_
    refine x_pass (d := 41) rfl rfl (en rfl es) rfl ?_
    refine x_pass (d := 41) rfl rfl (en rfl (en rfl es)) rfl ?_
    refine x_val (r_pick_t (en rfl (en rfl (en rfl es))) ec) (nd_of rfl) rfl ?_
    refine x_val (r_move es) (nd_of rfl) rfl ?_
    refine x_pass (d := 46) rfl rfl es rfl ?_
    refine x_pass (d := 46) rfl rfl (en rfl es) rfl ?_
    refine x_pass (d := 46) rfl rfl (en rfl (en rfl es)) rfl ?_
    refine x_pass (d := 46) rfl rfl (en rfl (en rfl (en rfl es))) rfl ?_
    refine x_val (r_pick_t (en rfl (en rfl (en rfl (en rfl es)))) ec) (nd_of rfl) rfl ?_
    refine xw_nil ?_
    refine hK6 _ _ ?_
    refine xc_gen (fun g hg => ?_)
    have s0 := (hg 0).trans (en rfl (en rfl (en rfl (en rfl (en rfl (en rfl (en rfl (en rfl (en rfl (en rfl (en rfl (en rfl (en rfl (en rfl (en rfl (en rfl (en rfl (en rfl (en rfl (en rfl (en rfl (en rfl (en rfl (en rfl s0))))))))))))))))))))))))
    have s1 := (hg 1).trans (en rfl (en rfl (en rfl (en rfl (en rfl (en rfl (en rfl (en rfl (en rfl (en rfl (en rfl (en rfl (en rfl (en rfl (en rfl (en rfl (en rfl (en rfl (en rfl (en rfl (en rfl (en rfl (en rfl (en rfl s1))))))))))))))))))))))))
    have s2 := (hg 2).trans (en rfl (en rfl (en rfl (en rfl (en rfl (en rfl (en rfl (en rfl (en rfl (en rfl (en rfl (en rfl (en rfl (en rfl (en rfl (en rfl (en rfl (en rfl (en rfl (en rfl (en rfl (en rfl (en rfl (en rfl s2))))))))))))))))))))))))
    have s3 := (hg 3).trans (en rfl (en rfl (en rfl (en rfl (en rfl (en rfl (en rfl (en rfl (en rfl (en rfl (en rfl (en rfl (en rfl (en rfl (en rfl (en rfl (en rfl (en rfl (en rfl (en rfl (en rfl (en rfl (en rfl (en rfl s3))))))))))))))))))))))))
    have s8 := (hg 8).trans (en rfl (en rfl (en rfl (en rfl (en rfl (en rfl (en rfl (en rfl (en rfl (en rfl (en rfl (en rfl (en rfl (en rfl (en rfl (en rfl (en rfl (en rfl (en rfl (en rfl (en rfl (en rfl (en rfl (en rfl s8))))))))))))))))))))))))
    have s9 := (hg 9).trans (en rfl (en rfl (en rfl (en rfl (en rfl (en rfl (en rfl (en rfl (en rfl (en rfl (en rfl (en rfl (en rfl (en rfl (en rfl (en rfl (en rfl (en rfl (en rfl (en rfl (en rfl (en rfl (en rfl (en rfl s9))))))))))))))))))))))))
    have s25 := (hg 25).trans (en rfl (en rfl (en rfl (en rfl (en rfl (en rfl (en rfl (en rfl (en rfl (en rfl (en rfl (en rfl (en rfl (en rfl (en rfl (en rfl (en rfl (en rfl (en rfl (en rfl (en rfl (en rfl (en rfl (en rfl s25))))))))))))))))))))))))
    have s51 := (hg 51).trans es
    clear hg
    refine xc_cond s51 (fun _ => ?_) (fun hc => by cases hc)
    refine xc_seq (fun K hK7 => ?_)
    refine xc_region ?_
    refine x_enter (r_call Try.call10 .nil) (nd_of rfl) rfl (known_ok h) ?_
    rintro _ w ⟨rfl, h⟩
    refine x_val (r_assign es) (nd_of rfl) rfl ?_
    refine xw_nil ?_
    refine hK7 _ _ ?_
    refine xc_gen (fun g hg => ?_)
    have s0 := (hg 0).trans (en rfl (en rfl s0))
    have s1 := (hg 1).trans (en rfl (en rfl s1))
    have s2 := (hg 2).trans (en rfl (en rfl s2))
    have s3 := (hg 3).trans (en rfl (en rfl s3))
    have s8 := (hg 8).trans es
    have s9 := (hg 9).trans (en rfl (en rfl s9))
    have s25 := (hg 25).trans (en rfl (en rfl s25))
    have s51 := (hg 51).trans (en rfl (en rfl s51))
    clear hg
    refine xc_ret ?_
    refine bodyR_1 rfl s8 ?_
    exact ⟨rfl, h.drop⟩
  rcases Int.lt_or_le j i with hij | hij
  · skip
    refine calls_x Try.func7 rfl Try.ntmps7 rfl ?_
    refine xc_gen (fun g hg => ?_)
    have s0 := (hg 0).trans arg0
    have s1 := (hg 1).trans arg1
    have s2 := (hg 2).trans arg2
    have s3 := (hg 3).trans arg3
    clear hg
    refine xc_seq (fun K hK1 => ?_)
    refine xc_region ?_
    refine x_val (r_assign ec) (nd_of rfl) rfl ?_
    refine xw_nil ?_
    refine hK1 _ _ ?_
    refine xc_gen (fun g hg => ?_)
    have s0 := (hg 0).trans (en rfl s0)
    have s1 := (hg 1).trans (en rfl s1)
    have s2 := (hg 2).trans (en rfl s2)
    have s3 := (hg 3).trans (en rfl s3)
    have s8 := (hg 8).trans es
    clear hg
    refine xc_seq (fun K hK2 => ?_)
    refine xc_seq (fun K hK3 => ?_)
    refine xc_region ?_
    refine x_val (r_move s0) (nd_of rfl) rfl ?_
    refine x_val (r_len Try.underlying23 es) (nd_of rfl) rfl ?_
    refine x_val (r_gtr es ec (decide_eq_false (by omega))) (nd_of rfl) rfl ?_
    refine xw_nil ?_
    refine hK3 _ _ ?_
    refine xc_gen (fun g hg => ?_)
    have s0 := (hg 0).trans (en rfl (en rfl (en rfl s0)))
    have s1 := (hg 1).trans (en rfl (en rfl (en rfl s1)))
    have s2 := (hg 2).trans (en rfl (en rfl (en rfl s2)))
    have s3 := (hg 3).trans (en rfl (en rfl (en rfl s3)))
    have s8 := (hg 8).trans (en rfl (en rfl (en rfl s8)))
    have s25 := (hg 25).trans es
    clear hg
    refine xc_cond s25 (fun hc => by cases hc) (fun _ => ?_)
    refine xc_skip ?_
    refine hK2 _ _ ?_
    refine xc_seq (fun K hK4 => ?_)
    refine xc_region ?_
    refine x_enter (r_call Try.call9 .nil) (nd_of rfl) rfl (newR h) ?_
    rintro _ w ⟨b, rfl, h⟩
    refine x_val (r_assign es) (nd_of rfl) rfl ?_
    refine xw_nil ?_
    refine hK4 _ _ ?_
    refine xc_gen (fun g hg => ?_)
    have s0 := (hg 0).trans (en rfl (en rfl s0))
    have s1 := (hg 1).trans (en rfl (en rfl s1))
    have s2 := (hg 2).trans (en rfl (en rfl s2))
    have s3 := (hg 3).trans (en rfl (en rfl s3))
    have s8 := (hg 8).trans (en rfl (en rfl s8))
    have s9 := (hg 9).trans es
    have s25 := (hg 25).trans (en rfl (en rfl s25))
    clear hg
    refine xc_seq (fun K hK5 => ?_)
    refine xc_seq (fun K hK6 => ?_)
    refine xc_region ?_
    refine x_val (r_move s9) (nd_of rfl) rfl ?_
    refine x_val (r_move (en rfl s0)) (nd_of rfl) rfl ?_
    refine x_enter (r_call Try.call13 (.cons (en rfl es) (.cons ec (.cons es .nil)))) (nd_of rfl) rfl (insert_new he hv (B' := 3000) (by omega) (by omega) (by omega) h) ?_
    rintro _ w ⟨rfl, h⟩
    refine x_val (r_neq es ec (r := false) rfl) (nd_of rfl) rfl ?_
    refine x_val (r_move es) (nd_of rfl) rfl ?_
    refine x_take (d := 32) rfl rfl es ?_
    refine x_val (r_move (en rfl (en rfl (en rfl (en rfl (en rfl s1)))))) (nd_of rfl) rfl ?_
    refine x_take (d := 32) rfl rfl (en rfl es) ?_
    refine x_val (r_lss es ec (decide_eq_false (by omega))) (nd_of rfl) rfl ?_
    refine x_val (r_pick_f (en rfl (en rfl es)) es) (nd_of rfl) rfl ?_
    refine x_val (r_move es) (nd_of rfl) rfl ?_
    refine x_take (d := 36) rfl rfl es ?_
    refine x_val (r_move (en rfl (en rfl (en rfl (en rfl (en rfl (en rfl (en rfl (en rfl (en rfl s1)))))))))) (nd_of rfl) rfl ?_
    refine x_take (d := 36) rfl rfl (en rfl es) ?_
    refine x_val (r_move (en rfl (en rfl (en rfl (en rfl (en rfl (en rfl (en rfl (en rfl (en rfl (en rfl s2))))))))))) (nd_of rfl) rfl ?_
    refine x_take (d := 36) rfl rfl (en rfl (en rfl es)) ?_
    refine x_val (r_gtr (en rfl es) es (decide_eq_true (by omega))) (nd_of rfl) rfl ?_
    refine x_val (r_pick_f (en rfl (en rfl (en rfl es))) es) (nd_of rfl) rfl ?_
    refine x_val (r_move es) (nd_of rfl) rfl ?_
    refine x_pass (d := 41) rfl rfl es rfl ?_
    refine x_pass (d := 41) rfl rfl (en rfl es) rfl ?_
    refine x_pass (d := 41) rfl rfl (en rfl (en rfl es)) rfl ?_
    refine x_val (r_pick_t (en rfl (en rfl (en rfl es))) ec) (nd_of rfl) rfl ?_
    refine x_val (r_move es) (nd_of rfl) rfl ?_
    refine x_pass (d := 46) rfl rfl es rfl ?_
    refine x_pass (d := 46) rfl rfl (en rfl es) rfl ?_
    refine x_pass (d := 46) rfl rfl (en rfl (en rfl es)) rfl ?_
    refine x_pass (d := 46) rfl rfl (en rfl (en rfl (en rfl es))) rfl ?_
    refine x_val (r_pick_t (en rfl (en rfl (en rfl (en rfl es)))) ec) (nd_of rfl) rfl ?_
    refine xw_nil ?_
    refine hK6 _ _ ?_
    refine xc_gen (fun g hg => ?_)
    have s0 := (hg 0).trans (en rfl (en rfl (en rfl (en rfl (en rfl (en rfl (en rfl (en rfl (en rfl (en rfl (en rfl (en rfl (en rfl (en rfl (en rfl (en rfl (en rfl (en rfl (en rfl (en rfl (en rfl (en rfl (en rfl (en rfl s0))))))))))))))))))))))))
    have s1 := (hg 1).trans (en rfl (en rfl (en rfl (en rfl (en rfl (en rfl (en rfl (en rfl (en rfl (en rfl (en rfl (en rfl (en rfl (en rfl (en rfl (en rfl (en rfl (en rfl (en rfl (en rfl (en rfl (en rfl (en rfl (en rfl s1))))))))))))))))))))))))
    have s2 := (hg 2).trans (en rfl (en rfl (en rfl (en rfl (en rfl (en rfl (en rfl (en rfl (en rfl (en rfl (en rfl (en rfl (en rfl (en rfl (en rfl (en rfl (en rfl (en rfl (en rfl (en rfl (en rfl (en rfl (en rfl (en rfl s2))))))))))))))))))))))))
    have s3 := (hg 3).trans (en rfl (en rfl (en rfl (en rfl (en rfl (en rfl (en rfl (en rfl (en rfl (en rfl (en rfl (en rfl (en rfl (en rfl (en rfl (en rfl (en rfl (en rfl (en rfl (en rfl (en rfl (en rfl (en rfl (en rfl s3))))))))))))))))))))))))
    have s8 := (hg 8).trans (en rfl (en rfl (en rfl (en rfl (en rfl (en rfl (en rfl (en rfl (en rfl (en rfl (en rfl (en rfl (en rfl (en rfl (en rfl (en rfl (en rfl (en rfl (en rfl (en rfl (en rfl (en rfl (en rfl (en rfl s8))))))))))))))))))))))))
    have s9 := (hg 9).trans (en rfl (en rfl (en rfl (en rfl (en rfl (en rfl (en rfl (en rfl (en rfl (en rfl (en rfl (en rfl (en rfl (en rfl (en rfl (en rfl (en rfl (en rfl (en rfl (en rfl (en rfl (en rfl (en rfl (en rfl s9))))))))))))))))))))))))
    have s25 := (hg 25).trans (en rfl (en rfl (en rfl (en rfl (en rfl (en rfl (en rfl (en rfl (en rfl (en rfl (en rfl (en rfl (en rfl (en rfl (en rfl (en rfl (en rfl (en rfl (en rfl (en rfl (en rfl (en rfl (en rfl (en rfl s25))))))))))))))))))))))))
    have s51 := (hg 51).trans es
    clear hg
    refine xc_cond s51 (fun _ => ?_) (fun hc => by cases hc)
    refine xc_seq (fun K hK7 => ?_)
    refine xc_region ?_
    refine x_enter (r_call Try.call10 .nil) (nd_of rfl) rfl (known_ok h) ?_
    rintro _ w ⟨rfl, h⟩
    refine x_val (r_assign es) (nd_of rfl) rfl ?_
    refine xw_nil ?_
    refine hK7 _ _ ?_
    refine xc_gen (fun g hg => ?_)
    have s0 := (hg 0).trans (en rfl (en rfl s0))
    have s1 := (hg 1).trans (en rfl (en rfl s1))
    have s2 := (hg 2).trans (en rfl (en rfl s2))
    have s3 := (hg 3).trans (en rfl (en rfl s3))
    have s8 := (hg 8).trans es
    have s9 := (hg 9).trans (en rfl (en rfl s9))
    have s25 := (hg 25).trans (en rfl (en rfl s25))
    have s51 := (hg 51).trans (en rfl (en rfl s51))
    clear hg
    refine xc_ret ?_
    refine bodyR_1 rfl s8 ?_
    exact ⟨rfl, h.drop⟩
  rcases Int.lt_or_le k j with hjk | hjk
  · skip
    refine calls_x Try.func7 rfl Try.ntmps7 rfl ?_
    refine xc_gen (fun g hg => ?_)
    have s0 := (hg 0).trans arg0
    have s1 := (hg 1).trans arg1
    have s2 := (hg 2).trans arg2
    have s3 := (hg 3).trans arg3
    clear hg
    refine xc_seq (fun K hK1 => ?_)
    refine xc_region ?_
    refine x_val (r_assign ec) (nd_of rfl) rfl ?_
    refine xw_nil ?_
    refine hK1 _ _ ?_
    refine xc_gen (fun g hg => ?_)
    have s0 := (hg 0).trans (en rfl s0)
    have s1 := (hg 1).trans (en rfl s1)
    have s2 := (hg 2).trans (en rfl s2)
    have s3 := (hg 3).trans (en rfl s3)
    have s8 := (hg 8).trans es
    clear hg
    refine xc_seq (fun K hK2 => ?_)
    refine xc_seq (fun K hK3 => ?_)
    refine xc_region ?_
    refine x_val (r_move s0) (nd_of rfl) rfl ?_
    refine x_val (r_len Try.underlying23 es) (nd_of rfl) rfl ?_
    refine x_val (r_gtr es ec (decide_eq_false (by omega))) (nd_of rfl) rfl ?_
    refine xw_nil ?_
    refine hK3 _ _ ?_
    refine xc_gen (fun g hg => ?_)
    have s0 := (hg 0).trans (en rfl (en rfl (en rfl s0)))
    have s1 := (hg 1).trans (en rfl (en rfl (en rfl s1)))
    have s2 := (hg 2).trans (en rfl (en rfl (en rfl s2)))
    have s3 := (hg 3).trans (en rfl (en rfl (en rfl s3)))
    have s8 := (hg 8).trans (en rfl (en rfl (en rfl s8)))
    have s25 := (hg 25).trans es
    clear hg
    refine xc_cond s25 (fun hc => by cases hc) (fun _ => ?_)
    refine xc_skip ?_
    refine hK2 _ _ ?_
    refine xc_seq (fun K hK4 => ?_)
    refine xc_region ?_
    refine x_enter (r_call Try.call9 .nil) (nd_of rfl) rfl (newR h) ?_
    rintro _ w ⟨b, rfl, h⟩
    refine x_val (r_assign es) (nd_of rfl) rfl ?_
    refine xw_nil ?_
    refine hK4 _ _ ?_
    refine xc_gen (fun g hg => ?_)
    have s0 := (hg 0).trans (en rfl (en rfl s0))
    have s1 := (hg 1).trans (en rfl (en rfl s1))
    have s2 := (hg 2).trans (en rfl (en rfl s2))
    have s3 := (hg 3).trans (en rfl (en rfl s3))
    have s8 := (hg 8).trans (en rfl (en rfl s8))
    have s9 := (hg 9).trans es
    have s25 := (hg 25).trans (en rfl (en rfl s25))
    clear hg
    refine xc_seq (fun K hK5 => ?_)
    refine xc_seq (fun K hK6 => ?_)
    refine xc_region ?_
    refine x_val (r_move s9) (nd_of rfl) rfl ?_
    refine x_val (r_move (en rfl s0)) (nd_of rfl) rfl ?_
    refine x_enter (r_call Try.call13 (.cons (en rfl es) (.cons ec (.cons es .nil)))) (nd_of rfl) rfl (insert_new he hv (B' := 3000) (by omega) (by omega) (by omega) h) ?_
    rintro _ w ⟨rfl, h⟩
    refine x_val (r_neq es ec (r := false) rfl) (nd_of rfl) rfl ?_
    refine x_val (r_move es) (nd_of rfl) rfl ?_
    refine x_take (d := 32) rfl rfl es ?_
    refine x_val (r_move (en rfl (en rfl (en rfl (en rfl (en rfl s1)))))) (nd_of rfl) rfl ?_
    refine x_take (d := 32) rfl rfl (en rfl es) ?_
    refine x_val (r_lss es ec (decide_eq_false (by omega))) (nd_of rfl) rfl ?_
    refine x_val (r_pick_f (en rfl (en rfl es)) es) (nd_of rfl) rfl ?_
    refine x_val (r_move es) (nd_of rfl) rfl ?_
    refine x_take (d := 36) rfl rfl es ?_
    refine x_val (r_move (en rfl (en rfl (en rfl (en rfl (en rfl (en rfl (en rfl (en rfl (en rfl s1)))))))))) (nd_of rfl) rfl ?_
    refine x_take (d := 36) rfl rfl (en rfl es) ?_
    refine x_val (r_move (en rfl (en rfl (en rfl (en rfl (en rfl (en rfl (en rfl (en rfl (en rfl (en rfl s2))))))))))) (nd_of rfl) rfl ?_
    refine x_take (d := 36) rfl rfl (en rfl (en rfl es)) ?_
    refine x_val (r_gtr (en rfl es) es (decide_eq_false (by omega))) (nd_of rfl) rfl ?_
    refine x_val (r_pick_f (en rfl (en rfl (en rfl es))) es) (nd_of rfl) rfl ?_
    refine x_val (r_move es) (nd_of rfl) rfl ?_
    refine x_take (d := 41) rfl rfl es ?_
    refine x_val (r_move (en rfl (en rfl (en rfl (en rfl (en rfl (en rfl (en rfl (en rfl (en rfl (en rfl (en rfl (en rfl (en rfl (en rfl s2))))))))))))))) (nd_of rfl) rfl ?_
    refine x_take (d := 41) rfl rfl (en rfl es) ?_
    refine x_val (r_move (en rfl (en rfl (en rfl (en rfl (en rfl (en rfl (en rfl (en rfl (en rfl (en rfl (en rfl (en rfl (en rfl (en rfl (en rfl s3)))))))))))))))) (nd_of rfl) rfl ?_
    refine x_take (d := 41) rfl rfl (en rfl (en rfl es)) ?_
    refine x_val (r_gtr (en rfl es) es (decide_eq_true (by omega))) (nd_of rfl) rfl ?_
    refine x_val (r_pick_f (en rfl (en rfl (en rfl es))) es) (nd_of rfl) rfl ?_
    refine x_val (r_move es) (nd_of rfl) rfl ?_
    refine x_pass (d := 46) rfl rfl es rfl ?_
    refine x_pass (d := 46) rfl rfl (en rfl es) rfl ?_
    refine x_pass (d := 46) rfl rfl (en rfl (en rfl es)) rfl ?_
    refine x_pass (d := 46) rfl rfl (en rfl (en rfl (en rfl es))) rfl ?_
    refine x_val (r_pick_t (en rfl (en rfl (en rfl (en rfl es)))) ec) (nd_of rfl) rfl ?_
    refine xw_nil ?_
    refine hK6 _ _ ?_
    refine xc_gen (fun g hg => ?_)
    have s0 := (hg 0).trans (en rfl (en rfl (en rfl (en rfl (en rfl (en rfl (en rfl (en rfl (en rfl (en rfl (en rfl (en rfl (en rfl (en rfl (en rfl (en rfl (en rfl (en rfl (en rfl (en rfl (en rfl (en rfl (en rfl (en rfl s0))))))))))))))))))))))))
    have s1 := (hg 1).trans (en rfl (en rfl (en rfl (en rfl (en rfl (en rfl (en rfl (en rfl (en rfl (en rfl (en rfl (en rfl (en rfl (en rfl (en rfl (en rfl (en rfl (en rfl (en rfl (en rfl (en rfl (en rfl (en rfl (en rfl s1))))))))))))))))))))))))
    have s2 := (hg 2).trans (en rfl (en rfl (en rfl (en rfl (en rfl (en rfl (en rfl (en rfl (en rfl (en rfl (en rfl (en rfl (en rfl (en rfl (en rfl (en rfl (en rfl (en rfl (en rfl (en rfl (en rfl (en rfl (en rfl (en rfl s2))))))))))))))))))))))))
    have s3 := (hg 3).trans (en rfl (en rfl (en rfl (en rfl (en rfl (en rfl (en rfl (en rfl (en rfl (en rfl (en rfl (en rfl (en rfl (en rfl (en rfl (en rfl (en rfl (en rfl (en rfl (en rfl (en rfl (en rfl (en rfl (en rfl s3))))))))))))))))))))))))
    have s8 := (hg 8).trans (en rfl (en rfl (en rfl (en rfl (en rfl (en rfl (en rfl (en rfl (en rfl (en rfl (en rfl (en rfl (en rfl (en rfl (en rfl (en rfl (en rfl (en rfl (en rfl (en rfl (en rfl (en rfl (en rfl (en rfl s8))))))))))))))))))))))))
    have s9 := (hg 9).trans (en rfl (en rfl (en rfl (en rfl (en rfl (en rfl (en rfl (en rfl (en rfl (en rfl (en rfl (en rfl (en rfl (en rfl (en rfl (en rfl (en rfl (en rfl (en rfl (en rfl (en rfl (en rfl (en rfl (en rfl s9))))))))))))))))))))))))
    have s25 := (hg 25).trans (en rfl (en rfl (en rfl (en rfl (en rfl (en rfl (en rfl (en rfl (en rfl (en rfl (en rfl (en rfl (en rfl (en rfl (en rfl (en rfl (en rfl (en rfl (en rfl (en rfl (en rfl (en rfl (en rfl (en rfl s25))))))))))))))))))))))))
    have s51 := (hg 51).trans es
    clear hg
    refine xc_cond s51 (fun _ => ?_) (fun hc => by cases hc)
    refine xc_seq (fun K hK7 => ?_)
    refine xc_region ?_
    refine x_enter (r_call Try.call10 .nil) (nd_of rfl) rfl (known_ok h) ?_
    rintro _ w ⟨rfl, h⟩
    refine x_val (r_assign es) (nd_of rfl) rfl ?_
    refine xw_nil ?_
    refine hK7 _ _ ?_
    refine xc_gen (fun g hg => ?_)
    have s0 := (hg 0).trans (en rfl (en rfl s0))
    have s1 := (hg 1).trans (en rfl (en rfl s1))
    have s2 := (hg 2).trans (en rfl (en rfl s2))
    have s3 := (hg 3).trans (en rfl (en rfl s3))
    have s8 := (hg 8).trans es
    have s9 := (hg 9).trans (en rfl (en rfl s9))
    have s25 := (hg 25).trans (en rfl (en rfl s25))
    have s51 := (hg 51).trans (en rfl (en rfl s51))
    clear hg
    refine xc_ret ?_
    refine bodyR_1 rfl s8 ?_
    exact ⟨rfl, h.drop⟩
  rcases Int.lt_or_le (zs.length : Int) k with hkl | hkl
  · skip
    refine calls_x Try.func7 rfl Try.ntmps7 rfl ?_
    refine xc_gen (fun g hg => ?_)
    have s0 := (hg 0).trans arg0
    have s1 := (hg 1).trans arg1
    have s2 := (hg 2).trans arg2
    have s3 := (hg 3).trans arg3
    clear hg
    refine xc_seq (fun K hK1 => ?_)
    refine xc_region ?_
    refine x_val (r_assign ec) (nd_of rfl) rfl ?_
    refine xw_nil ?_
    refine hK1 _ _ ?_
    refine xc_gen (fun g hg => ?_)
    have s0 := (hg 0).trans (en rfl s0)
    have s1 := (hg 1).trans (en rfl s1)
    have s2 := (hg 2).trans (en rfl s2)
    have s3 := (hg 3).trans (en rfl s3)
    have s8 := (hg 8).trans es
    clear hg
    refine xc_seq (fun K hK2 => ?_)
    refine xc_seq (fun K hK3 => ?_)
    refine xc_region ?_
    refine x_val (r_move s0) (nd_of rfl) rfl ?_
    refine x_val (r_len Try.underlying23 es) (nd_of rfl) rfl ?_
    refine x_val (r_gtr es ec (decide_eq_false (by omega))) (nd_of rfl) rfl ?_
    refine xw_nil ?_
    refine hK3 _ _ ?_
    refine xc_gen (fun g hg => ?_)
    have s0 := (hg 0).trans (en rfl (en rfl (en rfl s0)))
    have s1 := (hg 1).trans (en rfl (en rfl (en rfl s1)))
    have s2 := (hg 2).trans (en rfl (en rfl (en rfl s2)))
    have s3 := (hg 3).trans (en rfl (en rfl (en rfl s3)))
    have s8 := (hg 8).trans (en rfl (en rfl (en rfl s8)))
    have s25 := (hg 25).trans es
    clear hg
    refine xc_cond s25 (fun hc => by cases hc) (fun _ => ?_)
    refine xc_skip ?_
    refine hK2 _ _ ?_
    refine xc_seq (fun K hK4 => ?_)
    refine xc_region ?_
    refine x_enter (r_call Try.call9 .nil) (nd_of rfl) rfl (newR h) ?_
    rintro _ w ⟨b, rfl, h⟩
    refine x_val (r_assign es) (nd_of rfl) rfl ?_
    refine xw_nil ?_
    refine hK4 _ _ ?_
    refine xc_gen (fun g hg => ?_)
    have s0 := (hg 0).trans (en rfl (en rfl s0))
    have s1 := (hg 1).trans (en rfl (en rfl s1))
    have s2 := (hg 2).trans (en rfl (en rfl s2))
    have s3 := (hg 3).trans (en rfl (en rfl s3))
    have s8 := (hg 8).trans (en rfl (en rfl s8))
    have s9 := (hg 9).trans es
    have s25 := (hg 25).trans (en rfl (en rfl s25))
    clear hg
    refine xc_seq (fun K hK5 => ?_)
    refine xc_seq (fun K hK6 => ?_)
    refine xc_region ?_
    refine x_val (r_move s9) (nd_of rfl) rfl ?_
    refine x_val (r_move (en rfl s0)) (nd_of rfl) rfl ?_
    refine x_enter (r_call Try.call13 (.cons (en rfl es) (.cons ec (.cons es .nil)))) (nd_of rfl) rfl (insert_new he hv (B' := 3000) (by omega) (by omega) (by omega) h) ?_
    rintro _ w ⟨rfl, h⟩
    refine x_val (r_neq es ec (r := false) rfl) (nd_of rfl) rfl ?_
    refine x_val (r_move es) (nd_of rfl) rfl ?_
    refine x_take (d := 32) rfl rfl es ?_
    refine x_val (r_move (en rfl (en rfl (en rfl (en rfl (en rfl s1)))))) (nd_of rfl) rfl ?_
    refine x_take (d := 32) rfl rfl (en rfl es) ?_
    refine x_val (r_lss es ec (decide_eq_false (by omega))) (nd_of rfl) rfl ?_
    refine x_val (r_pick_f (en rfl (en rfl es)) es) (nd_of rfl) rfl ?_
    refine x_val (r_move es) (nd_of rfl) rfl ?_
    refine x_take (d := 36) rfl rfl es ?_
    refine x_val (r_move (en rfl (en rfl (en rfl (en rfl (en rfl (en rfl (en rfl (en rfl (en rfl s1)))))))))) (nd_of rfl) rfl ?_
    refine x_take (d := 36) rfl rfl (en rfl es) ?_
    refine x_val (r_move (en rfl (en rfl (en rfl (en rfl (en rfl (en rfl (en rfl (en rfl (en rfl (en rfl s2))))))))))) (nd_of rfl) rfl ?_
    refine x_take (d := 36) rfl rfl (en rfl (en rfl es)) ?_
    refine x_val (r_gtr (en rfl es) es (decide_eq_false (by omega))) (nd_of rfl) rfl ?_
    refine x_val (r_pick_f (en rfl (en rfl (en rfl es))) es) (nd_of rfl) rfl ?_
    refine x_val (r_move es) (nd_of rfl) rfl ?_
    refine x_take (d := 41) rfl rfl es ?_
    refine x_val (r_move (en rfl (en rfl (en rfl (en rfl (en rfl (en rfl (en rfl (en rfl (en rfl (en rfl (en rfl (en rfl (en rfl (en rfl s2))))))))))))))) (nd_of rfl) rfl ?_
    refine x_take (d := 41) rfl rfl (en rfl es) ?_
    refine x_val (r_move (en rfl (en rfl (en rfl (en rfl (en rfl (en rfl (en rfl (en rfl (en rfl (en rfl (en rfl (en rfl (en rfl (en rfl (en rfl s3)))))))))))))))) (nd_of rfl) rfl ?_
    refine x_take (d := 41) rfl rfl (en rfl (en rfl es)) ?_
    refine x_val (r_gtr (en rfl es) es (decide_eq_false (by omega))) (nd_of rfl) rfl ?_
    refine x_val (r_pick_f (en rfl (en rfl (en rfl es))) es) (nd_of rfl) rfl ?_
    refine x_val (r_move es) (nd_of rfl) rfl ?_
    refine x_take (d := 46) rfl rfl es ?_
    refine x_val (r_move (en rfl (en rfl (en rfl (en rfl (en rfl (en rfl (en rfl (en rfl (en rfl (en rfl (en rfl (en rfl (en rfl (en rfl (en rfl (en rfl (en rfl (en rfl (en rfl s3)))))))))))))))))))) (nd_of rfl) rfl ?_
    refine x_take (d := 46) rfl rfl (en rfl es) ?_
    refine x_val (r_move (en rfl (en rfl (en rfl (en rfl (en rfl (en rfl (en rfl (en rfl (en rfl (en rfl (en rfl (en rfl (en rfl (en rfl (en rfl (en rfl (en rfl (en rfl (en rfl (en rfl s0))))))))))))))))))))) (nd_of rfl) rfl ?_
    refine x_take (d := 46) rfl rfl (en rfl (en rfl es)) ?_
    refine x_val (r_len Try.underlying23 es) (nd_of rfl) rfl ?_
    refine x_take (d := 46) rfl rfl (en rfl (en rfl (en rfl es))) ?_
    refine x_val (r_gtr (en rfl (en rfl es)) es (decide_eq_true (by omega))) (nd_of rfl) rfl ?_
    refine x_val (r_pick_f (en rfl (en rfl (en rfl (en rfl es)))) es) (nd_of rfl) rfl ?_
    refine xw_nil ?_
    refine hK6 _ _ ?_
    refine xc_gen (fun g hg => ?_)
    have s0 := (hg 0).trans (en rfl (en rfl (en rfl (en rfl (en rfl (en rfl (en rfl (en rfl (en rfl (en rfl (en rfl (en rfl (en rfl (en rfl (en rfl (en rfl (en rfl (en rfl (en rfl (en rfl (en rfl (en rfl (en rfl (en rfl s0))))))))))))))))))))))))
    have s1 := (hg 1).trans (en rfl (en rfl (en rfl (en rfl (en rfl (en rfl (en rfl (en rfl (en rfl (en rfl (en rfl (en rfl (en rfl (en rfl (en rfl (en rfl (en rfl (en rfl (en rfl (en rfl (en rfl (en rfl (en rfl (en rfl s1))))))))))))))))))))))))
    have s2 := (hg 2).trans (en rfl (en rfl (en rfl (en rfl (en rfl (en rfl (en rfl (en rfl (en rfl (en rfl (en rfl (en rfl (en rfl (en rfl (en rfl (en rfl (en rfl (en rfl (en rfl (en rfl (en rfl (en rfl (en rfl (en rfl s2))))))))))))))))))))))))
    have s3 := (hg 3).trans (en rfl (en rfl (en rfl (en rfl (en rfl (en rfl (en rfl (en rfl (en rfl (en rfl (en rfl (en rfl (en rfl (en rfl (en rfl (en rfl (en rfl (en rfl (en rfl (en rfl (en rfl (en rfl (en rfl (en rfl s3))))))))))))))))))))))))
    have s8 := (hg 8).trans (en rfl (en rfl (en rfl (en rfl (en rfl (en rfl (en rfl (en rfl (en rfl (en rfl (en rfl (en rfl (en rfl (en rfl (en rfl (en rfl (en rfl (en rfl (en rfl (en rfl (en rfl (en rfl (en rfl (en rfl s8))))))))))))))))))))))))
    have s9 := (hg 9).trans (en rfl (en rfl (en rfl (en rfl (en rfl (en rfl (en rfl (en rfl (en rfl (en rfl (en rfl (en rfl (en rfl (en rfl (en rfl (en rfl (en rfl (en rfl (en rfl (en rfl (en rfl (en rfl (en rfl (en rfl s9))))))))))))))))))))))))
    have s25 := (hg 25).trans (en rfl (en rfl (en rfl (en rfl (en rfl (en rfl (en rfl (en rfl (en rfl (en rfl (en rfl (en rfl (en rfl (en rfl (en rfl (en rfl (en rfl (en rfl (en rfl (en rfl (en rfl (en rfl (en rfl (en rfl s25))))))))))))))))))))))))
    have s51 := (hg 51).trans es
    clear hg
    refine xc_cond s51 (fun _ => ?_) (fun hc => by cases hc)
    refine xc_seq (fun K hK7 => ?_)
    refine xc_region ?_
    refine x_enter (r_call Try.call10 .nil) (nd_of rfl) rfl (known_ok h) ?_
    rintro _ w ⟨rfl, h⟩
    refine x_val (r_assign es) (nd_of rfl) rfl ?_
    refine xw_nil ?_
    refine hK7 _ _ ?_
    refine xc_gen (fun g hg => ?_)
    have s0 := (hg 0).trans (en rfl (en rfl s0))
    have s1 := (hg 1).trans (en rfl (en rfl s1))
    have s2 := (hg 2).trans (en rfl (en rfl s2))
    have s3 := (hg 3).trans (en rfl (en rfl s3))
    have s8 := (hg 8).trans es
    have s9 := (hg 9).trans (en rfl (en rfl s9))
    have s25 := (hg 25).trans (en rfl (en rfl s25))
    have s51 := (hg 51).trans (en rfl (en rfl s51))
    clear hg
    refine xc_ret ?_
    refine bodyR_1 rfl s8 ?_
    exact ⟨rfl, h.drop⟩
  obtain ⟨ni, rfl⟩ := Int.eq_ofNat_of_zero_le hi0
  obtain ⟨nj, rfl⟩ := Int.eq_ofNat_of_zero_le (Int.le_trans hi0 hij)
  obtain ⟨nk, rfl⟩ := Int.eq_ofNat_of_zero_le (a := k) (by omega)
  obtain ⟨A, hA⟩ : ∃ A, A = (zs.take nj).drop ni := ⟨_, rfl⟩
  obtain ⟨B, hB⟩ : ∃ B, B = (zs.take nk).drop nj := ⟨_, rfl⟩
  obtain ⟨C, hC⟩ : ∃ C, C = (zs.take nk).drop ni := ⟨_, rfl⟩
  have hABC : A ++ B = C := by rw [hA, hB, hC]; exact parts_law (by omega) (by omega)
  have hcnt := cnt_part (zs := zs) (i := ni) (k := nk) (by omega)
  rw [← hC] at hcnt
  have hCl : C.length ≤ 2000 := by rw [hC, List.length_drop, List.length_take]; omega
  have hAl : A.length + B.length = C.length := by rw [← hABC, List.length_append]
  have hABs : i32s A ++ i32s B = i32s C := by rw [← hABC, i32s_app]
  have hcl := (List.count_le_length : C.count 10 ≤ C.length)
  have hcz := (List.count_le_length : (zs.take nk).count 10 ≤ (zs.take nk).length)
  have hzl : (zs.take nk).length ≤ 2000 := by rw [List.length_take]; omega
  refine calls_x Try.func7 rfl Try.ntmps7 rfl ?_
  refine xc_gen (fun g hg => ?_)
  have s0 := (hg 0).trans arg0
  have s1 := (hg 1).trans arg1
  have s2 := (hg 2).trans arg2
  have s3 := (hg 3).trans arg3
  clear hg
  refine xc_seq (fun K hK1 => ?_)
  refine xc_region ?_
  refine x_val (r_assign ec) (nd_of rfl) rfl ?_
  refine xw_nil ?_
  refine hK1 _ _ ?_
  refine xc_gen (fun g hg => ?_)
  have s0 := (hg 0).trans (en rfl s0)
  have s1 := (hg 1).trans (en rfl s1)
  have s2 := (hg 2).trans (en rfl s2)
  have s3 := (hg 3).trans (en rfl s3)
  have s8 := (hg 8).trans es
  clear hg
  refine xc_seq (fun K hK2 => ?_)
  refine xc_seq (fun K hK3 => ?_)
  refine xc_region ?_
  refine x_val (r_move s0) (nd_of rfl) rfl ?_
  refine x_val (r_len Try.underlying23 es) (nd_of rfl) rfl ?_
  refine x_val (r_gtr es ec (decide_eq_false (by omega))) (nd_of rfl) rfl ?_
  refine xw_nil ?_
  refine hK3 _ _ ?_
  refine xc_gen (fun g hg => ?_)
  have s0 := (hg 0).trans (en rfl (en rfl (en rfl s0)))
  have s1 := (hg 1).trans (en rfl (en rfl (en rfl s1)))
  have s2 := (hg 2).trans (en rfl (en rfl (en rfl s2)))
  have s3 := (hg 3).trans (en rfl (en rfl (en rfl s3)))
  have s8 := (hg 8).trans (en rfl (en rfl (en rfl s8)))
  have s25 := (hg 25).trans es
  clear hg
  refine xc_cond s25 (fun hc => by cases hc) (fun _ => ?_)
  refine xc_skip ?_
  refine hK2 _ _ ?_
  refine xc_seq (fun K hK4 => ?_)
  refine xc_region ?_
  refine x_enter (r_call Try.call9 .nil) (nd_of rfl) rfl (newR h) ?_
  rintro _ w ⟨b, rfl, h⟩
  refine x_val (r_assign es) (nd_of rfl) rfl ?_
  refine xw_nil ?_
  refine hK4 _ _ ?_
  refine xc_gen (fun g hg => ?_)
  have s0 := (hg 0).trans (en rfl (en rfl s0))
  have s1 := (hg 1).trans (en rfl (en rfl s1))
  have s2 := (hg 2).trans (en rfl (en rfl s2))
  have s3 := (hg 3).trans (en rfl (en rfl s3))
  have s8 := (hg 8).trans (en rfl (en rfl s8))
  have s9 := (hg 9).trans es
  have s25 := (hg 25).trans (en rfl (en rfl s25))
  clear hg
  refine xc_seq (fun K hK5 => ?_)
  refine xc_seq (fun K hK6 => ?_)
  refine xc_region ?_
  refine x_val (r_move s9) (nd_of rfl) rfl ?_
  refine x_val (r_move (en rfl s0)) (nd_of rfl) rfl ?_
  refine x_enter (r_call Try.call13 (.cons (en rfl es) (.cons ec (.cons es .nil)))) (nd_of rfl) rfl (insert_new he hv (B' := 3000) (by omega) (by omega) (by omega) h) ?_
  rintro _ w ⟨rfl, h⟩
  refine x_val (r_neq es ec (r := false) rfl) (nd_of rfl) rfl ?_
  refine x_val (r_move es) (nd_of rfl) rfl ?_
  refine x_take (d := 32) rfl rfl es ?_
  refine x_val (r_move (en rfl (en rfl (en rfl (en rfl (en rfl s1)))))) (nd_of rfl) rfl ?_
  refine x_take (d := 32) rfl rfl (en rfl es) ?_
  refine x_val (r_lss es ec (decide_eq_false (by omega))) (nd_of rfl) rfl ?_
  refine x_val (r_pick_f (en rfl (en rfl es)) es) (nd_of rfl) rfl ?_
  refine x_val (r_move es) (nd_of rfl) rfl ?_
  refine x_take (d := 36) rfl rfl es ?_
  refine x_val (r_move (en rfl (en rfl (en rfl (en rfl (en rfl (en rfl (en rfl (en rfl (en rfl s1)))))))))) (nd_of rfl) rfl ?_
  refine x_take (d := 36) rfl rfl (en rfl es) ?_
  refine x_val (r_move (en rfl (en rfl (en rfl (en rfl (en rfl (en rfl (en rfl (en rfl (en rfl (en rfl s2))))))))))) (nd_of rfl) rfl ?_
  refine x_take (d := 36) rfl rfl (en rfl (en rfl es)) ?_
  refine x_val (r_gtr (en rfl es) es (decide_eq_false (by omega))) (nd_of rfl) rfl ?_
  refine x_val (r_pick_f (en rfl (en rfl (en rfl es))) es) (nd_of rfl) rfl ?_
  refine x_val (r_move es) (nd_of rfl) rfl ?_
  refine x_take (d := 41) rfl rfl es ?_
  refine x_val (r_move (en rfl (en rfl (en rfl (en rfl (en rfl (en rfl (en rfl (en rfl (en rfl (en rfl (en rfl (en rfl (en rfl (en rfl s2))))))))))))))) (nd_of rfl) rfl ?_
  refine x_take (d := 41) rfl rfl (en rfl es) ?_
  refine x_val (r_move (en rfl (en rfl (en rfl (en rfl (en rfl (en rfl (en rfl (en rfl (en rfl (en rfl (en rfl (en rfl (en rfl (en rfl (en rfl s3)))))))))))))))) (nd_of rfl) rfl ?_
  refine x_take (d := 41) rfl rfl (en rfl (en rfl es)) ?_
  refine x_val (r_gtr (en rfl es) es (decide_eq_false (by omega))) (nd_of rfl) rfl ?_
  refine x_val (r_pick_f (en rfl (en rfl (en rfl es))) es) (nd_of rfl) rfl ?_
  refine x_val (r_move es) (nd_of rfl) rfl ?_
  refine x_take (d := 46) rfl rfl es ?_
  refine x_val (r_move (en rfl (en rfl (en rfl (en rfl (en rfl (en rfl (en rfl (en rfl (en rfl (en rfl (en rfl (en rfl (en rfl (en rfl (en rfl (en rfl (en rfl (en rfl (en rfl s3)))))))))))))))))))) (nd_of rfl) rfl ?_
  refine x_take (d := 46) rfl rfl (en rfl es) ?_
  refine x_val (r_move (en rfl (en rfl (en rfl (en rfl (en rfl (en rfl (en rfl (en rfl (en rfl (en rfl (en rfl (en rfl (en rfl (en rfl (en rfl (en rfl (en rfl (en rfl (en rfl (en rfl s0))))))))))))))))))))) (nd_of rfl) rfl ?_
  refine x_take (d := 46) rfl rfl (en rfl (en rfl es)) ?_
  refine x_val (r_len Try.underlying23 es) (nd_of rfl) rfl ?_
  refine x_take (d := 46) rfl rfl (en rfl (en rfl (en rfl es))) ?_
  refine x_val (r_gtr (en rfl (en rfl es)) es (decide_eq_false (by omega))) (nd_of rfl) rfl ?_
  refine x_val (r_pick_f (en rfl (en rfl (en rfl (en rfl es)))) es) (nd_of rfl) rfl ?_
  refine xw_nil ?_
  refine hK6 _ _ ?_
  refine xc_gen (fun g hg => ?_)
  have s0 := (hg 0).trans (en rfl (en rfl (en rfl (en rfl (en rfl (en rfl (en rfl (en rfl (en rfl (en rfl (en rfl (en rfl (en rfl (en rfl (en rfl (en rfl (en rfl (en rfl (en rfl (en rfl (en rfl (en rfl (en rfl (en rfl s0))))))))))))))))))))))))
  have s1 := (hg 1).trans (en rfl (en rfl (en rfl (en rfl (en rfl (en rfl (en rfl (en rfl (en rfl (en rfl (en rfl (en rfl (en rfl (en rfl (en rfl (en rfl (en rfl (en rfl (en rfl (en rfl (en rfl (en rfl (en rfl (en rfl s1))))))))))))))))))))))))
  have s2 := (hg 2).trans (en rfl (en rfl (en rfl (en rfl (en rfl (en rfl (en rfl (en rfl (en rfl (en rfl (en rfl (en rfl (en rfl (en rfl (en rfl (en rfl (en rfl (en rfl (en rfl (en rfl (en rfl (en rfl (en rfl (en rfl s2))))))))))))))))))))))))
  have s3 := (hg 3).trans (en rfl (en rfl (en rfl (en rfl (en rfl (en rfl (en rfl (en rfl (en rfl (en rfl (en rfl (en rfl (en rfl (en rfl (en rfl (en rfl (en rfl (en rfl (en rfl (en rfl (en rfl (en rfl (en rfl (en rfl s3))))))))))))))))))))))))
  have s8 := (hg 8).trans (en rfl (en rfl (en rfl (en rfl (en rfl (en rfl (en rfl (en rfl (en rfl (en rfl (en rfl (en rfl (en rfl (en rfl (en rfl (en rfl (en rfl (en rfl (en rfl (en rfl (en rfl (en rfl (en rfl (en rfl s8))))))))))))))))))))))))
  have s9 := (hg 9).trans (en rfl (en rfl (en rfl (en rfl (en rfl (en rfl (en rfl (en rfl (en rfl (en rfl (en rfl (en rfl (en rfl (en rfl (en rfl (en rfl (en rfl (en rfl (en rfl (en rfl (en rfl (en rfl (en rfl (en rfl s9))))))))))))))))))))))))
  have s25 := (hg 25).trans (en rfl (en rfl (en rfl (en rfl (en rfl (en rfl (en rfl (en rfl (en rfl (en rfl (en rfl (en rfl (en rfl (en rfl (en rfl (en rfl (en rfl (en rfl (en rfl (en rfl (en rfl (en rfl (en rfl (en rfl s25))))))))))))))))))))))))
  have s51 := (hg 51).trans es
  clear hg
  refine xc_cond s51 (fun hc => by cases hc) (fun _ => ?_)
  refine xc_skip ?_
  refine hK5 _ _ ?_
  refine xc_seq (fun K hK7 => ?_)
  refine xc_region ?_
  refine x_val (r_move s9) (nd_of rfl) rfl ?_
  refine x_val (r_move (en rfl s1)) (nd_of rfl) rfl ?_
  refine x_val (r_move (en rfl (en rfl s2))) (nd_of rfl) rfl ?_
  refine x_enter (r_call Try.call14 (.cons (en rfl (en rfl es)) (.cons (en rfl es) (.cons es .nil)))) (nd_of rfl) rfl (sliceR ⟨by omega, by omega, by omega⟩ (by omega) h) ?_
  rintro _ w ⟨vx, rfl, h⟩
  rw [Int.toNat_natCast, Int.toNat_natCast, ← hA] at h
  refine x_val (r_move es) (nd_of rfl) rfl ?_
  refine x_val (r_extract es gc0) (nd_of rfl) rfl ?_
  refine x_val (r_extract (en rfl es) gc1) (nd_of rfl) rfl ?_
  refine x_val (r_assign (en rfl es)) (nd_of rfl) rfl ?_
  refine x_val (r_assign (en rfl es)) (nd_of rfl) rfl ?_
  refine xw_nil ?_
  refine hK7 _ _ ?_
  refine xc_gen (fun g hg => ?_)
  have s0 := (hg 0).trans (en rfl (en rfl (en rfl (en rfl (en rfl (en rfl (en rfl (en rfl (en rfl s0)))))))))
  have s1 := (hg 1).trans (en rfl (en rfl (en rfl (en rfl (en rfl (en rfl (en rfl (en rfl (en rfl s1)))))))))
  have s2 := (hg 2).trans (en rfl (en rfl (en rfl (en rfl (en rfl (en rfl (en rfl (en rfl (en rfl s2)))))))))
  have s3 := (hg 3).trans (en rfl (en rfl (en rfl (en rfl (en rfl (en rfl (en rfl (en rfl (en rfl s3)))))))))
  have s8 := (hg 8).trans (en rfl (en rfl (en rfl (en rfl (en rfl (en rfl (en rfl (en rfl (en rfl s8)))))))))
  have s9 := (hg 9).trans (en rfl (en rfl (en rfl (en rfl (en rfl (en rfl (en rfl (en rfl (en rfl s9)))))))))
  have s10 := (hg 10).trans (en rfl es)
  have s11 := (hg 11).trans es
  have s25 := (hg 25).trans (en rfl (en rfl (en rfl (en rfl (en rfl (en rfl (en rfl (en rfl (en rfl s25)))))))))
  have s51 := (hg 51).trans (en rfl (en rfl (en rfl (en rfl (en rfl (en rfl (en rfl (en rfl (en rfl s51)))))))))
  clear hg
  refine xc_seq (fun K hK8 => ?_)
  refine xc_region ?_
  refine x_val (r_move s9) (nd_of rfl) rfl ?_
  refine x_val (r_move (en rfl s2)) (nd_of rfl) rfl ?_
  refine x_val (r_move (en rfl (en rfl s3))) (nd_of rfl) rfl ?_
  have h := h.f1
  refine x_enter (r_call Try.call14 (.cons (en rfl (en rfl es)) (.cons (en rfl es) (.cons es .nil)))) (nd_of rfl) rfl (sliceR ⟨by omega, by omega, by omega⟩ (by omega) h) ?_
  rintro _ w ⟨vy, rfl, h⟩
  rw [Int.toNat_natCast, Int.toNat_natCast, ← hB] at h
  refine x_val (r_move es) (nd_of rfl) rfl ?_
  refine x_val (r_extract es gc0) (nd_of rfl) rfl ?_
  refine x_val (r_extract (en rfl es) gc1) (nd_of rfl) rfl ?_
  refine x_val (r_assign (en rfl es)) (nd_of rfl) rfl ?_
  refine x_val (r_assign (en rfl es)) (nd_of rfl) rfl ?_
  refine xw_nil ?_
  refine hK8 _ _ ?_
  refine xc_gen (fun g hg => ?_)
  have s0 := (hg 0).trans (en rfl (en rfl (en rfl (en rfl (en rfl (en rfl (en rfl (en rfl (en rfl s0)))))))))
  have s1 := (hg 1).trans (en rfl (en rfl (en rfl (en rfl (en rfl (en rfl (en rfl (en rfl (en rfl s1)))))))))
  have s2 := (hg 2).trans (en rfl (en rfl (en rfl (en rfl (en rfl (en rfl (en rfl (en rfl (en rfl s2)))))))))
  have s3 := (hg 3).trans (en rfl (en rfl (en rfl (en rfl (en rfl (en rfl (en rfl (en rfl (en rfl s3)))))))))
  have s8 := (hg 8).trans (en rfl (en rfl (en rfl (en rfl (en rfl (en rfl (en rfl (en rfl (en rfl s8)))))))))
  have s9 := (hg 9).trans (en rfl (en rfl (en rfl (en rfl (en rfl (en rfl (en rfl (en rfl (en rfl s9)))))))))
  have s10 := (hg 10).trans (en rfl (en rfl (en rfl (en rfl (en rfl (en rfl (en rfl (en rfl (en rfl s10)))))))))
  have s11 := (hg 11).trans (en rfl (en rfl (en rfl (en rfl (en rfl (en rfl (en rfl (en rfl (en rfl s11)))))))))
  have s12 := (hg 12).trans (en rfl es)
  have s13 := (hg 13).trans es
  have s25 := (hg 25).trans (en rfl (en rfl (en rfl (en rfl (en rfl (en rfl (en rfl (en rfl (en rfl s25)))))))))
  have s51 := (hg 51).trans (en rfl (en rfl (en rfl (en rfl (en rfl (en rfl (en rfl (en rfl (en rfl s51)))))))))
  clear hg
  refine xc_seq (fun K hK9 => ?_)
  refine xc_region ?_
  refine x_val (r_move s9) (nd_of rfl) rfl ?_
  refine x_val (r_move (en rfl s1)) (nd_of rfl) rfl ?_
  refine x_val (r_move (en rfl (en rfl s3))) (nd_of rfl) rfl ?_
  have h := h.f1
  refine x_enter (r_call Try.call14 (.cons (en rfl (en rfl es)) (.cons (en rfl es) (.cons es .nil)))) (nd_of rfl) rfl (sliceR ⟨by omega, by omega, by omega⟩ (by omega) h) ?_
  rintro _ w ⟨vz, rfl, h⟩
  rw [Int.toNat_natCast, Int.toNat_natCast, ← hC] at h
  refine x_val (r_move es) (nd_of rfl) rfl ?_
  refine x_val (r_extract es gc0) (nd_of rfl) rfl ?_
  refine x_val (r_extract (en rfl es) gc1) (nd_of rfl) rfl ?_
  refine x_val (r_assign (en rfl es)) (nd_of rfl) rfl ?_
  refine x_val (r_assign (en rfl es)) (nd_of rfl) rfl ?_
  refine xw_nil ?_
  refine hK9 _ _ ?_
  refine xc_gen (fun g hg => ?_)
  have s0 := (hg 0).trans (en rfl (en rfl (en rfl (en rfl (en rfl (en rfl (en rfl (en rfl (en rfl s0)))))))))
  have s1 := (hg 1).trans (en rfl (en rfl (en rfl (en rfl (en rfl (en rfl (en rfl (en rfl (en rfl s1)))))))))
  have s2 := (hg 2).trans (en rfl (en rfl (en rfl (en rfl (en rfl (en rfl (en rfl (en rfl (en rfl s2)))))))))
  have s3 := (hg 3).trans (en rfl (en rfl (en rfl (en rfl (en rfl (en rfl (en rfl (en rfl (en rfl s3)))))))))
  have s8 := (hg 8).trans (en rfl (en rfl (en rfl (en rfl (en rfl (en rfl (en rfl (en rfl (en rfl s8)))))))))
  have s9 := (hg 9).trans (en rfl (en rfl (en rfl (en rfl (en rfl (en rfl (en rfl (en rfl (en rfl s9)))))))))
  have s10 := (hg 10).trans (en rfl (en rfl (en rfl (en rfl (en rfl (en rfl (en rfl (en rfl (en rfl s10)))))))))
  have s11 := (hg 11).trans (en rfl (en rfl (en rfl (en rfl (en rfl (en rfl (en rfl (en rfl (en rfl s11)))))))))
  have s12 := (hg 12).trans (en rfl (en rfl (en rfl (en rfl (en rfl (en rfl (en rfl (en rfl (en rfl s12)))))))))
  have s13 := (hg 13).trans (en rfl (en rfl (en rfl (en rfl (en rfl (en rfl (en rfl (en rfl (en rfl s13)))))))))
  have s14 := (hg 14).trans (en rfl es)
  have s15 := (hg 15).trans es
  have s25 := (hg 25).trans (en rfl (en rfl (en rfl (en rfl (en rfl (en rfl (en rfl (en rfl (en rfl s25)))))))))
  have s51 := (hg 51).trans (en rfl (en rfl (en rfl (en rfl (en rfl (en rfl (en rfl (en rfl (en rfl s51)))))))))
  clear hg
  refine xc_seq (fun K hK10 => ?_)
  refine xc_region ?_
  refine x_val (r_move s9) (nd_of rfl) rfl ?_
  refine x_val (r_move (en rfl s1)) (nd_of rfl) rfl ?_
  have h := h.f1
  refine x_enter (r_call Try.call19 (.cons (en rfl es) (.cons es .nil))) (nd_of rfl) rfl (lineOfR (V := (zs.take ni).count 10) ⟨by omega, by omega, by omega⟩ (by rw [Int.toNat_natCast]) h) ?_
  rintro _ w ⟨rfl, h⟩
  refine x_val (r_move es) (nd_of rfl) rfl ?_
  refine x_val (r_extract es gc0) (nd_of rfl) rfl ?_
  refine x_val (r_extract (en rfl es) gc1) (nd_of rfl) rfl ?_
  refine x_val (r_assign (en rfl es)) (nd_of rfl) rfl ?_
  refine x_val (r_assign (en rfl es)) (nd_of rfl) rfl ?_
  refine xw_nil ?_
  refine hK10 _ _ ?_
  refine xc_gen (fun g hg => ?_)
  have s0 := (hg 0).trans (en rfl (en rfl (en rfl (en rfl (en rfl (en rfl (en rfl (en rfl s0))))))))
  have s1 := (hg 1).trans (en rfl (en rfl (en rfl (en rfl (en rfl (en rfl (en rfl (en rfl s1))))))))
  have s2 := (hg 2).trans (en rfl (en rfl (en rfl (en rfl (en rfl (en rfl (en rfl (en rfl s2))))))))
  have s3 := (hg 3).trans (en rfl (en rfl (en rfl (en rfl (en rfl (en rfl (en rfl (en rfl s3))))))))
  have s8 := (hg 8).trans (en rfl (en rfl (en rfl (en rfl (en rfl (en rfl (en rfl (en rfl s8))))))))
  have s9 := (hg 9).trans (en rfl (en rfl (en rfl (en rfl (en rfl (en rfl (en rfl (en rfl s9))))))))
  have s10 := (hg 10).trans (en rfl (en rfl (en rfl (en rfl (en rfl (en rfl (en rfl (en rfl s10))))))))
  have s11 := (hg 11).trans (en rfl (en rfl (en rfl (en rfl (en rfl (en rfl (en rfl (en rfl s11))))))))
  have s12 := (hg 12).trans (en rfl (en rfl (en rfl (en rfl (en rfl (en rfl (en rfl (en rfl s12))))))))
  have s13 := (hg 13).trans (en rfl (en rfl (en rfl (en rfl (en rfl (en rfl (en rfl (en rfl s13))))))))
  have s14 := (hg 14).trans (en rfl (en rfl (en rfl (en rfl (en rfl (en rfl (en rfl (en rfl s14))))))))
  have s15 := (hg 15).trans (en rfl (en rfl (en rfl (en rfl (en rfl (en rfl (en rfl (en rfl s15))))))))
  have s16 := (hg 16).trans (en rfl es)
  have s17 := (hg 17).trans es
  have s25 := (hg 25).trans (en rfl (en rfl (en rfl (en rfl (en rfl (en rfl (en rfl (en rfl s25))))))))
  have s51 := (hg 51).trans (en rfl (en rfl (en rfl (en rfl (en rfl (en rfl (en rfl (en rfl s51))))))))
  clear hg
  refine xc_seq (fun K hK11 => ?_)
  refine xc_region ?_
  refine x_val (r_move s9) (nd_of rfl) rfl ?_
  refine x_val (r_move (en rfl s3)) (nd_of rfl) rfl ?_
  refine x_enter (r_call Try.call19 (.cons (en rfl es) (.cons es .nil))) (nd_of rfl) rfl (lineOfR (V := (zs.take nk).count 10) ⟨by omega, by omega, by omega⟩ (by rw [Int.toNat_natCast]) h) ?_
  rintro _ w ⟨rfl, h⟩
  have h := h.f3
  have h := h.f3
  have h := h.f2
  have h := h.f3
  obtain ⟨az, cz, rfl, _, _⟩ := h.rowVal
  refine x_val (r_move es) (nd_of rfl) rfl ?_
  refine x_val (r_extract es gc0) (nd_of rfl) rfl ?_
  refine x_val (r_extract (en rfl es) gc1) (nd_of rfl) rfl ?_
  refine x_val (r_assign (en rfl es)) (nd_of rfl) rfl ?_
  refine x_val (r_assign (en rfl es)) (nd_of rfl) rfl ?_
  refine xw_nil ?_
  refine hK11 _ _ ?_
  refine xc_gen (fun g hg => ?_)
  have s0 := (hg 0).trans (en rfl (en rfl (en rfl (en rfl (en rfl (en rfl (en rfl (en rfl s0))))))))
  have s1 := (hg 1).trans (en rfl (en rfl (en rfl (en rfl (en rfl (en rfl (en rfl (en rfl s1))))))))
  have s2 := (hg 2).trans (en rfl (en rfl (en rfl (en rfl (en rfl (en rfl (en rfl (en rfl s2))))))))
  have s3 := (hg 3).trans (en rfl (en rfl (en rfl (en rfl (en rfl (en rfl (en rfl (en rfl s3))))))))
  have s8 := (hg 8).trans (en rfl (en rfl (en rfl (en rfl (en rfl (en rfl (en rfl (en rfl s8))))))))
  have s9 := (hg 9).trans (en rfl (en rfl (en rfl (en rfl (en rfl (en rfl (en rfl (en rfl s9))))))))
  have s10 := (hg 10).trans (en rfl (en rfl (en rfl (en rfl (en rfl (en rfl (en rfl (en rfl s10))))))))
  have s11 := (hg 11).trans (en rfl (en rfl (en rfl (en rfl (en rfl (en rfl (en rfl (en rfl s11))))))))
  have s12 := (hg 12).trans (en rfl (en rfl (en rfl (en rfl (en rfl (en rfl (en rfl (en rfl s12))))))))
  have s13 := (hg 13).trans (en rfl (en rfl (en rfl (en rfl (en rfl (en rfl (en rfl (en rfl s13))))))))
  have s14 := (hg 14).trans (en rfl (en rfl (en rfl (en rfl (en rfl (en rfl (en rfl (en rfl s14))))))))
  have s15 := (hg 15).trans (en rfl (en rfl (en rfl (en rfl (en rfl (en rfl (en rfl (en rfl s15))))))))
  have s16 := (hg 16).trans (en rfl (en rfl (en rfl (en rfl (en rfl (en rfl (en rfl (en rfl s16))))))))
  have s17 := (hg 17).trans (en rfl (en rfl (en rfl (en rfl (en rfl (en rfl (en rfl (en rfl s17))))))))
  have s18 := (hg 18).trans (en rfl es)
  have s19 := (hg 19).trans es
  have s25 := (hg 25).trans (en rfl (en rfl (en rfl (en rfl (en rfl (en rfl (en rfl (en rfl s25))))))))
  have s51 := (hg 51).trans (en rfl (en rfl (en rfl (en rfl (en rfl (en rfl (en rfl (en rfl s51))))))))
  clear hg
  refine xc_seq (fun K hK12 => ?_)
  refine xc_region ?_
  refine x_val (r_assign ec) (nd_of rfl) rfl ?_
  refine xw_nil ?_
  refine hK12 _ _ ?_
  refine xc_gen (fun g hg => ?_)
  have s0 := (hg 0).trans (en rfl s0)
  have s1 := (hg 1).trans (en rfl s1)
  have s2 := (hg 2).trans (en rfl s2)
  have s3 := (hg 3).trans (en rfl s3)
  have s8 := (hg 8).trans (en rfl s8)
  have s9 := (hg 9).trans (en rfl s9)
  have s10 := (hg 10).trans (en rfl s10)
  have s11 := (hg 11).trans (en rfl s11)
  have s12 := (hg 12).trans (en rfl s12)
  have s13 := (hg 13).trans (en rfl s13)
  have s14 := (hg 14).trans (en rfl s14)
  have s15 := (hg 15).trans (en rfl s15)
  have s16 := (hg 16).trans (en rfl s16)
  have s17 := (hg 17).trans (en rfl s17)
  have s18 := (hg 18).trans (en rfl s18)
  have s19 := (hg 19).trans (en rfl s19)
  have s20 := (hg 20).trans es
  have s25 := (hg 25).trans (en rfl s25)
  have s51 := (hg 51).trans (en rfl s51)
  clear hg
  refine xc_seq (fun K hK13 => ?_)
  refine xc_seq (fun K hK14 => ?_)
  refine xc_region ?_
  refine x_val (r_move s14) (nd_of rfl) rfl ?_
  refine x_val (r_len Try.underlying23 es) (nd_of rfl) rfl ?_
  refine x_val (r_move ec) (nd_of rfl) rfl ?_
  refine xw_nil ?_
  refine hK14 _ _ ?_
  refine xc_gen (fun g hg => ?_)
  have s0 := (hg 0).trans (en rfl (en rfl (en rfl s0)))
  have s1 := (hg 1).trans (en rfl (en rfl (en rfl s1)))
  have s2 := (hg 2).trans (en rfl (en rfl (en rfl s2)))
  have s3 := (hg 3).trans (en rfl (en rfl (en rfl s3)))
  have s8 := (hg 8).trans (en rfl (en rfl (en rfl s8)))
  have s9 := (hg 9).trans (en rfl (en rfl (en rfl s9)))
  have s10 := (hg 10).trans (en rfl (en rfl (en rfl s10)))
  have s11 := (hg 11).trans (en rfl (en rfl (en rfl s11)))
  have s12 := (hg 12).trans (en rfl (en rfl (en rfl s12)))
  have s13 := (hg 13).trans (en rfl (en rfl (en rfl s13)))
  have s14 := (hg 14).trans (en rfl (en rfl (en rfl s14)))
  have s15 := (hg 15).trans (en rfl (en rfl (en rfl s15)))
  have s16 := (hg 16).trans (en rfl (en rfl (en rfl s16)))
  have s17 := (hg 17).trans (en rfl (en rfl (en rfl s17)))
  have s18 := (hg 18).trans (en rfl (en rfl (en rfl s18)))
  have s19 := (hg 19).trans (en rfl (en rfl (en rfl s19)))
  have s20 := (hg 20).trans (en rfl (en rfl (en rfl s20)))
  have s25 := (hg 25).trans (en rfl (en rfl (en rfl s25)))
  have s51 := (hg 51).trans (en rfl (en rfl (en rfl s51)))
  have s86 := (hg 86).trans (en rfl (en rfl es))
  have s87 := (hg 87).trans (en rfl es)
  have s88 := (hg 88).trans es
  clear hg
  refine xc_block ?_
  obtain ⟨G15, hG15⟩ : ∃ g0 : Nat → Value, g0 = g := ⟨_, rfl⟩
  have zG15_0 : G15 0 = _ := (congrFun hG15 0).trans s0
  have zG15_1 : G15 1 = _ := (congrFun hG15 1).trans s1
  have zG15_2 : G15 2 = _ := (congrFun hG15 2).trans s2
  have zG15_3 : G15 3 = _ := (congrFun hG15 3).trans s3
  have zG15_8 : G15 8 = _ := (congrFun hG15 8).trans s8
  have zG15_9 : G15 9 = _ := (congrFun hG15 9).trans s9
  have zG15_10 : G15 10 = _ := (congrFun hG15 10).trans s10
  have zG15_11 : G15 11 = _ := (congrFun hG15 11).trans s11
  have zG15_12 : G15 12 = _ := (congrFun hG15 12).trans s12
  have zG15_13 : G15 13 = _ := (congrFun hG15 13).trans s13
  have zG15_14 : G15 14 = _ := (congrFun hG15 14).trans s14
  have zG15_15 : G15 15 = _ := (congrFun hG15 15).trans s15
  have zG15_16 : G15 16 = _ := (congrFun hG15 16).trans s16
  have zG15_17 : G15 17 = _ := (congrFun hG15 17).trans s17
  have zG15_18 : G15 18 = _ := (congrFun hG15 18).trans s18
  have zG15_19 : G15 19 = _ := (congrFun hG15 19).trans s19
  have zG15_25 : G15 25 = _ := (congrFun hG15 25).trans s25
  have zG15_51 : G15 51 = _ := (congrFun hG15 51).trans s51
  have zG15_86 : G15 86 = _ := (congrFun hG15 86).trans s86
  have zG15_87 : G15 87 = _ := (congrFun hG15 87).trans s87
  refine xc_loop (fun m f w => (∃ n : Nat, m = C.length - n ∧ n ≤ C.length ∧ f 88 = .int .i64 (n : Int) ∧ f 20 = .int .i64 ((C.take n).count 10 : Int) ∧ SatL E w (RunesR (.slice az C.length cz) C :: Rp b zs 3000 :: RunesR vy B :: RunesR vx A :: R)) ∧ (f 0 = G15 0 ∧ f 1 = G15 1 ∧ f 2 = G15 2 ∧ f 3 = G15 3 ∧ f 8 = G15 8 ∧ f 9 = G15 9 ∧ f 10 = G15 10 ∧ f 11 = G15 11 ∧ f 12 = G15 12 ∧ f 13 = G15 13 ∧ f 14 = G15 14 ∧ f 15 = G15 15 ∧ f 16 = G15 16 ∧ f 17 = G15 17 ∧ f 18 = G15 18 ∧ f 19 = G15 19 ∧ f 25 = G15 25 ∧ f 51 = G15 51 ∧ f 86 = G15 86 ∧ f 87 = G15 87)) (C.length) ⟨⟨0, by omega, by omega, s88, s20, h⟩, ⟨congrFun hG15.symm 0, congrFun hG15.symm 1, congrFun hG15.symm 2, congrFun hG15.symm 3, congrFun hG15.symm 8, congrFun hG15.symm 9, congrFun hG15.symm 10, congrFun hG15.symm 11, congrFun hG15.symm 12, congrFun hG15.symm 13, congrFun hG15.symm 14, congrFun hG15.symm 15, congrFun hG15.symm 16, congrFun hG15.symm 17, congrFun hG15.symm 18, congrFun hG15.symm 19, congrFun hG15.symm 25, congrFun hG15.symm 51, congrFun hG15.symm 86, congrFun hG15.symm 87⟩⟩ ?_
  rintro m g w ⟨⟨n, hm, hn, s88, s20, h⟩, ⟨y0, y1, y2, y3, y8, y9, y10, y11, y12, y13, y14, y15, y16, y17, y18, y19, y25, y51, y86, y87⟩⟩
  have s0 := y0.trans zG15_0
  have s1 := y1.trans zG15_1
  have s2 := y2.trans zG15_2
  have s3 := y3.trans zG15_3
  have s8 := y8.trans zG15_8
  have s9 := y9.trans zG15_9
  have s10 := y10.trans zG15_10
  have s11 := y11.trans zG15_11
  have s12 := y12.trans zG15_12
  have s13 := y13.trans zG15_13
  have s14 := y14.trans zG15_14
  have s15 := y15.trans zG15_15
  have s16 := y16.trans zG15_16
  have s17 := y17.trans zG15_17
  have s18 := y18.trans zG15_18
  have s19 := y19.trans zG15_19
  have s25 := y25.trans zG15_25
  have s51 := y51.trans zG15_51
  have s86 := y86.trans zG15_86
  have s87 := y87.trans zG15_87
  refine xc_seq (fun K hK16 => ?_)
  refine xc_region ?_
  refine x_val (r_lss s88 s87 rfl) (nd_of rfl) rfl ?_
  refine xw_nil ?_
  refine hK16 _ _ ?_
  refine xc_gen (fun g hg => ?_)
  have s0 := (hg 0).trans (en rfl s0)
  have s1 := (hg 1).trans (en rfl s1)
  have s2 := (hg 2).trans (en rfl s2)
  have s3 := (hg 3).trans (en rfl s3)
  have s8 := (hg 8).trans (en rfl s8)
  have s9 := (hg 9).trans (en rfl s9)
  have s10 := (hg 10).trans (en rfl s10)
  have s11 := (hg 11).trans (en rfl s11)
  have s12 := (hg 12).trans (en rfl s12)
  have s13 := (hg 13).trans (en rfl s13)
  have s14 := (hg 14).trans (en rfl s14)
  have s15 := (hg 15).trans (en rfl s15)
  have s16 := (hg 16).trans (en rfl s16)
  have s17 := (hg 17).trans (en rfl s17)
  have s18 := (hg 18).trans (en rfl s18)
  have s19 := (hg 19).trans (en rfl s19)
  have s20 := (hg 20).trans (en rfl s20)
  have s25 := (hg 25).trans (en rfl s25)
  have s51 := (hg 51).trans (en rfl s51)
  have s86 := (hg 86).trans (en rfl s86)
  have s87 := (hg 87).trans (en rfl s87)
  have s88 := (hg 88).trans (en rfl s88)
  have s89 := (hg 89).trans es
  clear hg
  refine xc_seq (fun K hK17 => ?_)
  refine xc_cond s89 (fun hc => ?_) (fun hc => ?_)
  ·
    refine xc_skip ?_
    refine hK17 _ _ ?_
    refine xc_seq (fun K hK18 => ?_)
    refine xc_block ?_
    refine xc_seq (fun K hK19 => ?_)
    have hlt : n < C.length := by have := of_decide_eq_true hc; omega
    obtain ⟨r, hr⟩ : ∃ r, C[n]? = some r := ⟨_, List.getElem?_eq_getElem hlt⟩
    have hst := count_step hr
    have hcn := ((List.take_sublist (n + 1) C).count_le 10)
    obtain ⟨a', rfl, _⟩ := Reads.get rowReads h hr
    refine xc_region ?_
    refine x_val (r_index1 Try.underlying23 Try.sizeOf21 s86 s88 hlt) (nd_of rfl) rfl ?_
    refine x_val (r_loadCell Try.isAgg21 es (by obtain ⟨b1, e1, c1⟩ := Reads.get rowReads h hr; cases e1; exact c1)) (nd_of rfl) rfl ?_
    refine x_val (r_assign es) (nd_of rfl) rfl ?_
    refine xw_nil ?_
    refine hK19 _ _ ?_
    refine xc_gen (fun g hg => ?_)
    have s0 := (hg 0).trans (en rfl (en rfl (en rfl s0)))
    have s1 := (hg 1).trans (en rfl (en rfl (en rfl s1)))
    have s2 := (hg 2).trans (en rfl (en rfl (en rfl s2)))
    have s3 := (hg 3).trans (en rfl (en rfl (en rfl s3)))
    have s8 := (hg 8).trans (en rfl (en rfl (en rfl s8)))
    have s9 := (hg 9).trans (en rfl (en rfl (en rfl s9)))
    have s10 := (hg 10).trans (en rfl (en rfl (en rfl s10)))
    have s11 := (hg 11).trans (en rfl (en rfl (en rfl s11)))
    have s12 := (hg 12).trans (en rfl (en rfl (en rfl s12)))
    have s13 := (hg 13).trans (en rfl (en rfl (en rfl s13)))
    have s14 := (hg 14).trans (en rfl (en rfl (en rfl s14)))
    have s15 := (hg 15).trans (en rfl (en rfl (en rfl s15)))
    have s16 := (hg 16).trans (en rfl (en rfl (en rfl s16)))
    have s17 := (hg 17).trans (en rfl (en rfl (en rfl s17)))
    have s18 := (hg 18).trans (en rfl (en rfl (en rfl s18)))
    have s19 := (hg 19).trans (en rfl (en rfl (en rfl s19)))
    have s20 := (hg 20).trans (en rfl (en rfl (en rfl s20)))
    have s22 := (hg 22).trans es
    have s25 := (hg 25).trans (en rfl (en rfl (en rfl s25)))
    have s51 := (hg 51).trans (en rfl (en rfl (en rfl s51)))
    have s86 := (hg 86).trans (en rfl (en rfl (en rfl s86)))
    have s87 := (hg 87).trans (en rfl (en rfl (en rfl s87)))
    have s88 := (hg 88).trans (en rfl (en rfl (en rfl s88)))
    have s89 := (hg 89).trans (en rfl (en rfl (en rfl s89)))
    clear hg
    refine xc_seq (fun K hK20 => ?_)
    refine xc_region ?_
    refine x_val (r_move s22) (nd_of rfl) rfl ?_
    refine x_val (r_eql es ec rfl) (nd_of rfl) rfl ?_
    refine xw_nil ?_
    refine hK20 _ _ ?_
    refine xc_gen (fun g hg => ?_)
    have s0 := (hg 0).trans (en rfl (en rfl s0))
    have s1 := (hg 1).trans (en rfl (en rfl s1))
    have s2 := (hg 2).trans (en rfl (en rfl s2))
    have s3 := (hg 3).trans (en rfl (en rfl s3))
    have s8 := (hg 8).trans (en rfl (en rfl s8))
    have s9 := (hg 9).trans (en rfl (en rfl s9))
    have s10 := (hg 10).trans (en rfl (en rfl s10))
    have s11 := (hg 11).trans (en rfl (en rfl s11))
    have s12 := (hg 12).trans (en rfl (en rfl s12))
    have s13 := (hg 13).trans (en rfl (en rfl s13))
    have s14 := (hg 14).trans (en rfl (en rfl s14))
    have s15 := (hg 15).trans (en rfl (en rfl s15))
    have s16 := (hg 16).trans (en rfl (en rfl s16))
    have s17 := (hg 17).trans (en rfl (en rfl s17))
    have s18 := (hg 18).trans (en rfl (en rfl s18))
    have s19 := (hg 19).trans (en rfl (en rfl s19))
    have s20 := (hg 20).trans (en rfl (en rfl s20))
    have s22 := (hg 22).trans (en rfl (en rfl s22))
    have s25 := (hg 25).trans (en rfl (en rfl s25))
    have s51 := (hg 51).trans (en rfl (en rfl s51))
    have s86 := (hg 86).trans (en rfl (en rfl s86))
    have s87 := (hg 87).trans (en rfl (en rfl s87))
    have s88 := (hg 88).trans (en rfl (en rfl s88))
    have s89 := (hg 89).trans (en rfl (en rfl s89))
    have s93 := (hg 93).trans es
    clear hg
    refine xc_cond s93 (fun hc => ?_) (fun hc => ?_)
    ·
      have h10 : r = 10 := of_decide_eq_true hc
      rw [if_pos h10] at hst
      refine xc_region ?_
      refine x_val (r_move s20) (nd_of rfl) rfl ?_
      refine x_val (r_add es ec (show _ = (((C.take (n + 1)).count 10 : Int) : Int) from by omega) (by unfold I64; omega)) (nd_of rfl) rfl ?_
      refine x_val (r_assign es) (nd_of rfl) rfl ?_
      refine xw_nil ?_
      refine hK18 _ _ ?_
      refine xc_gen (fun g hg => ?_)
      have s0 := (hg 0).trans (en rfl (en rfl (en rfl s0)))
      have s1 := (hg 1).trans (en rfl (en rfl (en rfl s1)))
      have s2 := (hg 2).trans (en rfl (en rfl (en rfl s2)))
      have s3 := (hg 3).trans (en rfl (en rfl (en rfl s3)))
      have s8 := (hg 8).trans (en rfl (en rfl (en rfl s8)))
      have s9 := (hg 9).trans (en rfl (en rfl (en rfl s9)))
      have s10 := (hg 10).trans (en rfl (en rfl (en rfl s10)))
      have s11 := (hg 11).trans (en rfl (en rfl (en rfl s11)))
      have s12 := (hg 12).trans (en rfl (en rfl (en rfl s12)))
      have s13 := (hg 13).trans (en rfl (en rfl (en rfl s13)))
      have s14 := (hg 14).trans (en rfl (en rfl (en rfl s14)))
      have s15 := (hg 15).trans (en rfl (en rfl (en rfl s15)))
      have s16 := (hg 16).trans (en rfl (en rfl (en rfl s16)))
      have s17 := (hg 17).trans (en rfl (en rfl (en rfl s17)))
      have s18 := (hg 18).trans (en rfl (en rfl (en rfl s18)))
      have s19 := (hg 19).trans (en rfl (en rfl (en rfl s19)))
      have s20 := (hg 20).trans es
      have s22 := (hg 22).trans (en rfl (en rfl (en rfl s22)))
      have s25 := (hg 25).trans (en rfl (en rfl (en rfl s25)))
      have s51 := (hg 51).trans (en rfl (en rfl (en rfl s51)))
      have s86 := (hg 86).trans (en rfl (en rfl (en rfl s86)))
      have s87 := (hg 87).trans (en rfl (en rfl (en rfl s87)))
      have s88 := (hg 88).trans (en rfl (en rfl (en rfl s88)))
      have s89 := (hg 89).trans (en rfl (en rfl (en rfl s89)))
      have s93 := (hg 93).trans (en rfl (en rfl (en rfl s93)))
      clear hg
      refine xc_region ?_
      refine x_val (r_add s88 ec (show _ = (((n + 1 : Nat) : Int) : Int) from by omega) (by unfold I64; omega)) (nd_of rfl) rfl ?_
      refine x_val (r_move es) (nd_of rfl) rfl ?_
      refine xw_nil ?_
      exact ⟨C.length - (n + 1), by omega, ⟨n + 1, rfl, by omega, es, (en rfl (en rfl s20)), h⟩, ⟨((en rfl (en rfl s0))).trans zG15_0.symm, ((en rfl (en rfl s1))).trans zG15_1.symm, ((en rfl (en rfl s2))).trans zG15_2.symm, ((en rfl (en rfl s3))).trans zG15_3.symm, ((en rfl (en rfl s8))).trans zG15_8.symm, ((en rfl (en rfl s9))).trans zG15_9.symm, ((en rfl (en rfl s10))).trans zG15_10.symm, ((en rfl (en rfl s11))).trans zG15_11.symm, ((en rfl (en rfl s12))).trans zG15_12.symm, ((en rfl (en rfl s13))).trans zG15_13.symm, ((en rfl (en rfl s14))).trans zG15_14.symm, ((en rfl (en rfl s15))).trans zG15_15.symm, ((en rfl (en rfl s16))).trans zG15_16.symm, ((en rfl (en rfl s17))).trans zG15_17.symm, ((en rfl (en rfl s18))).trans zG15_18.symm, ((en rfl (en rfl s19))).trans zG15_19.symm, ((en rfl (en rfl s25))).trans zG15_25.symm, ((en rfl (en rfl s51))).trans zG15_51.symm, ((en rfl (en rfl s86))).trans zG15_86.symm, ((en rfl (en rfl s87))).trans zG15_87.symm⟩⟩
    ·
      refine xc_skip ?_
      refine hK18 _ _ ?_
      have h10 : ¬ r = 10 := of_decide_eq_false hc
      have hst : (C.take (n + 1)).count 10 = (C.take n).count 10 := by rw [hst, if_neg h10]; rfl
      rw [← hst] at s20
      refine xc_region ?_
      refine x_val (r_add s88 ec (show _ = (((n + 1 : Nat) : Int) : Int) from by omega) (by unfold I64; omega)) (nd_of rfl) rfl ?_
      refine x_val (r_move es) (nd_of rfl) rfl ?_
      refine xw_nil ?_
      exact ⟨C.length - (n + 1), by omega, ⟨n + 1, rfl, by omega, es, (en rfl (en rfl s20)), h⟩, ⟨((en rfl (en rfl s0))).trans zG15_0.symm, ((en rfl (en rfl s1))).trans zG15_1.symm, ((en rfl (en rfl s2))).trans zG15_2.symm, ((en rfl (en rfl s3))).trans zG15_3.symm, ((en rfl (en rfl s8))).trans zG15_8.symm, ((en rfl (en rfl s9))).trans zG15_9.symm, ((en rfl (en rfl s10))).trans zG15_10.symm, ((en rfl (en rfl s11))).trans zG15_11.symm, ((en rfl (en rfl s12))).trans zG15_12.symm, ((en rfl (en rfl s13))).trans zG15_13.symm, ((en rfl (en rfl s14))).trans zG15_14.symm, ((en rfl (en rfl s15))).trans zG15_15.symm, ((en rfl (en rfl s16))).trans zG15_16.symm, ((en rfl (en rfl s17))).trans zG15_17.symm, ((en rfl (en rfl s18))).trans zG15_18.symm, ((en rfl (en rfl s19))).trans zG15_19.symm, ((en rfl (en rfl s25))).trans zG15_25.symm, ((en rfl (en rfl s51))).trans zG15_51.symm, ((en rfl (en rfl s86))).trans zG15_86.symm, ((en rfl (en rfl s87))).trans zG15_87.symm⟩⟩
  ·
    refine xc_exit ?_
    refine hK13 _ _ ?_
    refine xc_seq (fun K hK21 => ?_)
    obtain rfl : n = C.length := by have := of_decide_eq_false hc; omega
    rw [List.take_length] at s20
    refine xc_region ?_
    refine x_val (r_move s11) (nd_of rfl) rfl ?_
    refine x_val (r_eql es ec (r := true) rfl) (nd_of rfl) rfl ?_
    refine x_val (r_move es) (nd_of rfl) rfl ?_
    refine x_take (d := 99) rfl rfl es ?_
    refine x_val (r_move (en rfl (en rfl (en rfl s13)))) (nd_of rfl) rfl ?_
    refine x_take (d := 99) rfl rfl (en rfl es) ?_
    refine x_val (r_eql es ec (r := true) rfl) (nd_of rfl) rfl ?_
    refine x_val (r_pick_t (en rfl (en rfl es)) es) (nd_of rfl) rfl ?_
    refine x_val (r_move es) (nd_of rfl) rfl ?_
    refine x_take (d := 103) rfl rfl es ?_
    refine x_val (r_move (en rfl (en rfl (en rfl (en rfl (en rfl (en rfl (en rfl s15)))))))) (nd_of rfl) rfl ?_
    refine x_take (d := 103) rfl rfl (en rfl es) ?_
    refine x_val (r_eql es ec (r := true) rfl) (nd_of rfl) rfl ?_
    refine x_val (r_pick_t (en rfl (en rfl es)) es) (nd_of rfl) rfl ?_
    refine x_val (r_move es) (nd_of rfl) rfl ?_
    refine x_take (d := 107) rfl rfl es ?_
    refine x_val (r_move (en rfl (en rfl (en rfl (en rfl (en rfl (en rfl (en rfl (en rfl (en rfl (en rfl (en rfl s17)))))))))))) (nd_of rfl) rfl ?_
    refine x_take (d := 107) rfl rfl (en rfl es) ?_
    refine x_val (r_eql es ec (r := true) rfl) (nd_of rfl) rfl ?_
    refine x_val (r_pick_t (en rfl (en rfl es)) es) (nd_of rfl) rfl ?_
    refine x_val (r_move es) (nd_of rfl) rfl ?_
    refine x_take (d := 111) rfl rfl es ?_
    refine x_val (r_move (en rfl (en rfl (en rfl (en rfl (en rfl (en rfl (en rfl (en rfl (en rfl (en rfl (en rfl (en rfl (en rfl (en rfl (en rfl s19)))))))))))))))) (nd_of rfl) rfl ?_
    refine x_take (d := 111) rfl rfl (en rfl es) ?_
    refine x_val (r_eql es ec (r := true) rfl) (nd_of rfl) rfl ?_
    refine x_val (r_pick_t (en rfl (en rfl es)) es) (nd_of rfl) rfl ?_
    refine x_val (r_move es) (nd_of rfl) rfl ?_
    refine x_take (d := 115) rfl rfl es ?_
    refine x_bslice0 h Try.underlying23 Try.sizeOf21 rfl ?_; intro bn w h
    have h := h.f4
    have h := h.f1
    refine x_take (d := 115) rfl rfl (en rfl es) ?_
    refine x_val (r_move (en rfl (en rfl (en rfl (en rfl (en rfl (en rfl (en rfl (en rfl (en rfl (en rfl (en rfl (en rfl (en rfl (en rfl (en rfl (en rfl (en rfl (en rfl (en rfl (en rfl s10))))))))))))))))))))) (nd_of rfl) rfl ?_
    refine x_take (d := 115) rfl rfl (en rfl (en rfl es)) ?_
    refine x_append_rows (bytes := 4) h Try.underlying23 (by kernel_rfl) (en rfl es) es i32s_one (by omega) (by omega) rfl ?_; intro u2 w h
    have h := h.f4
    have h := h.f1
    refine x_take (d := 115) rfl rfl (en rfl (en rfl (en rfl es))) ?_
    refine x_val (r_move (en rfl (en rfl (en rfl (en rfl (en rfl (en rfl (en rfl (en rfl (en rfl (en rfl (en rfl (en rfl (en rfl (en rfl (en rfl (en rfl (en rfl (en rfl (en rfl (en rfl (en rfl (en rfl s12))))))))))))))))))))))) (nd_of rfl) rfl ?_
    refine x_take (d := 115) rfl rfl (en rfl (en rfl (en rfl (en rfl es)))) ?_
    refine x_append_rows (bytes := 4) h Try.underlying23 (by kernel_rfl) (en rfl es) es i32s_one (by omega) (by omega) rfl ?_; intro u3 w h
    have h : SatL E w (RunesR u3 C :: RunesR vy B :: RunesR vx A :: RunesR (.slice az C.length cz) C :: Rp b zs 3000 :: R) := by have h2 := h; rw [List.nil_append, Nat.zero_add, hAl, hABs] at h2; exact h2
    refine x_take (d := 115) rfl rfl (en rfl (en rfl (en rfl (en rfl (en rfl es))))) ?_
    refine x_val (r_move (en rfl (en rfl (en rfl (en rfl (en rfl (en rfl (en rfl (en rfl (en rfl (en rfl (en rfl (en rfl (en rfl (en rfl (en rfl (en rfl (en rfl (en rfl (en rfl (en rfl (en rfl (en rfl (en rfl (en rfl s14))))))))))))))))))))))))) (nd_of rfl) rfl ?_
    refine x_take (d := 115) rfl rfl (en rfl (en rfl (en rfl (en rfl (en rfl (en rfl es)))))) ?_
    refine x_enter (r_call Try.call15 (.cons (en rfl es) (.cons es .nil))) (nd_of rfl) rfl (same_yes (zs := C) rowReads (fun w h => rowReads w (h.f3)) (by omega) h) ?_
    rintro _ w ⟨rfl, h⟩
    refine x_val (r_pick_t (en rfl (en rfl (en rfl (en rfl (en rfl (en rfl (en rfl es))))))) es) (nd_of rfl) rfl ?_
    refine x_val (r_move es) (nd_of rfl) rfl ?_
    refine x_take (d := 124) rfl rfl es ?_
    refine x_val (r_move (en rfl (en rfl (en rfl (en rfl (en rfl (en rfl (en rfl (en rfl (en rfl (en rfl (en rfl (en rfl (en rfl (en rfl (en rfl (en rfl (en rfl (en rfl (en rfl (en rfl (en rfl (en rfl (en rfl (en rfl (en rfl (en rfl (en rfl (en rfl s20))))))))))))))))))))))))))))) (nd_of rfl) rfl ?_
    refine x_take (d := 124) rfl rfl (en rfl es) ?_
    refine x_val (r_move (en rfl (en rfl (en rfl (en rfl (en rfl (en rfl (en rfl (en rfl (en rfl (en rfl (en rfl (en rfl (en rfl (en rfl (en rfl (en rfl (en rfl (en rfl (en rfl (en rfl (en rfl (en rfl (en rfl (en rfl (en rfl (en rfl (en rfl (en rfl (en rfl s18)))))))))))))))))))))))))))))) (nd_of rfl) rfl ?_
    refine x_take (d := 124) rfl rfl (en rfl (en rfl es)) ?_
    refine x_val (r_move (en rfl (en rfl (en rfl (en rfl (en rfl (en rfl (en rfl (en rfl (en rfl (en rfl (en rfl (en rfl (en rfl (en rfl (en rfl (en rfl (en rfl (en rfl (en rfl (en rfl (en rfl (en rfl (en rfl (en rfl (en rfl (en rfl (en rfl (en rfl (en rfl (en rfl s16))))))))))))))))))))))))))))))) (nd_of rfl) rfl ?_
    refine x_take (d := 124) rfl rfl (en rfl (en rfl (en rfl es))) ?_
    refine x_val (r_sub (en rfl es) es (show _ = (((C.count 10 : Nat) : Int) : Int) from by omega) (by unfold I64; omega)) (nd_of rfl) rfl ?_
    refine x_take (d := 124) rfl rfl (en rfl (en rfl (en rfl (en rfl es)))) ?_
    refine x_val (r_eql (en rfl (en rfl (en rfl es))) es (decide_eq_true (by rfl))) (nd_of rfl) rfl ?_
    refine x_val (r_pick_t (en rfl (en rfl (en rfl (en rfl (en rfl es))))) es) (nd_of rfl) rfl ?_
    refine x_val (r_move es) (nd_of rfl) rfl ?_
    refine x_take (d := 131) rfl rfl es ?_
    refine x_enter (r_call Try.call10 .nil) (nd_of rfl) rfl (known_ok h) ?_
    rintro _ w ⟨rfl, h⟩
    refine x_val (r_pick_t (en rfl es) es) (nd_of rfl) rfl ?_
    refine x_val (r_assign es) (nd_of rfl) rfl ?_
    refine xw_nil ?_
    refine hK21 _ _ ?_
    refine xc_gen (fun g hg => ?_)
    have s0 := (hg 0).trans (en rfl (en rfl (en rfl (en rfl (en rfl (en rfl (en rfl (en rfl (en rfl (en rfl (en rfl (en rfl (en rfl (en rfl (en rfl (en rfl (en rfl (en rfl (en rfl (en rfl (en rfl (en rfl (en rfl (en rfl (en rfl (en rfl (en rfl (en rfl (en rfl (en rfl (en rfl (en rfl (en rfl (en rfl (en rfl (en rfl (en rfl (en rfl s0))))))))))))))))))))))))))))))))))))))
    have s1 := (hg 1).trans (en rfl (en rfl (en rfl (en rfl (en rfl (en rfl (en rfl (en rfl (en rfl (en rfl (en rfl (en rfl (en rfl (en rfl (en rfl (en rfl (en rfl (en rfl (en rfl (en rfl (en rfl (en rfl (en rfl (en rfl (en rfl (en rfl (en rfl (en rfl (en rfl (en rfl (en rfl (en rfl (en rfl (en rfl (en rfl (en rfl (en rfl (en rfl s1))))))))))))))))))))))))))))))))))))))
    have s2 := (hg 2).trans (en rfl (en rfl (en rfl (en rfl (en rfl (en rfl (en rfl (en rfl (en rfl (en rfl (en rfl (en rfl (en rfl (en rfl (en rfl (en rfl (en rfl (en rfl (en rfl (en rfl (en rfl (en rfl (en rfl (en rfl (en rfl (en rfl (en rfl (en rfl (en rfl (en rfl (en rfl (en rfl (en rfl (en rfl (en rfl (en rfl (en rfl (en rfl s2))))))))))))))))))))))))))))))))))))))
    have s3 := (hg 3).trans (en rfl (en rfl (en rfl (en rfl (en rfl (en rfl (en rfl (en rfl (en rfl (en rfl (en rfl (en rfl (en rfl (en rfl (en rfl (en rfl (en rfl (en rfl (en rfl (en rfl (en rfl (en rfl (en rfl (en rfl (en rfl (en rfl (en rfl (en rfl (en rfl (en rfl (en rfl (en rfl (en rfl (en rfl (en rfl (en rfl (en rfl (en rfl s3))))))))))))))))))))))))))))))))))))))
    have s8 := (hg 8).trans es
    have s9 := (hg 9).trans (en rfl (en rfl (en rfl (en rfl (en rfl (en rfl (en rfl (en rfl (en rfl (en rfl (en rfl (en rfl (en rfl (en rfl (en rfl (en rfl (en rfl (en rfl (en rfl (en rfl (en rfl (en rfl (en rfl (en rfl (en rfl (en rfl (en rfl (en rfl (en rfl (en rfl (en rfl (en rfl (en rfl (en rfl (en rfl (en rfl (en rfl (en rfl s9))))))))))))))))))))))))))))))))))))))
    have s10 := (hg 10).trans (en rfl (en rfl (en rfl (en rfl (en rfl (en rfl (en rfl (en rfl (en rfl (en rfl (en rfl (en rfl (en rfl (en rfl (en rfl (en rfl (en rfl (en rfl (en rfl (en rfl (en rfl (en rfl (en rfl (en rfl (en rfl (en rfl (en rfl (en rfl (en rfl (en rfl (en rfl (en rfl (en rfl (en rfl (en rfl (en rfl (en rfl (en rfl s10))))))))))))))))))))))))))))))))))))))
    have s11 := (hg 11).trans (en rfl (en rfl (en rfl (en rfl (en rfl (en rfl (en rfl (en rfl (en rfl (en rfl (en rfl (en rfl (en rfl (en rfl (en rfl (en rfl (en rfl (en rfl (en rfl (en rfl (en rfl (en rfl (en rfl (en rfl (en rfl (en rfl (en rfl (en rfl (en rfl (en rfl (en rfl (en rfl (en rfl (en rfl (en rfl (en rfl (en rfl (en rfl s11))))))))))))))))))))))))))))))))))))))
    have s12 := (hg 12).trans (en rfl (en rfl (en rfl (en rfl (en rfl (en rfl (en rfl (en rfl (en rfl (en rfl (en rfl (en rfl (en rfl (en rfl (en rfl (en rfl (en rfl (en rfl (en rfl (en rfl (en rfl (en rfl (en rfl (en rfl (en rfl (en rfl (en rfl (en rfl (en rfl (en rfl (en rfl (en rfl (en rfl (en rfl (en rfl (en rfl (en rfl (en rfl s12))))))))))))))))))))))))))))))))))))))
    have s13 := (hg 13).trans (en rfl (en rfl (en rfl (en rfl (en rfl (en rfl (en rfl (en rfl (en rfl (en rfl (en rfl (en rfl (en rfl (en rfl (en rfl (en rfl (en rfl (en rfl (en rfl (en rfl (en rfl (en rfl (en rfl (en rfl (en rfl (en rfl (en rfl (en rfl (en rfl (en rfl (en rfl (en rfl (en rfl (en rfl (en rfl (en rfl (en rfl (en rfl s13))))))))))))))))))))))))))))))))))))))
    have s14 := (hg 14).trans (en rfl (en rfl (en rfl (en rfl (en rfl (en rfl (en rfl (en rfl (en rfl (en rfl (en rfl (en rfl (en rfl (en rfl (en rfl (en rfl (en rfl (en rfl (en rfl (en rfl (en rfl (en rfl (en rfl (en rfl (en rfl (en rfl (en rfl (en rfl (en rfl (en rfl (en rfl (en rfl (en rfl (en rfl (en rfl (en rfl (en rfl (en rfl s14))))))))))))))))))))))))))))))))))))))
    have s15 := (hg 15).trans (en rfl (en rfl (en rfl (en rfl (en rfl (en rfl (en rfl (en rfl (en rfl (en rfl (en rfl (en rfl (en rfl (en rfl (en rfl (en rfl (en rfl (en rfl (en rfl (en rfl (en rfl (en rfl (en rfl (en rfl (en rfl (en rfl (en rfl (en rfl (en rfl (en rfl (en rfl (en rfl (en rfl (en rfl (en rfl (en rfl (en rfl (en rfl s15))))))))))))))))))))))))))))))))))))))
    have s16 := (hg 16).trans (en rfl (en rfl (en rfl (en rfl (en rfl (en rfl (en rfl (en rfl (en rfl (en rfl (en rfl (en rfl (en rfl (en rfl (en rfl (en rfl (en rfl (en rfl (en rfl (en rfl (en rfl (en rfl (en rfl (en rfl (en rfl (en rfl (en rfl (en rfl (en rfl (en rfl (en rfl (en rfl (en rfl (en rfl (en rfl (en rfl (en rfl (en rfl s16))))))))))))))))))))))))))))))))))))))
    have s17 := (hg 17).trans (en rfl (en rfl (en rfl (en rfl (en rfl (en rfl (en rfl (en rfl (en rfl (en rfl (en rfl (en rfl (en rfl (en rfl (en rfl (en rfl (en rfl (en rfl (en rfl (en rfl (en rfl (en rfl (en rfl (en rfl (en rfl (en rfl (en rfl (en rfl (en rfl (en rfl (en rfl (en rfl (en rfl (en rfl (en rfl (en rfl (en rfl (en rfl s17))))))))))))))))))))))))))))))))))))))
    have s18 := (hg 18).trans (en rfl (en rfl (en rfl (en rfl (en rfl (en rfl (en rfl (en rfl (en rfl (en rfl (en rfl (en rfl (en rfl (en rfl (en rfl (en rfl (en rfl (en rfl (en rfl (en rfl (en rfl (en rfl (en rfl (en rfl (en rfl (en rfl (en rfl (en rfl (en rfl (en rfl (en rfl (en rfl (en rfl (en rfl (en rfl (en rfl (en rfl (en rfl s18))))))))))))))))))))))))))))))))))))))
    have s19 := (hg 19).trans (en rfl (en rfl (en rfl (en rfl (en rfl (en rfl (en rfl (en rfl (en rfl (en rfl (en rfl (en rfl (en rfl (en rfl (en rfl (en rfl (en rfl (en rfl (en rfl (en rfl (en rfl (en rfl (en rfl (en rfl (en rfl (en rfl (en rfl (en rfl (en rfl (en rfl (en rfl (en rfl (en rfl (en rfl (en rfl (en rfl (en rfl (en rfl s19))))))))))))))))))))))))))))))))))))))
    have s20 := (hg 20).trans (en rfl (en rfl (en rfl (en rfl (en rfl (en rfl (en rfl (en rfl (en rfl (en rfl (en rfl (en rfl (en rfl (en rfl (en rfl (en rfl (en rfl (en rfl (en rfl (en rfl (en rfl (en rfl (en rfl (en rfl (en rfl (en rfl (en rfl (en rfl (en rfl (en rfl (en rfl (en rfl (en rfl (en rfl (en rfl (en rfl (en rfl (en rfl s20))))))))))))))))))))))))))))))))))))))
    have s25 := (hg 25).trans (en rfl (en rfl (en rfl (en rfl (en rfl (en rfl (en rfl (en rfl (en rfl (en rfl (en rfl (en rfl (en rfl (en rfl (en rfl (en rfl (en rfl (en rfl (en rfl (en rfl (en rfl (en rfl (en rfl (en rfl (en rfl (en rfl (en rfl (en rfl (en rfl (en rfl (en rfl (en rfl (en rfl (en rfl (en rfl (en rfl (en rfl (en rfl s25))))))))))))))))))))))))))))))))))))))
    have s51 := (hg 51).trans (en rfl (en rfl (en rfl (en rfl (en rfl (en rfl (en rfl (en rfl (en rfl (en rfl (en rfl (en rfl (en rfl (en rfl (en rfl (en rfl (en rfl (en rfl (en rfl (en rfl (en rfl (en rfl (en rfl (en rfl (en rfl (en rfl (en rfl (en rfl (en rfl (en rfl (en rfl (en rfl (en rfl (en rfl (en rfl (en rfl (en rfl (en rfl s51))))))))))))))))))))))))))))))))))))))
    have s86 := (hg 86).trans (en rfl (en rfl (en rfl (en rfl (en rfl (en rfl (en rfl (en rfl (en rfl (en rfl (en rfl (en rfl (en rfl (en rfl (en rfl (en rfl (en rfl (en rfl (en rfl (en rfl (en rfl (en rfl (en rfl (en rfl (en rfl (en rfl (en rfl (en rfl (en rfl (en rfl (en rfl (en rfl (en rfl (en rfl (en rfl (en rfl (en rfl (en rfl s86))))))))))))))))))))))))))))))))))))))
    have s87 := (hg 87).trans (en rfl (en rfl (en rfl (en rfl (en rfl (en rfl (en rfl (en rfl (en rfl (en rfl (en rfl (en rfl (en rfl (en rfl (en rfl (en rfl (en rfl (en rfl (en rfl (en rfl (en rfl (en rfl (en rfl (en rfl (en rfl (en rfl (en rfl (en rfl (en rfl (en rfl (en rfl (en rfl (en rfl (en rfl (en rfl (en rfl (en rfl (en rfl s87))))))))))))))))))))))))))))))))))))))
    have s88 := (hg 88).trans (en rfl (en rfl (en rfl (en rfl (en rfl (en rfl (en rfl (en rfl (en rfl (en rfl (en rfl (en rfl (en rfl (en rfl (en rfl (en rfl (en rfl (en rfl (en rfl (en rfl (en rfl (en rfl (en rfl (en rfl (en rfl (en rfl (en rfl (en rfl (en rfl (en rfl (en rfl (en rfl (en rfl (en rfl (en rfl (en rfl (en rfl (en rfl s88))))))))))))))))))))))))))))))))))))))
    have s89 := (hg 89).trans (en rfl (en rfl (en rfl (en rfl (en rfl (en rfl (en rfl (en rfl (en rfl (en rfl (en rfl (en rfl (en rfl (en rfl (en rfl (en rfl (en rfl (en rfl (en rfl (en rfl (en rfl (en rfl (en rfl (en rfl (en rfl (en rfl (en rfl (en rfl (en rfl (en rfl (en rfl (en rfl (en rfl (en rfl (en rfl (en rfl (en rfl (en rfl s89))))))))))))))))))))))))))))))))))))))
    clear hg
    refine xc_ret ?_
    refine bodyR_1 rfl s8 ?_
    exact ⟨rfl, h.drop.drop.drop.drop.drop⟩
end
end Go.Proofs.Ytmfkhfmidnojhaa
