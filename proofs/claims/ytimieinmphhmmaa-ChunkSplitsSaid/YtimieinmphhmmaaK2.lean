/-
ChunkLines: the plain law of newlines, and the walk.
-/
import Derived.Test.YtimieinmphhmmaaH4
namespace Go.Proofs.Ytimieinmphhmmaa
open Go Go.RowKit
section
variable {E : Env} {R L : List SProp} {w : World} {l zs ys : List Int} {v u : Value} {r : Int}
theorem nlAt_some : ∀ (l : List Int) (k : Nat), k < l.count 10 → ∃ i : Nat, nlAt l k = some i ∧ l[i]? = some 10 ∧ (l.take i).count 10 = k
  | [], k, h => by simp at h
  | r :: l, k, h => by
    by_cases hr : r = 10
    · subst hr
      cases k with
      | zero => exact ⟨0, by simp [nlAt], rfl, rfl⟩
      | succ k =>
        rw [List.count_cons_self] at h
        obtain ⟨i, h1, h2, h3⟩ := nlAt_some l k (by omega)
        refine ⟨i + 1, ?_, h2, ?_⟩
        · have e : ((k + 1 : Nat) : Int) - 1 = k := by omega
          rw [nlAt, if_pos rfl, if_neg (by omega), e, h1]; rfl
        · rw [List.take_succ_cons, List.count_cons_self, h3]
    · rw [List.count_cons_of_ne hr] at h
      obtain ⟨i, h1, h2, h3⟩ := nlAt_some l k h
      refine ⟨i + 1, ?_, h2, ?_⟩
      · rw [nlAt, if_neg hr, h1]; rfl
      · rw [List.take_succ_cons, List.count_cons_of_ne hr, h3]
theorem nlAt_none : ∀ (l : List Int) (k : Nat), l.count 10 ≤ k → nlAt l k = none
  | [], k, _ => rfl
  | r :: l, k, h => by
    by_cases hr : r = 10
    · subst hr
      rw [List.count_cons_self] at h
      have e : (k : Int) - 1 = ((k - 1 : Nat) : Int) := by omega
      rw [nlAt, if_pos rfl, if_neg (by omega), e, nlAt_none l (k - 1) (by omega)]; rfl
    · rw [List.count_cons_of_ne hr] at h
      rw [nlAt, if_neg hr, nlAt_none l k h]; rfl
theorem count_mono {a b : Nat} (h : a ≤ b) : (l.take a).count 10 ≤ (l.take b).count 10 := by
  have e : l.take a = (l.take b).take a := by rw [List.take_take, Nat.min_eq_left h]
  rw [e]
  exact (List.take_sublist a _).count_le 10

theorem newlineAt_some {k : Int} {i : Nat} (ho : ChOk l) (hk0 : -1000000 ≤ k) (hk1 : k ≤ 1000000000000) (hi : nlAt l k = some i) (h : SatL E w R) : Calls Try.prog 15 #[.agg (chC l), .int .i64 k] w (Ret fun u w' => u = .tuple #[.int .i64 (i : Int), .bool true] ∧ SatL E w' R) := by
  have := newlineAt_ok ho hk0 hk1 h
  rw [hi] at this
  exact this
theorem newlineAt_none {k : Int} (ho : ChOk l) (hk0 : -1000000 ≤ k) (hk1 : k ≤ 1000000000000) (hi : nlAt l k = none) (h : SatL E w R) : Calls Try.prog 15 #[.agg (chC l), .int .i64 k] w (Ret fun u w' => u = .tuple #[.int .i64 0, .bool false] ∧ SatL E w' R) := by
  have := newlineAt_ok ho hk0 hk1 h
  rw [hi] at this
  exact this
theorem ahead_nat {i : Nat} (ho : ChOk l) (h : SatL E w R) : Calls Try.prog 17 #[.agg (chC l), .int .i64 (i : Int)] w (Ret fun u w' => u = .int .i64 ((l.take i).count 10 : Int) ∧ SatL E w' R) := ahead_ok (i := (i : Int)) ho h
theorem lines_big (hv : Reads E R v .i32 zs) (hb : 1000 < zs.length) (h : SatL E w R) : Calls Try.prog 5 #[v] w (Ret fun u w' => u = .bool true ∧ SatL E w' R) := by
  obtain ⟨a, cap, rfl, _, _⟩ := hv.slice h
  refine calls_x Try.func5 rfl Try.ntmps5 rfl ?_
  refine xc_gen (fun g hg => ?_)
  have s0 := (hg 0).trans arg0
  clear hg
  refine xc_seq (fun K hK1 => ?_)
  refine xc_region ?_
  refine x_val (r_assign ec) (nd_of rfl) rfl ?_
  refine xw_nil ?_
  refine hK1 _ _ ?_
  refine xc_gen (fun g hg => ?_)
  have s0 := (hg 0).trans (en rfl s0)
  have s2 := (hg 2).trans es
  clear hg
  refine xc_seq (fun K hK2 => ?_)
  refine xc_seq (fun K hK3 => ?_)
  refine xc_region ?_
  refine x_val (r_move s0) (nd_of rfl) rfl ?_
  refine x_val (r_len Try.underlying22 es) (nd_of rfl) rfl ?_
  refine x_val (r_gtr es ec (decide_eq_true (by omega))) (nd_of rfl) rfl ?_
  refine xw_nil ?_
  refine hK3 _ _ ?_
  refine xc_gen (fun g hg => ?_)
  have s0 := (hg 0).trans (en rfl (en rfl (en rfl s0)))
  have s2 := (hg 2).trans (en rfl (en rfl (en rfl s2)))
  have s15 := (hg 15).trans es
  clear hg
  refine xc_cond s15 (fun _ => ?_) (fun hc => by cases hc)
  refine xc_seq (fun K hK4 => ?_)
  refine xc_region ?_
  refine x_enter (r_call Try.call9 .nil) (nd_of rfl) rfl (known_ok h) ?_
  rintro _ w ⟨rfl, h⟩
  refine x_val (r_assign es) (nd_of rfl) rfl ?_
  refine xw_nil ?_
  refine hK4 _ _ ?_
  refine xc_gen (fun g hg => ?_)
  have s0 := (hg 0).trans (en rfl (en rfl s0))
  have s2 := (hg 2).trans es
  have s15 := (hg 15).trans (en rfl (en rfl s15))
  clear hg
  refine xc_ret ?_
  refine bodyR_1 rfl s2 ?_
  exact ⟨rfl, h⟩
theorem lines_not (hv : Reads E R v .i32 zs) (hz : zs.length ≤ 1000) (hn : ¬ ChOk zs) (h : SatL E w R) : Calls Try.prog 5 #[v] w (Ret fun u w' => u = .bool true ∧ SatL E w' R) := by
  obtain ⟨a, cap, rfl, _, _⟩ := hv.slice h
  have hnil := chOk_nil
  refine calls_x Try.func5 rfl Try.ntmps5 rfl ?_
  refine xc_gen (fun g hg => ?_)
  have s0 := (hg 0).trans arg0
  clear hg
  refine xc_seq (fun K hK1 => ?_)
  refine xc_region ?_
  refine x_val (r_assign ec) (nd_of rfl) rfl ?_
  refine xw_nil ?_
  refine hK1 _ _ ?_
  refine xc_gen (fun g hg => ?_)
  have s0 := (hg 0).trans (en rfl s0)
  have s2 := (hg 2).trans es
  clear hg
  refine xc_seq (fun K hK2 => ?_)
  refine xc_seq (fun K hK3 => ?_)
  refine xc_region ?_
  refine x_val (r_move s0) (nd_of rfl) rfl ?_
  refine x_val (r_len Try.underlying22 es) (nd_of rfl) rfl ?_
  refine x_val (r_gtr es ec (decide_eq_false (by omega))) (nd_of rfl) rfl ?_
  refine xw_nil ?_
  refine hK3 _ _ ?_
  refine xc_gen (fun g hg => ?_)
  have s0 := (hg 0).trans (en rfl (en rfl (en rfl s0)))
  have s2 := (hg 2).trans (en rfl (en rfl (en rfl s2)))
  have s15 := (hg 15).trans es
  clear hg
  refine xc_cond s15 (fun hc => by cases hc) (fun _ => ?_)
  refine xc_skip ?_
  refine hK2 _ _ ?_
  refine xc_seq (fun K hK4 => ?_)
  refine xc_region ?_
  refine x_val (r_move s0) (nd_of rfl) rfl ?_
  refine x_enter (r_call Try.call10 (.cons es .nil)) (nd_of rfl) rfl (of_not hv hn h) ?_
  rintro _ w ⟨⟨e, he, rfl⟩, h⟩
  refine x_val (r_move es) (nd_of rfl) rfl ?_
  refine x_val (r_extract es gc0) (nd_of rfl) rfl ?_
  refine x_val (r_extract (en rfl es) gc1) (nd_of rfl) rfl ?_
  refine x_declA h Try.zeroValue26 Try.sizeOf26 rfl (en rfl (en rfl es)) (by first | assumption | exact Ok.node (by assumption) | exact ChOk.ok (by assumption)) rfl ?_
  intro b3 w h
  refine x_val (r_assign (en rfl es)) (nd_of rfl) rfl ?_
  refine xw_nil ?_
  refine hK4 _ _ ?_
  refine xc_gen (fun g hg => ?_)
  have s0 := (hg 0).trans (en rfl (en rfl (en rfl (en rfl (en rfl (en rfl (en rfl s0)))))))
  have s2 := (hg 2).trans (en rfl (en rfl (en rfl (en rfl (en rfl (en rfl (en rfl s2)))))))
  have s3 := (hg 3).trans (en rfl es)
  have s4 := (hg 4).trans es
  have s15 := (hg 15).trans (en rfl (en rfl (en rfl (en rfl (en rfl (en rfl (en rfl s15)))))))
  clear hg
  refine xc_seq (fun K hK5 => ?_)
  refine xc_seq (fun K hK6 => ?_)
  refine xc_region ?_
  refine x_val (r_move s4) (nd_of rfl) rfl ?_
  refine x_val (r_neq es ec (decide_eq_true (by omega))) (nd_of rfl) rfl ?_
  refine xw_nil ?_
  refine hK6 _ _ ?_
  refine xc_gen (fun g hg => ?_)
  have s0 := (hg 0).trans (en rfl (en rfl s0))
  have s2 := (hg 2).trans (en rfl (en rfl s2))
  have s3 := (hg 3).trans (en rfl (en rfl s3))
  have s4 := (hg 4).trans (en rfl (en rfl s4))
  have s15 := (hg 15).trans (en rfl (en rfl s15))
  have s23 := (hg 23).trans es
  clear hg
  refine xc_cond s23 (fun _ => ?_) (fun hc => by cases hc)
  refine xc_seq (fun K hK7 => ?_)
  refine xc_region ?_
  refine x_enter (r_call Try.call9 .nil) (nd_of rfl) rfl (known_ok h) ?_
  rintro _ w ⟨rfl, h⟩
  refine x_val (r_assign es) (nd_of rfl) rfl ?_
  refine xw_nil ?_
  refine hK7 _ _ ?_
  refine xc_gen (fun g hg => ?_)
  have s0 := (hg 0).trans (en rfl (en rfl s0))
  have s2 := (hg 2).trans es
  have s3 := (hg 3).trans (en rfl (en rfl s3))
  have s4 := (hg 4).trans (en rfl (en rfl s4))
  have s15 := (hg 15).trans (en rfl (en rfl s15))
  have s23 := (hg 23).trans (en rfl (en rfl s23))
  clear hg
  refine xc_ret ?_
  refine bodyR_1 rfl s2 ?_
  exact ⟨rfl, h.drop⟩
theorem lines_ok (hv : Reads E R v .i32 zs) (ho : ChOk zs) (h : SatL E w R) : Calls Try.prog 5 #[v] w (Ret fun u w' => u = .bool true ∧ SatL E w' R) := by
  obtain ⟨a, cap, rfl, _, _⟩ := hv.slice h
  have hz := ho.len
  have hcz : zs.count 10 ≤ 32 := Nat.le_trans List.count_le_length hz
  refine calls_x Try.func5 rfl Try.ntmps5 rfl ?_
  refine xc_gen (fun g hg => ?_)
  have s0 := (hg 0).trans arg0
  clear hg
  refine xc_seq (fun K hK1 => ?_)
  refine xc_region ?_
  refine x_val (r_assign ec) (nd_of rfl) rfl ?_
  refine xw_nil ?_
  refine hK1 _ _ ?_
  refine xc_gen (fun g hg => ?_)
  have s0 := (hg 0).trans (en rfl s0)
  have s2 := (hg 2).trans es
  clear hg
  refine xc_seq (fun K hK2 => ?_)
  refine xc_seq (fun K hK3 => ?_)
  refine xc_region ?_
  refine x_val (r_move s0) (nd_of rfl) rfl ?_
  refine x_val (r_len Try.underlying22 es) (nd_of rfl) rfl ?_
  refine x_val (r_gtr es ec (decide_eq_false (by omega))) (nd_of rfl) rfl ?_
  refine xw_nil ?_
  refine hK3 _ _ ?_
  refine xc_gen (fun g hg => ?_)
  have s0 := (hg 0).trans (en rfl (en rfl (en rfl s0)))
  have s2 := (hg 2).trans (en rfl (en rfl (en rfl s2)))
  have s15 := (hg 15).trans es
  clear hg
  refine xc_cond s15 (fun hc => by cases hc) (fun _ => ?_)
  refine xc_skip ?_
  refine hK2 _ _ ?_
  refine xc_seq (fun K hK4 => ?_)
  refine xc_region ?_
  refine x_val (r_move s0) (nd_of rfl) rfl ?_
  refine x_enter (r_call Try.call10 (.cons es .nil)) (nd_of rfl) rfl (of_ok hv ho h) ?_
  rintro _ w ⟨rfl, h⟩
  refine x_val (r_move es) (nd_of rfl) rfl ?_
  refine x_val (r_extract es gc0) (nd_of rfl) rfl ?_
  refine x_val (r_extract (en rfl es) gc1) (nd_of rfl) rfl ?_
  refine x_declA h Try.zeroValue26 Try.sizeOf26 rfl (en rfl (en rfl es)) (by first | assumption | exact Ok.node (by assumption) | exact ChOk.ok (by assumption)) rfl ?_
  intro b3 w h
  refine x_val (r_assign (en rfl es)) (nd_of rfl) rfl ?_
  refine xw_nil ?_
  refine hK4 _ _ ?_
  refine xc_gen (fun g hg => ?_)
  have s0 := (hg 0).trans (en rfl (en rfl (en rfl (en rfl (en rfl (en rfl (en rfl s0)))))))
  have s2 := (hg 2).trans (en rfl (en rfl (en rfl (en rfl (en rfl (en rfl (en rfl s2)))))))
  have s3 := (hg 3).trans (en rfl es)
  have s4 := (hg 4).trans es
  have s15 := (hg 15).trans (en rfl (en rfl (en rfl (en rfl (en rfl (en rfl (en rfl s15)))))))
  clear hg
  refine xc_seq (fun K hK5 => ?_)
  refine xc_seq (fun K hK6 => ?_)
  refine xc_region ?_
  refine x_val (r_move s4) (nd_of rfl) rfl ?_
  refine x_val (r_neq es ec (r := false) rfl) (nd_of rfl) rfl ?_
  refine xw_nil ?_
  refine hK6 _ _ ?_
  refine xc_gen (fun g hg => ?_)
  have s0 := (hg 0).trans (en rfl (en rfl s0))
  have s2 := (hg 2).trans (en rfl (en rfl s2))
  have s3 := (hg 3).trans (en rfl (en rfl s3))
  have s4 := (hg 4).trans (en rfl (en rfl s4))
  have s15 := (hg 15).trans (en rfl (en rfl s15))
  have s23 := (hg 23).trans es
  clear hg
  refine xc_cond s23 (fun hc => by cases hc) (fun _ => ?_)
  refine xc_skip ?_
  refine hK5 _ _ ?_
  refine xc_seq (fun K hK7 => ?_)
  refine xc_region ?_
  refine x_val (r_assign ec) (nd_of rfl) rfl ?_
  refine xw_nil ?_
  refine hK7 _ _ ?_
  refine xc_gen (fun g hg => ?_)
  have s0 := (hg 0).trans (en rfl s0)
  have s2 := (hg 2).trans (en rfl s2)
  have s3 := (hg 3).trans (en rfl s3)
  have s4 := (hg 4).trans (en rfl s4)
  have s5 := (hg 5).trans es
  have s15 := (hg 15).trans (en rfl s15)
  have s23 := (hg 23).trans (en rfl s23)
  clear hg
  refine xc_seq (fun K hK8 => ?_)
  refine xc_seq (fun K hK9 => ?_)
  refine xc_region ?_
  refine x_val (r_loadAgg h 0 rfl Try.isAgg26 Try.sizeOf26 s3 (Ok.le (by first | assumption | exact Ok.node (by assumption) | exact ChOk.ok (by assumption))) (ext_full (Ok.size (by first | assumption | exact Ok.node (by assumption) | exact ChOk.ok (by assumption))))) (nd_of rfl) rfl ?_
  refine x_enter (r_call Try.call14 (.cons es .nil)) (nd_of rfl) rfl (newlines_ok ho h) ?_
  rintro _ w ⟨rfl, h⟩
  refine x_val (r_move ec) (nd_of rfl) rfl ?_
  refine xw_nil ?_
  refine hK9 _ _ ?_
  refine xc_gen (fun g hg => ?_)
  have s0 := (hg 0).trans (en rfl (en rfl (en rfl s0)))
  have s2 := (hg 2).trans (en rfl (en rfl (en rfl s2)))
  have s3 := (hg 3).trans (en rfl (en rfl (en rfl s3)))
  have s4 := (hg 4).trans (en rfl (en rfl (en rfl s4)))
  have s5 := (hg 5).trans (en rfl (en rfl (en rfl s5)))
  have s15 := (hg 15).trans (en rfl (en rfl (en rfl s15)))
  have s23 := (hg 23).trans (en rfl (en rfl (en rfl s23)))
  have s26 := (hg 26).trans (en rfl es)
  have s27 := (hg 27).trans es
  clear hg
  refine xc_block ?_
  obtain ⟨G10, hG10⟩ : ∃ g0 : Nat → Value, g0 = g := ⟨_, rfl⟩
  have z0 : G10 0 = _ := (congrFun hG10 0).trans s0
  have z3 : G10 3 = _ := (congrFun hG10 3).trans s3
  have z4 : G10 4 = _ := (congrFun hG10 4).trans s4
  have z15 : G10 15 = _ := (congrFun hG10 15).trans s15
  have z23 : G10 23 = _ := (congrFun hG10 23).trans s23
  have z26 : G10 26 = _ := (congrFun hG10 26).trans s26
  refine xc_loop (fun m f w => (∃ (k : Nat) (q : Int), m = zs.count 10 - k ∧ k ≤ zs.count 10 ∧ f 27 = .int .i64 (k : Int) ∧ f 5 = .int .i64 q ∧ (∀ i : Nat, (zs.take i).count 10 = k → q < i) ∧ SatL E w (Cells b3 (chC zs) 26 :: R)) ∧ (f 0 = G10 0 ∧ f 3 = G10 3 ∧ f 4 = G10 4 ∧ f 15 = G10 15 ∧ f 23 = G10 23 ∧ f 26 = G10 26)) (zs.count 10) ⟨⟨0, -1, by omega, by omega, s27, s5, fun i _ => by omega, h⟩, ⟨congrFun hG10.symm 0, congrFun hG10.symm 3, congrFun hG10.symm 4, congrFun hG10.symm 15, congrFun hG10.symm 23, congrFun hG10.symm 26⟩⟩ ?_
  rintro m g w ⟨⟨k, q, hm, hk, s27, s5, hq, h⟩, ⟨y0, y3, y4, y15, y23, y26⟩⟩
  have s0 := y0.trans z0
  have s3 := y3.trans z3
  have s4 := y4.trans z4
  have s15 := y15.trans z15
  have s23 := y23.trans z23
  have s26 := y26.trans z26
  refine xc_seq (fun K hK11 => ?_)
  refine xc_region ?_
  refine x_val (r_lss s27 s26 rfl) (nd_of rfl) rfl ?_
  refine xw_nil ?_
  refine hK11 _ _ ?_
  refine xc_gen (fun g hg => ?_)
  have s0 := (hg 0).trans (en rfl s0)
  have s3 := (hg 3).trans (en rfl s3)
  have s4 := (hg 4).trans (en rfl s4)
  have s5 := (hg 5).trans (en rfl s5)
  have s15 := (hg 15).trans (en rfl s15)
  have s23 := (hg 23).trans (en rfl s23)
  have s26 := (hg 26).trans (en rfl s26)
  have s27 := (hg 27).trans (en rfl s27)
  have s28 := (hg 28).trans es
  clear hg
  refine xc_seq (fun K hK12 => ?_)
  refine xc_cond s28 (fun hc => ?_) (fun hc => ?_)
  ·
    refine xc_skip ?_
    refine hK12 _ _ ?_
    refine xc_seq (fun K hK13 => ?_)
    refine xc_block ?_
    refine xc_seq (fun K hK14 => ?_)
    have hkl : k < zs.count 10 := by have := of_decide_eq_true hc; omega
    obtain ⟨i, hi1, hi2, hi3⟩ := nlAt_some zs k hkl
    have hil := (List.getElem?_eq_some_iff.1 hi2).1
    have hqi := hq i hi3
    have hi4 : (zs.take (i + 1)).count 10 = k + 1 := by rw [count_step hi2, hi3, if_pos rfl]
    refine xc_region ?_
    refine x_val (r_move s27) (nd_of rfl) rfl ?_
    refine x_val (r_assign es) (nd_of rfl) rfl ?_
    refine xw_nil ?_
    refine hK14 _ _ ?_
    refine xc_gen (fun g hg => ?_)
    have s0 := (hg 0).trans (en rfl (en rfl s0))
    have s3 := (hg 3).trans (en rfl (en rfl s3))
    have s4 := (hg 4).trans (en rfl (en rfl s4))
    have s5 := (hg 5).trans (en rfl (en rfl s5))
    have s6 := (hg 6).trans es
    have s15 := (hg 15).trans (en rfl (en rfl s15))
    have s23 := (hg 23).trans (en rfl (en rfl s23))
    have s26 := (hg 26).trans (en rfl (en rfl s26))
    have s27 := (hg 27).trans (en rfl (en rfl s27))
    have s28 := (hg 28).trans (en rfl (en rfl s28))
    clear hg
    refine xc_seq (fun K hK15 => ?_)
    refine xc_region ?_
    refine x_val (r_loadAgg h 0 rfl Try.isAgg26 Try.sizeOf26 s3 (Ok.le (by first | assumption | exact Ok.node (by assumption) | exact ChOk.ok (by assumption))) (ext_full (Ok.size (by first | assumption | exact Ok.node (by assumption) | exact ChOk.ok (by assumption))))) (nd_of rfl) rfl ?_
    refine x_val (r_move (en rfl s6)) (nd_of rfl) rfl ?_
    refine x_enter (r_call Try.call15 (.cons (en rfl es) (.cons es .nil))) (nd_of rfl) rfl (newlineAt_some ho (by omega) (by omega) hi1 h) ?_
    rintro _ w ⟨rfl, h⟩
    refine x_val (r_move es) (nd_of rfl) rfl ?_
    refine x_val (r_extract es gc0) (nd_of rfl) rfl ?_
    refine x_val (r_extract (en rfl es) gc1) (nd_of rfl) rfl ?_
    refine x_val (r_assign (en rfl es)) (nd_of rfl) rfl ?_
    refine x_val (r_assign (en rfl es)) (nd_of rfl) rfl ?_
    refine xw_nil ?_
    refine hK15 _ _ ?_
    refine xc_gen (fun g hg => ?_)
    have s0 := (hg 0).trans (en rfl (en rfl (en rfl (en rfl (en rfl (en rfl (en rfl (en rfl s0))))))))
    have s3 := (hg 3).trans (en rfl (en rfl (en rfl (en rfl (en rfl (en rfl (en rfl (en rfl s3))))))))
    have s4 := (hg 4).trans (en rfl (en rfl (en rfl (en rfl (en rfl (en rfl (en rfl (en rfl s4))))))))
    have s5 := (hg 5).trans (en rfl (en rfl (en rfl (en rfl (en rfl (en rfl (en rfl (en rfl s5))))))))
    have s6 := (hg 6).trans (en rfl (en rfl (en rfl (en rfl (en rfl (en rfl (en rfl (en rfl s6))))))))
    have s7 := (hg 7).trans (en rfl es)
    have s8 := (hg 8).trans es
    have s15 := (hg 15).trans (en rfl (en rfl (en rfl (en rfl (en rfl (en rfl (en rfl (en rfl s15))))))))
    have s23 := (hg 23).trans (en rfl (en rfl (en rfl (en rfl (en rfl (en rfl (en rfl (en rfl s23))))))))
    have s26 := (hg 26).trans (en rfl (en rfl (en rfl (en rfl (en rfl (en rfl (en rfl (en rfl s26))))))))
    have s27 := (hg 27).trans (en rfl (en rfl (en rfl (en rfl (en rfl (en rfl (en rfl (en rfl s27))))))))
    have s28 := (hg 28).trans (en rfl (en rfl (en rfl (en rfl (en rfl (en rfl (en rfl (en rfl s28))))))))
    clear hg
    refine xc_seq (fun K hK16 => ?_)
    refine xc_region ?_
    refine x_val (r_loadAgg h 0 rfl Try.isAgg26 Try.sizeOf26 s3 (Ok.le (by first | assumption | exact Ok.node (by assumption) | exact ChOk.ok (by assumption))) (ext_full (Ok.size (by first | assumption | exact Ok.node (by assumption) | exact ChOk.ok (by assumption))))) (nd_of rfl) rfl ?_
    refine x_val (r_move (en rfl s7)) (nd_of rfl) rfl ?_
    refine x_enter (r_call Try.call16 (.cons (en rfl es) (.cons es .nil))) (nd_of rfl) rfl (chAt_ok ho hi2 h) ?_
    rintro _ w ⟨rfl, h⟩
    refine x_val (r_move es) (nd_of rfl) rfl ?_
    refine x_val (r_extract es gc0) (nd_of rfl) rfl ?_
    refine x_val (r_extract (en rfl es) gc1) (nd_of rfl) rfl ?_
    refine x_val (r_assign (en rfl es)) (nd_of rfl) rfl ?_
    refine x_val (r_assign (en rfl es)) (nd_of rfl) rfl ?_
    refine xw_nil ?_
    refine hK16 _ _ ?_
    refine xc_gen (fun g hg => ?_)
    have s0 := (hg 0).trans (en rfl (en rfl (en rfl (en rfl (en rfl (en rfl (en rfl (en rfl s0))))))))
    have s3 := (hg 3).trans (en rfl (en rfl (en rfl (en rfl (en rfl (en rfl (en rfl (en rfl s3))))))))
    have s4 := (hg 4).trans (en rfl (en rfl (en rfl (en rfl (en rfl (en rfl (en rfl (en rfl s4))))))))
    have s5 := (hg 5).trans (en rfl (en rfl (en rfl (en rfl (en rfl (en rfl (en rfl (en rfl s5))))))))
    have s6 := (hg 6).trans (en rfl (en rfl (en rfl (en rfl (en rfl (en rfl (en rfl (en rfl s6))))))))
    have s7 := (hg 7).trans (en rfl (en rfl (en rfl (en rfl (en rfl (en rfl (en rfl (en rfl s7))))))))
    have s8 := (hg 8).trans (en rfl (en rfl (en rfl (en rfl (en rfl (en rfl (en rfl (en rfl s8))))))))
    have s9 := (hg 9).trans (en rfl es)
    have s10 := (hg 10).trans es
    have s15 := (hg 15).trans (en rfl (en rfl (en rfl (en rfl (en rfl (en rfl (en rfl (en rfl s15))))))))
    have s23 := (hg 23).trans (en rfl (en rfl (en rfl (en rfl (en rfl (en rfl (en rfl (en rfl s23))))))))
    have s26 := (hg 26).trans (en rfl (en rfl (en rfl (en rfl (en rfl (en rfl (en rfl (en rfl s26))))))))
    have s27 := (hg 27).trans (en rfl (en rfl (en rfl (en rfl (en rfl (en rfl (en rfl (en rfl s27))))))))
    have s28 := (hg 28).trans (en rfl (en rfl (en rfl (en rfl (en rfl (en rfl (en rfl (en rfl s28))))))))
    clear hg
    refine xc_seq (fun K hK17 => ?_)
    refine xc_seq (fun K hK18 => ?_)
    refine xc_region ?_
    refine x_val (r_move s8) (nd_of rfl) rfl ?_
    refine x_val (r_not es rfl) (nd_of rfl) rfl ?_
    refine x_val (r_move es) (nd_of rfl) rfl ?_
    refine x_take (d := 44) rfl rfl es ?_
    refine x_val (r_move (en rfl (en rfl (en rfl s10)))) (nd_of rfl) rfl ?_
    refine x_take (d := 44) rfl rfl (en rfl es) ?_
    refine x_val (r_neq es ec (r := false) rfl) (nd_of rfl) rfl ?_
    refine x_val (r_pick_f (en rfl (en rfl es)) es) (nd_of rfl) rfl ?_
    refine x_val (r_move es) (nd_of rfl) rfl ?_
    refine x_take (d := 48) rfl rfl es ?_
    refine x_val (r_move (en rfl (en rfl (en rfl (en rfl (en rfl (en rfl (en rfl s9)))))))) (nd_of rfl) rfl ?_
    refine x_take (d := 48) rfl rfl (en rfl es) ?_
    refine x_val (r_neq es ec (r := false) rfl) (nd_of rfl) rfl ?_
    refine x_val (r_pick_f (en rfl (en rfl es)) es) (nd_of rfl) rfl ?_
    refine x_val (r_move es) (nd_of rfl) rfl ?_
    refine x_take (d := 52) rfl rfl es ?_
    refine x_val (r_move (en rfl (en rfl (en rfl (en rfl (en rfl (en rfl (en rfl (en rfl (en rfl (en rfl (en rfl s7)))))))))))) (nd_of rfl) rfl ?_
    refine x_take (d := 52) rfl rfl (en rfl es) ?_
    refine x_val (r_move (en rfl (en rfl (en rfl (en rfl (en rfl (en rfl (en rfl (en rfl (en rfl (en rfl (en rfl (en rfl s5))))))))))))) (nd_of rfl) rfl ?_
    refine x_take (d := 52) rfl rfl (en rfl (en rfl es)) ?_
    refine x_val (r_leq (en rfl es) es (decide_eq_false (by omega))) (nd_of rfl) rfl ?_
    refine x_val (r_pick_f (en rfl (en rfl (en rfl es))) es) (nd_of rfl) rfl ?_
    refine x_val (r_move es) (nd_of rfl) rfl ?_
    refine x_take (d := 57) rfl rfl es ?_
    refine x_val (r_loadAgg h 0 rfl Try.isAgg26 Try.sizeOf26 (en rfl (en rfl (en rfl (en rfl (en rfl (en rfl (en rfl (en rfl (en rfl (en rfl (en rfl (en rfl (en rfl (en rfl (en rfl (en rfl s3)))))))))))))))) (Ok.le (by first | assumption | exact Ok.node (by assumption) | exact ChOk.ok (by assumption))) (ext_full (Ok.size (by first | assumption | exact Ok.node (by assumption) | exact ChOk.ok (by assumption))))) (nd_of rfl) rfl ?_
    refine x_take (d := 57) rfl rfl (en rfl es) ?_
    refine x_val (r_move (en rfl (en rfl (en rfl (en rfl (en rfl (en rfl (en rfl (en rfl (en rfl (en rfl (en rfl (en rfl (en rfl (en rfl (en rfl (en rfl (en rfl s7)))))))))))))))))) (nd_of rfl) rfl ?_
    refine x_take (d := 57) rfl rfl (en rfl (en rfl es)) ?_
    refine x_enter (r_call Try.call17 (.cons (en rfl es) (.cons es .nil))) (nd_of rfl) rfl (ahead_nat ho h) ?_
    rintro _ w ⟨rfl, h⟩
    refine x_take (d := 57) rfl rfl (en rfl (en rfl (en rfl es))) ?_
    refine x_val (r_move (en rfl (en rfl (en rfl (en rfl (en rfl (en rfl (en rfl (en rfl (en rfl (en rfl (en rfl (en rfl (en rfl (en rfl (en rfl (en rfl (en rfl (en rfl (en rfl s6)))))))))))))))))))) (nd_of rfl) rfl ?_
    refine x_take (d := 57) rfl rfl (en rfl (en rfl (en rfl (en rfl es)))) ?_
    refine x_val (r_neq (en rfl es) es (decide_eq_false (by omega))) (nd_of rfl) rfl ?_
    refine x_val (r_pick_f (en rfl (en rfl (en rfl (en rfl (en rfl es))))) es) (nd_of rfl) rfl ?_
    refine x_val (r_move es) (nd_of rfl) rfl ?_
    refine x_take (d := 64) rfl rfl es ?_
    refine x_val (r_loadAgg h 0 rfl Try.isAgg26 Try.sizeOf26 (en rfl (en rfl (en rfl (en rfl (en rfl (en rfl (en rfl (en rfl (en rfl (en rfl (en rfl (en rfl (en rfl (en rfl (en rfl (en rfl (en rfl (en rfl (en rfl (en rfl (en rfl (en rfl (en rfl s3))))))))))))))))))))))) (Ok.le (by first | assumption | exact Ok.node (by assumption) | exact ChOk.ok (by assumption))) (ext_full (Ok.size (by first | assumption | exact Ok.node (by assumption) | exact ChOk.ok (by assumption))))) (nd_of rfl) rfl ?_
    refine x_take (d := 64) rfl rfl (en rfl es) ?_
    refine x_val (r_move (en rfl (en rfl (en rfl (en rfl (en rfl (en rfl (en rfl (en rfl (en rfl (en rfl (en rfl (en rfl (en rfl (en rfl (en rfl (en rfl (en rfl (en rfl (en rfl (en rfl (en rfl (en rfl (en rfl (en rfl s7))))))))))))))))))))))))) (nd_of rfl) rfl ?_
    refine x_take (d := 64) rfl rfl (en rfl (en rfl es)) ?_
    refine x_val (r_add es ec (show _ = (((i + 1 : Nat) : Int) : Int) from by omega) (by unfold I64; omega)) (nd_of rfl) rfl ?_
    refine x_take (d := 64) rfl rfl (en rfl (en rfl (en rfl es))) ?_
    refine x_enter (r_call Try.call17 (.cons (en rfl (en rfl es)) (.cons es .nil))) (nd_of rfl) rfl (ahead_nat ho h) ?_
    rintro _ w ⟨rfl, h⟩
    refine x_take (d := 64) rfl rfl (en rfl (en rfl (en rfl (en rfl es)))) ?_
    refine x_val (r_move (en rfl (en rfl (en rfl (en rfl (en rfl (en rfl (en rfl (en rfl (en rfl (en rfl (en rfl (en rfl (en rfl (en rfl (en rfl (en rfl (en rfl (en rfl (en rfl (en rfl (en rfl (en rfl (en rfl (en rfl (en rfl (en rfl (en rfl s6)))))))))))))))))))))))))))) (nd_of rfl) rfl ?_
    refine x_take (d := 64) rfl rfl (en rfl (en rfl (en rfl (en rfl (en rfl es))))) ?_
    refine x_val (r_add es ec (show _ = (((k + 1 : Nat) : Int) : Int) from by omega) (by unfold I64; omega)) (nd_of rfl) rfl ?_
    refine x_take (d := 64) rfl rfl (en rfl (en rfl (en rfl (en rfl (en rfl (en rfl es)))))) ?_
    refine x_val (r_neq (en rfl (en rfl es)) es (decide_eq_false (by omega))) (nd_of rfl) rfl ?_
    refine x_val (r_pick_f (en rfl (en rfl (en rfl (en rfl (en rfl (en rfl (en rfl es))))))) es) (nd_of rfl) rfl ?_
    refine xw_nil ?_
    refine hK18 _ _ ?_
    refine xc_gen (fun g hg => ?_)
    have s0 := (hg 0).trans (en rfl (en rfl (en rfl (en rfl (en rfl (en rfl (en rfl (en rfl (en rfl (en rfl (en rfl (en rfl (en rfl (en rfl (en rfl (en rfl (en rfl (en rfl (en rfl (en rfl (en rfl (en rfl (en rfl (en rfl (en rfl (en rfl (en rfl (en rfl (en rfl (en rfl (en rfl s0)))))))))))))))))))))))))))))))
    have s3 := (hg 3).trans (en rfl (en rfl (en rfl (en rfl (en rfl (en rfl (en rfl (en rfl (en rfl (en rfl (en rfl (en rfl (en rfl (en rfl (en rfl (en rfl (en rfl (en rfl (en rfl (en rfl (en rfl (en rfl (en rfl (en rfl (en rfl (en rfl (en rfl (en rfl (en rfl (en rfl (en rfl s3)))))))))))))))))))))))))))))))
    have s4 := (hg 4).trans (en rfl (en rfl (en rfl (en rfl (en rfl (en rfl (en rfl (en rfl (en rfl (en rfl (en rfl (en rfl (en rfl (en rfl (en rfl (en rfl (en rfl (en rfl (en rfl (en rfl (en rfl (en rfl (en rfl (en rfl (en rfl (en rfl (en rfl (en rfl (en rfl (en rfl (en rfl s4)))))))))))))))))))))))))))))))
    have s5 := (hg 5).trans (en rfl (en rfl (en rfl (en rfl (en rfl (en rfl (en rfl (en rfl (en rfl (en rfl (en rfl (en rfl (en rfl (en rfl (en rfl (en rfl (en rfl (en rfl (en rfl (en rfl (en rfl (en rfl (en rfl (en rfl (en rfl (en rfl (en rfl (en rfl (en rfl (en rfl (en rfl s5)))))))))))))))))))))))))))))))
    have s6 := (hg 6).trans (en rfl (en rfl (en rfl (en rfl (en rfl (en rfl (en rfl (en rfl (en rfl (en rfl (en rfl (en rfl (en rfl (en rfl (en rfl (en rfl (en rfl (en rfl (en rfl (en rfl (en rfl (en rfl (en rfl (en rfl (en rfl (en rfl (en rfl (en rfl (en rfl (en rfl (en rfl s6)))))))))))))))))))))))))))))))
    have s7 := (hg 7).trans (en rfl (en rfl (en rfl (en rfl (en rfl (en rfl (en rfl (en rfl (en rfl (en rfl (en rfl (en rfl (en rfl (en rfl (en rfl (en rfl (en rfl (en rfl (en rfl (en rfl (en rfl (en rfl (en rfl (en rfl (en rfl (en rfl (en rfl (en rfl (en rfl (en rfl (en rfl s7)))))))))))))))))))))))))))))))
    have s8 := (hg 8).trans (en rfl (en rfl (en rfl (en rfl (en rfl (en rfl (en rfl (en rfl (en rfl (en rfl (en rfl (en rfl (en rfl (en rfl (en rfl (en rfl (en rfl (en rfl (en rfl (en rfl (en rfl (en rfl (en rfl (en rfl (en rfl (en rfl (en rfl (en rfl (en rfl (en rfl (en rfl s8)))))))))))))))))))))))))))))))
    have s9 := (hg 9).trans (en rfl (en rfl (en rfl (en rfl (en rfl (en rfl (en rfl (en rfl (en rfl (en rfl (en rfl (en rfl (en rfl (en rfl (en rfl (en rfl (en rfl (en rfl (en rfl (en rfl (en rfl (en rfl (en rfl (en rfl (en rfl (en rfl (en rfl (en rfl (en rfl (en rfl (en rfl s9)))))))))))))))))))))))))))))))
    have s10 := (hg 10).trans (en rfl (en rfl (en rfl (en rfl (en rfl (en rfl (en rfl (en rfl (en rfl (en rfl (en rfl (en rfl (en rfl (en rfl (en rfl (en rfl (en rfl (en rfl (en rfl (en rfl (en rfl (en rfl (en rfl (en rfl (en rfl (en rfl (en rfl (en rfl (en rfl (en rfl (en rfl s10)))))))))))))))))))))))))))))))
    have s15 := (hg 15).trans (en rfl (en rfl (en rfl (en rfl (en rfl (en rfl (en rfl (en rfl (en rfl (en rfl (en rfl (en rfl (en rfl (en rfl (en rfl (en rfl (en rfl (en rfl (en rfl (en rfl (en rfl (en rfl (en rfl (en rfl (en rfl (en rfl (en rfl (en rfl (en rfl (en rfl (en rfl s15)))))))))))))))))))))))))))))))
    have s23 := (hg 23).trans (en rfl (en rfl (en rfl (en rfl (en rfl (en rfl (en rfl (en rfl (en rfl (en rfl (en rfl (en rfl (en rfl (en rfl (en rfl (en rfl (en rfl (en rfl (en rfl (en rfl (en rfl (en rfl (en rfl (en rfl (en rfl (en rfl (en rfl (en rfl (en rfl (en rfl (en rfl s23)))))))))))))))))))))))))))))))
    have s26 := (hg 26).trans (en rfl (en rfl (en rfl (en rfl (en rfl (en rfl (en rfl (en rfl (en rfl (en rfl (en rfl (en rfl (en rfl (en rfl (en rfl (en rfl (en rfl (en rfl (en rfl (en rfl (en rfl (en rfl (en rfl (en rfl (en rfl (en rfl (en rfl (en rfl (en rfl (en rfl (en rfl s26)))))))))))))))))))))))))))))))
    have s27 := (hg 27).trans (en rfl (en rfl (en rfl (en rfl (en rfl (en rfl (en rfl (en rfl (en rfl (en rfl (en rfl (en rfl (en rfl (en rfl (en rfl (en rfl (en rfl (en rfl (en rfl (en rfl (en rfl (en rfl (en rfl (en rfl (en rfl (en rfl (en rfl (en rfl (en rfl (en rfl (en rfl s27)))))))))))))))))))))))))))))))
    have s28 := (hg 28).trans (en rfl (en rfl (en rfl (en rfl (en rfl (en rfl (en rfl (en rfl (en rfl (en rfl (en rfl (en rfl (en rfl (en rfl (en rfl (en rfl (en rfl (en rfl (en rfl (en rfl (en rfl (en rfl (en rfl (en rfl (en rfl (en rfl (en rfl (en rfl (en rfl (en rfl (en rfl s28)))))))))))))))))))))))))))))))
    have s72 := (hg 72).trans es
    clear hg
    refine xc_cond s72 (fun hc => by cases hc) (fun _ => ?_)
    refine xc_skip ?_
    refine hK17 _ _ ?_
    refine xc_region ?_
    refine x_val (r_move s7) (nd_of rfl) rfl ?_
    refine x_val (r_assign es) (nd_of rfl) rfl ?_
    refine xw_nil ?_
    refine hK13 _ _ ?_
    refine xc_gen (fun g hg => ?_)
    have s0 := (hg 0).trans (en rfl (en rfl s0))
    have s3 := (hg 3).trans (en rfl (en rfl s3))
    have s4 := (hg 4).trans (en rfl (en rfl s4))
    have s5 := (hg 5).trans es
    have s6 := (hg 6).trans (en rfl (en rfl s6))
    have s7 := (hg 7).trans (en rfl (en rfl s7))
    have s8 := (hg 8).trans (en rfl (en rfl s8))
    have s9 := (hg 9).trans (en rfl (en rfl s9))
    have s10 := (hg 10).trans (en rfl (en rfl s10))
    have s15 := (hg 15).trans (en rfl (en rfl s15))
    have s23 := (hg 23).trans (en rfl (en rfl s23))
    have s26 := (hg 26).trans (en rfl (en rfl s26))
    have s27 := (hg 27).trans (en rfl (en rfl s27))
    have s28 := (hg 28).trans (en rfl (en rfl s28))
    have s72 := (hg 72).trans (en rfl (en rfl s72))
    clear hg
    refine xc_region ?_
    refine x_val (r_add s27 ec (show _ = (((k + 1 : Nat) : Int) : Int) from by omega) (by unfold I64; omega)) (nd_of rfl) rfl ?_
    refine x_val (r_move es) (nd_of rfl) rfl ?_
    refine xw_nil ?_
    exact ⟨zs.count 10 - (k + 1), by omega, ⟨k + 1, i, rfl, by omega, es, (en rfl (en rfl s5)), fun i' hi' => by rcases Nat.lt_or_ge i i' with h1 | h1; omega; have := count_mono (l := zs) h1; omega, h⟩, ⟨((en rfl (en rfl s0))).trans z0.symm, ((en rfl (en rfl s3))).trans z3.symm, ((en rfl (en rfl s4))).trans z4.symm, ((en rfl (en rfl s15))).trans z15.symm, ((en rfl (en rfl s23))).trans z23.symm, ((en rfl (en rfl s26))).trans z26.symm⟩⟩
  ·
    refine xc_exit ?_
    refine hK8 _ _ ?_
    refine xc_seq (fun K hK19 => ?_)
    have hkl : k = zs.count 10 := by have := of_decide_eq_false hc; omega
    refine xc_plan 9 [(0, 1), (1, 1), (2, 0), (3, 0), (4, 2), (5, 2), (6, 2), (7, 2), (8, 2)] (by kernel_rfl) rfl (by kernel_rfl) h ?_
    have h := h.drew
    refine xp_load (i := 0) rfl (fun W hW => r_loadAgg hW 0 rfl Try.isAgg26 Try.sizeOf26 s3 (Ok.le (by first | assumption | exact Ok.node (by assumption) | exact ChOk.ok (by assumption))) (ext_full (Ok.size (by first | assumption | exact Ok.node (by assumption) | exact ChOk.ok (by assumption))))) rfl (fun _ _ _ hh => by first | exact bodyR_np hh | exact hh) ?_
    refine xp_load (i := 1) rfl (fun W hW => r_loadAgg hW 0 rfl Try.isAgg26 Try.sizeOf26 (en rfl s3) (Ok.le (by first | assumption | exact Ok.node (by assumption) | exact ChOk.ok (by assumption))) (ext_full (Ok.size (by first | assumption | exact Ok.node (by assumption) | exact ChOk.ok (by assumption))))) rfl (fun _ _ _ hh => by first | exact bodyR_np hh | exact hh) ?_
    refine xp_enter (i := 2) rfl (r_call Try.call14 (.cons es .nil)) rfl (newlines_ok ho h) ?_
    rintro _ w ⟨rfl, h⟩
    refine ⟨(fun _ => h), ?_⟩
    refine xp_enter (i := 3) rfl (r_call Try.call15 (.cons (en rfl (en rfl es)) (.cons es .nil))) rfl (newlineAt_none ho (by omega) (by omega) (nlAt_none zs _ (Nat.le_refl _)) h) ?_
    rintro _ w ⟨rfl, h⟩
    refine ⟨(fun _ => h), ?_⟩
    refine xp_read (i := 4) rfl (fun W => r_move es) rfl (fun _ _ _ hh => by first | exact bodyR_np hh | exact hh) ?_
    refine xp_read (i := 5) rfl (fun W => r_extract es gc0) rfl (fun _ _ _ hh => by first | exact bodyR_np hh | exact hh) ?_
    refine xp_read (i := 6) rfl (fun W => r_extract (en rfl es) gc1) rfl (fun _ _ _ hh => by first | exact bodyR_np hh | exact hh) ?_
    refine xp_read (i := 7) rfl (fun W => r_assign (en rfl es)) rfl (fun _ _ _ hh => by first | exact bodyR_np hh | exact hh) ?_
    refine xp_read (i := 8) rfl (fun W => r_assign (en rfl es)) rfl (fun _ _ _ hh => by first | exact bodyR_np hh | exact hh) ?_
    refine xp_nil ?_
    refine hK19 _ _ ?_
    refine xc_gen (fun g hg => ?_)
    have s0 := (hg 0).trans (en rfl (en rfl (en rfl (en rfl (en rfl (en rfl (en rfl (en rfl (en rfl s0)))))))))
    have s3 := (hg 3).trans (en rfl (en rfl (en rfl (en rfl (en rfl (en rfl (en rfl (en rfl (en rfl s3)))))))))
    have s4 := (hg 4).trans (en rfl (en rfl (en rfl (en rfl (en rfl (en rfl (en rfl (en rfl (en rfl s4)))))))))
    have s5 := (hg 5).trans (en rfl (en rfl (en rfl (en rfl (en rfl (en rfl (en rfl (en rfl (en rfl s5)))))))))
    have s12 := (hg 12).trans es
    have s15 := (hg 15).trans (en rfl (en rfl (en rfl (en rfl (en rfl (en rfl (en rfl (en rfl (en rfl s15)))))))))
    have s23 := (hg 23).trans (en rfl (en rfl (en rfl (en rfl (en rfl (en rfl (en rfl (en rfl (en rfl s23)))))))))
    have s26 := (hg 26).trans (en rfl (en rfl (en rfl (en rfl (en rfl (en rfl (en rfl (en rfl (en rfl s26)))))))))
    have s27 := (hg 27).trans (en rfl (en rfl (en rfl (en rfl (en rfl (en rfl (en rfl (en rfl (en rfl s27)))))))))
    have s28 := (hg 28).trans (en rfl (en rfl (en rfl (en rfl (en rfl (en rfl (en rfl (en rfl (en rfl s28)))))))))
    clear hg
    refine xc_seq (fun K hK20 => ?_)
    refine xc_plan 15 [(0, 2), (1, 2), (2, 2), (3, 1), (4, 1), (7, 1), (5, 0), (6, 0), (8, 0), (9, 2), (10, 2), (11, 2), (12, 0), (13, 2), (14, 2)] (by kernel_rfl) rfl (by kernel_rfl) h ?_
    have h := h.drew
    refine xp_read (i := 0) rfl (fun W => r_move s12) rfl (fun _ _ _ hh => by first | exact bodyR_np hh | exact hh) ?_
    refine xp_read (i := 1) rfl (fun W => r_not es rfl) rfl (fun _ _ _ hh => by first | exact bodyR_np hh | exact hh) ?_
    refine xp_read (i := 2) rfl (fun W => r_move es) rfl (fun _ _ _ hh => by first | exact bodyR_np hh | exact hh) ?_
    refine xp_loadG (i := 3) (d := 84) rfl rfl rfl es (fun W hW => r_loadAgg hW 0 rfl Try.isAgg26 Try.sizeOf26 (en rfl (en rfl (en rfl s3))) (Ok.le (by first | assumption | exact Ok.node (by assumption) | exact ChOk.ok (by assumption))) (ext_full (Ok.size (by first | assumption | exact Ok.node (by assumption) | exact ChOk.ok (by assumption))))) rfl (fun _ _ _ hh => by first | exact bodyR_np hh | exact hh) ?_
    refine xp_loadG (i := 4) (d := 84) rfl rfl rfl (en rfl es) (fun W hW => r_loadAgg hW 0 rfl Try.isAgg26 Try.sizeOf26 (en rfl (en rfl (en rfl (en rfl s3)))) (Ok.le (by first | assumption | exact Ok.node (by assumption) | exact ChOk.ok (by assumption))) (ext_full (Ok.size (by first | assumption | exact Ok.node (by assumption) | exact ChOk.ok (by assumption))))) rfl (fun _ _ _ hh => by first | exact bodyR_np hh | exact hh) ?_
    refine xp_loadG (i := 7) (d := 84) rfl rfl rfl (en rfl (en rfl es)) (fun W hW => r_loadAgg hW 0 rfl Try.isAgg26 Try.sizeOf26 (en rfl (en rfl (en rfl (en rfl (en rfl s3))))) (Ok.le (by first | assumption | exact Ok.node (by assumption) | exact ChOk.ok (by assumption))) (ext_full (Ok.size (by first | assumption | exact Ok.node (by assumption) | exact ChOk.ok (by assumption))))) rfl (fun _ _ _ hh => by first | exact bodyR_np hh | exact hh) ?_
    refine xp_enterG (i := 5) (e := 84) rfl rfl rfl (en rfl (en rfl (en rfl es))) (r_call Try.call18 (.cons (en rfl es) .nil)) rfl (len_ok ho h) ?_
    rintro _ w ⟨rfl, h⟩
    refine ⟨(fun _ => h), ?_⟩
    refine xp_enterG (i := 6) (e := 84) rfl rfl rfl (en rfl (en rfl (en rfl (en rfl es)))) (r_call Try.call17 (.cons (en rfl (en rfl (en rfl es))) (.cons es .nil))) rfl (ahead_nat ho h) ?_
    rintro _ w ⟨rfl, h⟩
    refine ⟨(fun _ => h), ?_⟩
    refine xp_enterG (i := 8) (e := 84) rfl rfl rfl (en rfl (en rfl (en rfl (en rfl (en rfl es))))) (r_call Try.call14 (.cons (en rfl (en rfl es)) .nil)) rfl (newlines_ok ho h) ?_
    rintro _ w ⟨rfl, h⟩
    refine ⟨(fun _ => h), ?_⟩
    refine xp_readG (i := 9) (d := 84) rfl rfl rfl (en rfl (en rfl (en rfl (en rfl (en rfl (en rfl es)))))) (fun W => r_eql (en rfl es) es (decide_eq_true (by simp))) rfl (fun _ _ _ hh => by first | exact bodyR_np hh | exact hh) ?_
    refine xp_read (i := 10) rfl (fun W => r_pick_t (en rfl (en rfl (en rfl (en rfl (en rfl (en rfl (en rfl es))))))) es) rfl (fun _ _ _ hh => by first | exact bodyR_np hh | exact hh) ?_
    refine xp_read (i := 11) rfl (fun W => r_move es) rfl (fun _ _ _ hh => by first | exact bodyR_np hh | exact hh) ?_
    refine xp_enterG (i := 12) (e := 93) rfl rfl rfl es (r_call Try.call9 .nil) rfl (known_ok h) ?_
    rintro _ w ⟨rfl, h⟩
    refine ⟨(fun _ => h), ?_⟩
    refine xp_read (i := 13) rfl (fun W => r_pick_t (en rfl es) es) rfl (fun _ _ _ hh => by first | exact bodyR_np hh | exact hh) ?_
    refine xp_read (i := 14) rfl (fun W => r_assign es) rfl (fun _ _ _ hh => by first | exact bodyR_np hh | exact hh) ?_
    refine xp_nil ?_
    refine hK20 _ _ ?_
    refine xc_gen (fun g hg => ?_)
    have s0 := (hg 0).trans (en rfl (en rfl (en rfl (en rfl (en rfl (en rfl (en rfl (en rfl (en rfl (en rfl (en rfl (en rfl (en rfl (en rfl (en rfl s0)))))))))))))))
    have s2 := (hg 2).trans es
    have s3 := (hg 3).trans (en rfl (en rfl (en rfl (en rfl (en rfl (en rfl (en rfl (en rfl (en rfl (en rfl (en rfl (en rfl (en rfl (en rfl (en rfl s3)))))))))))))))
    have s4 := (hg 4).trans (en rfl (en rfl (en rfl (en rfl (en rfl (en rfl (en rfl (en rfl (en rfl (en rfl (en rfl (en rfl (en rfl (en rfl (en rfl s4)))))))))))))))
    have s5 := (hg 5).trans (en rfl (en rfl (en rfl (en rfl (en rfl (en rfl (en rfl (en rfl (en rfl (en rfl (en rfl (en rfl (en rfl (en rfl (en rfl s5)))))))))))))))
    have s12 := (hg 12).trans (en rfl (en rfl (en rfl (en rfl (en rfl (en rfl (en rfl (en rfl (en rfl (en rfl (en rfl (en rfl (en rfl (en rfl (en rfl s12)))))))))))))))
    have s15 := (hg 15).trans (en rfl (en rfl (en rfl (en rfl (en rfl (en rfl (en rfl (en rfl (en rfl (en rfl (en rfl (en rfl (en rfl (en rfl (en rfl s15)))))))))))))))
    have s23 := (hg 23).trans (en rfl (en rfl (en rfl (en rfl (en rfl (en rfl (en rfl (en rfl (en rfl (en rfl (en rfl (en rfl (en rfl (en rfl (en rfl s23)))))))))))))))
    have s26 := (hg 26).trans (en rfl (en rfl (en rfl (en rfl (en rfl (en rfl (en rfl (en rfl (en rfl (en rfl (en rfl (en rfl (en rfl (en rfl (en rfl s26)))))))))))))))
    have s27 := (hg 27).trans (en rfl (en rfl (en rfl (en rfl (en rfl (en rfl (en rfl (en rfl (en rfl (en rfl (en rfl (en rfl (en rfl (en rfl (en rfl s27)))))))))))))))
    have s28 := (hg 28).trans (en rfl (en rfl (en rfl (en rfl (en rfl (en rfl (en rfl (en rfl (en rfl (en rfl (en rfl (en rfl (en rfl (en rfl (en rfl s28)))))))))))))))
    clear hg
    refine xc_ret ?_
    refine bodyR_1 rfl s2 ?_
    exact ⟨rfl, h.drop⟩
theorem lines_all (hv : Reads E R v .i32 zs) (h : SatL E w R) : Calls Try.prog 5 #[v] w (Ret fun u w' => u = .bool true ∧ SatL E w' R) := by
  by_cases h1 : 1000 < zs.length
  · exact lines_big hv h1 h
  by_cases ho : ChOk zs
  · exact lines_ok hv ho h
  · exact lines_not hv (by omega) ho h
end
end Go.Proofs.Ytimieinmphhmmaa
