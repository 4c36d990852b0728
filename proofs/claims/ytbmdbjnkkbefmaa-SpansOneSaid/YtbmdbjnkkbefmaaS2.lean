/-
Spans: Over, At, Count, All.
-/
import Derived.Test.YtbmdbjnkkbefmaaS1
namespace Go.Proofs.Ytbmdbjnkkbefmaa
open Go Go.RowKit
section
variable {E : Env} {R : List SProp} {w : World} {b bt ba B B' : Nat} {xs l : List X} {v : Value}
theorem collect_t {i j c1 c2 c3 : Nat} (hi : i ≤ 1000000000000) (hj : j ≤ 1000000000000) (hl : (overL xs i j).length ≤ 1000000000)
    (h : SatL E w (Cells c3 #[.int .i64 (j : Int)] 3 :: Cells c2 #[.int .i64 (i : Int)] 3 :: Cells c1 #[pT bt] 47 :: TreeB bt ba xs B :: R)) :
    Calls Try.prog 27 #[.func (.func 50) #[] #[.pointer (some ⟨c1, 0, none⟩), .pointer (some ⟨c2, 0, none⟩), .pointer (some ⟨c3, 0, none⟩)]] w (Ret fun u w' => SatL E w' (XRow u (overL xs i j) :: TreeB bt ba xs B :: R)) := by
  refine calls_x Try.func27 rfl Try.ntmps27 rfl ?_
  refine xc_gen (fun g hg => ?_)
  have s0 := (hg 0).trans arg0
  clear hg
  refine xc_seq (fun K hK1 => ?_)
  refine xc_region ?_
  refine x_val (r_assign ec) (nd_of rfl) rfl ?_
  refine xw_nil ?_
  refine hK1 _ _ ?_
  refine xc_gen (fun g hg => ?_)
  have s0 := (hg 0).trans (en rfl s0)
  have s2 := (hg 2).trans es
  clear hg
  refine xc_seq (fun K hK2 => ?_)
  refine xc_region ?_
  refine x_val (r_move s0) (nd_of rfl) rfl ?_
  refine x_enter (r_call Try.call49 (.cons ec (.cons es .nil))) (nd_of rfl) rfl (appendSeq_t hi hj hl h) ?_
  rintro _ w h
  refine x_val (r_assign es) (nd_of rfl) rfl ?_
  refine xw_nil ?_
  refine hK2 _ _ ?_
  refine xc_gen (fun g hg => ?_)
  have s0 := (hg 0).trans (en rfl (en rfl (en rfl s0)))
  have s2 := (hg 2).trans es
  clear hg
  refine xc_ret ?_
  refine bodyR_1 rfl s2 ?_
  exact h
theorem over_len : ∀ (l : List X) (i j : Nat), (overL l i j).length ≤ l.length
  | [], _, _ => Nat.le_refl _
  | x :: l, i, j => by
    have := over_len l (i - xS x) (j - xS x)
    simp only [overL, List.length_append, List.length_cons]
    have h1 : (oneL x i j).length ≤ 1 := by unfold oneL; split <;> simp
    omega
theorem over_o {i j : Nat} (hp : i ≤ j) (hj : j ≤ sz xs) (h : SatL E w (ObjO b xs B :: R)) : Calls Try.prog 11 #[pT b, .int .i64 (i : Int), .int .i64 (j : Int)] w (Ret fun u w' => ∃ v, u = .tuple #[v, .int .i64 0] ∧ SatL E w' (XRow v (overL xs i j) :: ObjO b xs B :: R)) := by
  have hbd := h.objFacts.2.1
  have hol := over_len xs i j
  have hb1 := hbd.1
  have hb2 := hbd.2.1
  have hpart : isPart (sz xs) i j := ⟨by omega, by omega, by omega⟩
  refine calls_x Try.func11 rfl Try.ntmps11 rfl ?_
  refine xc_gen (fun g hg => ?_)
  have s0 := (hg 0).trans arg0
  have s1 := (hg 1).trans arg1
  have s2 := (hg 2).trans arg2
  clear hg
  refine xc_seq (fun K hK1 => ?_)
  refine xc_region ?_
  refine x_val (r_assign ec) (nd_of rfl) rfl ?_
  refine x_val (r_assign ec) (nd_of rfl) rfl ?_
  refine xw_nil ?_
  refine hK1 _ _ ?_
  refine xc_gen (fun g hg => ?_)
  have s0 := (hg 0).trans (en rfl (en rfl s0))
  have s1 := (hg 1).trans (en rfl (en rfl s1))
  have s2 := (hg 2).trans (en rfl (en rfl s2))
  have s6 := (hg 6).trans (en rfl es)
  have s7 := (hg 7).trans es
  clear hg
  refine xc_seq (fun K hK2 => ?_)
  refine xc_seq (fun K hK3 => ?_)
  refine xc_region ?_
  refine x_val (r_move s0) (nd_of rfl) rfl ?_
  refine x_val (r_move (en rfl s1)) (nd_of rfl) rfl ?_
  refine x_val (r_move (en rfl (en rfl s2))) (nd_of rfl) rfl ?_
  refine x_enter (r_call Try.call24 (.cons (en rfl (en rfl es)) (.cons (en rfl es) (.cons es .nil)))) (nd_of rfl) rfl (between_o h) ?_
  rintro _ w ⟨rfl, h⟩
  refine x_val (r_assign es) (nd_of rfl) rfl ?_
  refine xw_nil ?_
  refine hK3 _ _ ?_
  refine xc_gen (fun g hg => ?_)
  have s0 := (hg 0).trans (en rfl (en rfl (en rfl (en rfl (en rfl s0)))))
  have s1 := (hg 1).trans (en rfl (en rfl (en rfl (en rfl (en rfl s1)))))
  have s2 := (hg 2).trans (en rfl (en rfl (en rfl (en rfl (en rfl s2)))))
  have s6 := (hg 6).trans (en rfl (en rfl (en rfl (en rfl (en rfl s6)))))
  have s7 := (hg 7).trans (en rfl (en rfl (en rfl (en rfl (en rfl s7)))))
  have s8 := (hg 8).trans es
  clear hg
  refine xc_seq (fun K hK4 => ?_)
  refine xc_region ?_
  refine x_val (r_move s8) (nd_of rfl) rfl ?_
  refine x_val (r_neq es ec (decide_eq_false (by rw [if_pos hpart]; decide))) (nd_of rfl) rfl ?_
  refine xw_nil ?_
  refine hK4 _ _ ?_
  refine xc_gen (fun g hg => ?_)
  have s0 := (hg 0).trans (en rfl (en rfl s0))
  have s1 := (hg 1).trans (en rfl (en rfl s1))
  have s2 := (hg 2).trans (en rfl (en rfl s2))
  have s6 := (hg 6).trans (en rfl (en rfl s6))
  have s7 := (hg 7).trans (en rfl (en rfl s7))
  have s8 := (hg 8).trans (en rfl (en rfl s8))
  have s14 := (hg 14).trans es
  clear hg
  refine xc_cond s14 (fun hc => by cases hc) (fun _ => ?_)
  refine xc_skip ?_
  refine hK2 _ _ ?_
  refine xc_seq (fun K hK5 => ?_)
  refine xc_region ?_
  refine x_val (r_move s0) (nd_of rfl) rfl ?_
  refine x_enter (r_call Try.call25 (.cons es .nil)) (nd_of rfl) rfl (tree_o h) ?_
  rintro _ w ⟨bt, ba, rfl, h⟩
  refine x_val (r_move (en rfl (en rfl s1))) (nd_of rfl) rfl ?_
  refine x_val (r_move (en rfl (en rfl (en rfl s2)))) (nd_of rfl) rfl ?_
  refine x_enter (r_call Try.call28 (.cons (en rfl (en rfl es)) (.cons (en rfl es) (.cons es .nil)))) (nd_of rfl) rfl (over_mk (i := i) (j := j) h) ?_
  rintro _ w ⟨c1, c2, c3, rfl, h⟩
  have h := h.f4
  refine x_enter (r_call Try.call27 (.cons es .nil)) (nd_of rfl) rfl (collect_t (i := i) (j := j) (by omega) (by omega) (by omega) (h.f3.f3.f3 |> fun h => h)) ?_
  rintro _ w h
  refine x_val (r_assign es) (nd_of rfl) rfl ?_
  refine x_val (r_assign ec) (nd_of rfl) rfl ?_
  refine xw_nil ?_
  refine hK5 _ _ ?_
  refine xc_gen (fun g hg => ?_)
  have s0 := (hg 0).trans (en rfl (en rfl (en rfl (en rfl (en rfl (en rfl (en rfl (en rfl s0))))))))
  have s1 := (hg 1).trans (en rfl (en rfl (en rfl (en rfl (en rfl (en rfl (en rfl (en rfl s1))))))))
  have s2 := (hg 2).trans (en rfl (en rfl (en rfl (en rfl (en rfl (en rfl (en rfl (en rfl s2))))))))
  have s6 := (hg 6).trans (en rfl es)
  have s7 := (hg 7).trans es
  have s8 := (hg 8).trans (en rfl (en rfl (en rfl (en rfl (en rfl (en rfl (en rfl (en rfl s8))))))))
  have s14 := (hg 14).trans (en rfl (en rfl (en rfl (en rfl (en rfl (en rfl (en rfl (en rfl s14))))))))
  clear hg
  refine xc_ret ?_
  refine bodyR_2 rfl s6 s7 ?_
  exact ⟨_, rfl, (SatL.closeObj (h.f1.f2)).f1⟩
theorem over_no {i j : Int} (hp : ¬ isPart (sz xs) i j) (h : SatL E w (ObjO b xs B :: R)) : Calls Try.prog 11 #[pT b, .int .i64 i, .int .i64 j] w (Ret fun u w' => u = .tuple #[.slice none 0 0, .int .i64 5] ∧ SatL E w' (ObjO b xs B :: R)) := by
  refine calls_x Try.func11 rfl Try.ntmps11 rfl ?_
  refine xc_gen (fun g hg => ?_)
  have s0 := (hg 0).trans arg0
  have s1 := (hg 1).trans arg1
  have s2 := (hg 2).trans arg2
  clear hg
  refine xc_seq (fun K hK1 => ?_)
  refine xc_region ?_
  refine x_val (r_assign ec) (nd_of rfl) rfl ?_
  refine x_val (r_assign ec) (nd_of rfl) rfl ?_
  refine xw_nil ?_
  refine hK1 _ _ ?_
  refine xc_gen (fun g hg => ?_)
  have s0 := (hg 0).trans (en rfl (en rfl s0))
  have s1 := (hg 1).trans (en rfl (en rfl s1))
  have s2 := (hg 2).trans (en rfl (en rfl s2))
  have s6 := (hg 6).trans (en rfl es)
  have s7 := (hg 7).trans es
  clear hg
  refine xc_seq (fun K hK2 => ?_)
  refine xc_seq (fun K hK3 => ?_)
  refine xc_region ?_
  refine x_val (r_move s0) (nd_of rfl) rfl ?_
  refine x_val (r_move (en rfl s1)) (nd_of rfl) rfl ?_
  refine x_val (r_move (en rfl (en rfl s2))) (nd_of rfl) rfl ?_
  refine x_enter (r_call Try.call24 (.cons (en rfl (en rfl es)) (.cons (en rfl es) (.cons es .nil)))) (nd_of rfl) rfl (between_o h) ?_
  rintro _ w ⟨rfl, h⟩
  refine x_val (r_assign es) (nd_of rfl) rfl ?_
  refine xw_nil ?_
  refine hK3 _ _ ?_
  refine xc_gen (fun g hg => ?_)
  have s0 := (hg 0).trans (en rfl (en rfl (en rfl (en rfl (en rfl s0)))))
  have s1 := (hg 1).trans (en rfl (en rfl (en rfl (en rfl (en rfl s1)))))
  have s2 := (hg 2).trans (en rfl (en rfl (en rfl (en rfl (en rfl s2)))))
  have s6 := (hg 6).trans (en rfl (en rfl (en rfl (en rfl (en rfl s6)))))
  have s7 := (hg 7).trans (en rfl (en rfl (en rfl (en rfl (en rfl s7)))))
  have s8 := (hg 8).trans es
  clear hg
  refine xc_seq (fun K hK4 => ?_)
  refine xc_region ?_
  refine x_val (r_move s8) (nd_of rfl) rfl ?_
  refine x_val (r_neq es ec (decide_eq_true (by rw [if_neg hp]; decide))) (nd_of rfl) rfl ?_
  refine xw_nil ?_
  refine hK4 _ _ ?_
  refine xc_gen (fun g hg => ?_)
  have s0 := (hg 0).trans (en rfl (en rfl s0))
  have s1 := (hg 1).trans (en rfl (en rfl s1))
  have s2 := (hg 2).trans (en rfl (en rfl s2))
  have s6 := (hg 6).trans (en rfl (en rfl s6))
  have s7 := (hg 7).trans (en rfl (en rfl s7))
  have s8 := (hg 8).trans (en rfl (en rfl s8))
  have s14 := (hg 14).trans es
  clear hg
  refine xc_cond s14 (fun _ => ?_) (fun hc => by cases hc)
  refine xc_seq (fun K hK5 => ?_)
  refine xc_region ?_
  refine x_val (r_move s8) (nd_of rfl) rfl ?_
  refine x_val (r_assign ec) (nd_of rfl) rfl ?_
  refine x_val (r_assign (en rfl es)) (nd_of rfl) rfl ?_
  refine xw_nil ?_
  refine hK5 _ _ ?_
  refine xc_gen (fun g hg => ?_)
  have s0 := (hg 0).trans (en rfl (en rfl (en rfl s0)))
  have s1 := (hg 1).trans (en rfl (en rfl (en rfl s1)))
  have s2 := (hg 2).trans (en rfl (en rfl (en rfl s2)))
  have s6 := (hg 6).trans (en rfl es)
  have s7 := (hg 7).trans es
  have s8 := (hg 8).trans (en rfl (en rfl (en rfl s8)))
  have s14 := (hg 14).trans (en rfl (en rfl (en rfl s14)))
  clear hg
  refine xc_ret ?_
  refine bodyR_2 rfl s6 s7 ?_
  exact ⟨by rw [if_neg hp], h⟩
theorem over_nil {i j : Int} (h : SatL E w R) : Calls Try.prog 11 #[.pointer none, .int .i64 i, .int .i64 j] w (Ret fun u w' => u = .tuple #[.slice none 0 0, .int .i64 1] ∧ SatL E w' R) := by
  refine calls_x Try.func11 rfl Try.ntmps11 rfl ?_
  refine xc_gen (fun g hg => ?_)
  have s0 := (hg 0).trans arg0
  have s1 := (hg 1).trans arg1
  have s2 := (hg 2).trans arg2
  clear hg
  refine xc_seq (fun K hK1 => ?_)
  refine xc_region ?_
  refine x_val (r_assign ec) (nd_of rfl) rfl ?_
  refine x_val (r_assign ec) (nd_of rfl) rfl ?_
  refine xw_nil ?_
  refine hK1 _ _ ?_
  refine xc_gen (fun g hg => ?_)
  have s0 := (hg 0).trans (en rfl (en rfl s0))
  have s1 := (hg 1).trans (en rfl (en rfl s1))
  have s2 := (hg 2).trans (en rfl (en rfl s2))
  have s6 := (hg 6).trans (en rfl es)
  have s7 := (hg 7).trans es
  clear hg
  refine xc_seq (fun K hK2 => ?_)
  refine xc_seq (fun K hK3 => ?_)
  refine xc_region ?_
  refine x_val (r_move s0) (nd_of rfl) rfl ?_
  refine x_val (r_move (en rfl s1)) (nd_of rfl) rfl ?_
  refine x_val (r_move (en rfl (en rfl s2))) (nd_of rfl) rfl ?_
  refine x_enter (r_call Try.call24 (.cons (en rfl (en rfl es)) (.cons (en rfl es) (.cons es .nil)))) (nd_of rfl) rfl (between_nil h) ?_
  rintro _ w ⟨rfl, h⟩
  refine x_val (r_assign es) (nd_of rfl) rfl ?_
  refine xw_nil ?_
  refine hK3 _ _ ?_
  refine xc_gen (fun g hg => ?_)
  have s0 := (hg 0).trans (en rfl (en rfl (en rfl (en rfl (en rfl s0)))))
  have s1 := (hg 1).trans (en rfl (en rfl (en rfl (en rfl (en rfl s1)))))
  have s2 := (hg 2).trans (en rfl (en rfl (en rfl (en rfl (en rfl s2)))))
  have s6 := (hg 6).trans (en rfl (en rfl (en rfl (en rfl (en rfl s6)))))
  have s7 := (hg 7).trans (en rfl (en rfl (en rfl (en rfl (en rfl s7)))))
  have s8 := (hg 8).trans es
  clear hg
  refine xc_seq (fun K hK4 => ?_)
  refine xc_region ?_
  refine x_val (r_move s8) (nd_of rfl) rfl ?_
  refine x_val (r_neq es ec (r := true) rfl) (nd_of rfl) rfl ?_
  refine xw_nil ?_
  refine hK4 _ _ ?_
  refine xc_gen (fun g hg => ?_)
  have s0 := (hg 0).trans (en rfl (en rfl s0))
  have s1 := (hg 1).trans (en rfl (en rfl s1))
  have s2 := (hg 2).trans (en rfl (en rfl s2))
  have s6 := (hg 6).trans (en rfl (en rfl s6))
  have s7 := (hg 7).trans (en rfl (en rfl s7))
  have s8 := (hg 8).trans (en rfl (en rfl s8))
  have s14 := (hg 14).trans es
  clear hg
  refine xc_cond s14 (fun _ => ?_) (fun hc => by cases hc)
  refine xc_seq (fun K hK5 => ?_)
  refine xc_region ?_
  refine x_val (r_move s8) (nd_of rfl) rfl ?_
  refine x_val (r_assign ec) (nd_of rfl) rfl ?_
  refine x_val (r_assign (en rfl es)) (nd_of rfl) rfl ?_
  refine xw_nil ?_
  refine hK5 _ _ ?_
  refine xc_gen (fun g hg => ?_)
  have s0 := (hg 0).trans (en rfl (en rfl (en rfl s0)))
  have s1 := (hg 1).trans (en rfl (en rfl (en rfl s1)))
  have s2 := (hg 2).trans (en rfl (en rfl (en rfl s2)))
  have s6 := (hg 6).trans (en rfl es)
  have s7 := (hg 7).trans es
  have s8 := (hg 8).trans (en rfl (en rfl (en rfl s8)))
  have s14 := (hg 14).trans (en rfl (en rfl (en rfl s14)))
  clear hg
  refine xc_ret ?_
  refine bodyR_2 rfl s6 s7 ?_
  exact ⟨rfl, h⟩
def atV (xs : List X) (i : Int) : Value := if i < 0 then .tuple #[.int .i64 0, .int .i64 5] else match findL xs i.toNat with
  | none => .tuple #[.int .i64 0, .int .i64 5]
  | some (x, _) => .tuple #[.int .i64 x.2, .int .i64 0]
theorem sat_o {i : Int} (hi : I64 i) (h : SatL E w (ObjO b xs B :: R)) : Calls Try.prog 12 #[pT b, .int .i64 i] w (Ret fun u w' => u = atV xs i ∧ SatL E w' (ObjO b xs B :: R)) := by
  unfold atV
  rcases Int.lt_or_le i 0 with h0 | h0
  · rw [if_pos h0]
    have hz0 := zOk
    refine calls_x Try.func12 rfl Try.ntmps12 rfl ?_
    refine xc_gen (fun g hg => ?_)
    have s0 := (hg 0).trans arg0
    have s1 := (hg 1).trans arg1
    clear hg
    refine xc_seq (fun K hK1 => ?_)
    refine xc_region ?_
    refine x_val (r_assign ec) (nd_of rfl) rfl ?_
    refine x_val (r_assign ec) (nd_of rfl) rfl ?_
    refine xw_nil ?_
    refine hK1 _ _ ?_
    refine xc_gen (fun g hg => ?_)
    have s0 := (hg 0).trans (en rfl (en rfl s0))
    have s1 := (hg 1).trans (en rfl (en rfl s1))
    have s4 := (hg 4).trans (en rfl es)
    have s5 := (hg 5).trans es
    clear hg
    refine xc_seq (fun K hK2 => ?_)
    refine xc_seq (fun K hK3 => ?_)
    refine xc_region ?_
    refine x_val (r_move s0) (nd_of rfl) rfl ?_
    refine x_val (r_eqnil Try.underlying23 es ec (r := false) rfl) (nd_of rfl) rfl ?_
    refine xw_nil ?_
    refine hK3 _ _ ?_
    refine xc_gen (fun g hg => ?_)
    have s0 := (hg 0).trans (en rfl (en rfl s0))
    have s1 := (hg 1).trans (en rfl (en rfl s1))
    have s4 := (hg 4).trans (en rfl (en rfl s4))
    have s5 := (hg 5).trans (en rfl (en rfl s5))
    have s10 := (hg 10).trans es
    clear hg
    refine xc_cond s10 (fun hc => by cases hc) (fun _ => ?_)
    refine xc_skip ?_
    refine hK2 _ _ ?_
    refine xc_seq (fun K hK4 => ?_)
    refine xc_region ?_
    refine x_val (r_move s0) (nd_of rfl) rfl ?_
    refine x_enter (r_call Try.call25 (.cons es .nil)) (nd_of rfl) rfl (tree_o h) ?_
    rintro _ w ⟨bt, ba, rfl, h⟩
    refine x_val (r_move (en rfl (en rfl s1))) (nd_of rfl) rfl ?_
    have h := h.f1
    refine x_enter (r_call Try.call29 (.cons (en rfl es) (.cons es .nil))) (nd_of rfl) rfl (find_neg h0 h) ?_
    rintro _ w ⟨rfl, h⟩
    refine x_val (r_move es) (nd_of rfl) rfl ?_
    refine x_val (r_extract es gc0) (nd_of rfl) rfl ?_
    refine x_val (r_extract (en rfl es) gc1) (nd_of rfl) rfl ?_
    refine x_val (r_extract (en rfl (en rfl es)) gc2) (nd_of rfl) rfl ?_
    refine x_declA h Try.zeroValue34 Try.sizeOf34 rfl (en rfl (en rfl (en rfl es))) (by first | assumption | exact Ok.node (by assumption) | exact xOk.cells (by assumption) | exact ChOk.ok (by assumption)) rfl ?_
    intro b6 w h
    refine x_val (r_assign (en rfl (en rfl es))) (nd_of rfl) rfl ?_
    refine x_val (r_assign (en rfl (en rfl es))) (nd_of rfl) rfl ?_
    refine xw_nil ?_
    refine hK4 _ _ ?_
    refine xc_gen (fun g hg => ?_)
    have s0 := (hg 0).trans (en rfl (en rfl (en rfl (en rfl (en rfl (en rfl (en rfl (en rfl (en rfl (en rfl (en rfl s0)))))))))))
    have s1 := (hg 1).trans (en rfl (en rfl (en rfl (en rfl (en rfl (en rfl (en rfl (en rfl (en rfl (en rfl (en rfl s1)))))))))))
    have s4 := (hg 4).trans (en rfl (en rfl (en rfl (en rfl (en rfl (en rfl (en rfl (en rfl (en rfl (en rfl (en rfl s4)))))))))))
    have s5 := (hg 5).trans (en rfl (en rfl (en rfl (en rfl (en rfl (en rfl (en rfl (en rfl (en rfl (en rfl (en rfl s5)))))))))))
    have s6 := (hg 6).trans (en rfl (en rfl es))
    have s8 := (hg 8).trans es
    have s10 := (hg 10).trans (en rfl (en rfl (en rfl (en rfl (en rfl (en rfl (en rfl (en rfl (en rfl (en rfl (en rfl s10)))))))))))
    clear hg
    refine xc_seq (fun K hK5 => ?_)
    refine xc_seq (fun K hK6 => ?_)
    refine xc_region ?_
    refine x_val (r_move s8) (nd_of rfl) rfl ?_
    refine x_val (r_not es rfl) (nd_of rfl) rfl ?_
    refine xw_nil ?_
    refine hK6 _ _ ?_
    refine xc_gen (fun g hg => ?_)
    have s0 := (hg 0).trans (en rfl (en rfl s0))
    have s1 := (hg 1).trans (en rfl (en rfl s1))
    have s4 := (hg 4).trans (en rfl (en rfl s4))
    have s5 := (hg 5).trans (en rfl (en rfl s5))
    have s6 := (hg 6).trans (en rfl (en rfl s6))
    have s8 := (hg 8).trans (en rfl (en rfl s8))
    have s10 := (hg 10).trans (en rfl (en rfl s10))
    have s20 := (hg 20).trans es
    clear hg
    refine xc_cond s20 (fun _ => ?_) (fun hc => by cases hc)
    refine xc_seq (fun K hK7 => ?_)
    refine xc_region ?_
    refine x_val (r_assign ec) (nd_of rfl) rfl ?_
    refine x_val (r_assign ec) (nd_of rfl) rfl ?_
    refine xw_nil ?_
    refine hK7 _ _ ?_
    refine xc_gen (fun g hg => ?_)
    have s0 := (hg 0).trans (en rfl (en rfl s0))
    have s1 := (hg 1).trans (en rfl (en rfl s1))
    have s4 := (hg 4).trans (en rfl es)
    have s5 := (hg 5).trans es
    have s6 := (hg 6).trans (en rfl (en rfl s6))
    have s8 := (hg 8).trans (en rfl (en rfl s8))
    have s10 := (hg 10).trans (en rfl (en rfl s10))
    have s20 := (hg 20).trans (en rfl (en rfl s20))
    clear hg
    refine xc_ret ?_
    refine bodyR_2 rfl s4 s5 ?_
    exact ⟨rfl, SatL.closeObj (h.drop.f1)⟩
  · rw [if_neg (by omega)]
    obtain ⟨n, rfl⟩ := Int.eq_ofNat_of_zero_le h0
    have hi2 := hi.2
    have hz0 := zOk
    rw [show ((n : Nat) : Int).toNat = n from rfl]
    obtain ⟨o, ho⟩ : ∃ o, findL xs n = o := ⟨_, rfl⟩
    rw [ho]
    match o with
    | none =>
      refine calls_x Try.func12 rfl Try.ntmps12 rfl ?_
      refine xc_gen (fun g hg => ?_)
      have s0 := (hg 0).trans arg0
      have s1 := (hg 1).trans arg1
      clear hg
      refine xc_seq (fun K hK1 => ?_)
      refine xc_region ?_
      refine x_val (r_assign ec) (nd_of rfl) rfl ?_
      refine x_val (r_assign ec) (nd_of rfl) rfl ?_
      refine xw_nil ?_
      refine hK1 _ _ ?_
      refine xc_gen (fun g hg => ?_)
      have s0 := (hg 0).trans (en rfl (en rfl s0))
      have s1 := (hg 1).trans (en rfl (en rfl s1))
      have s4 := (hg 4).trans (en rfl es)
      have s5 := (hg 5).trans es
      clear hg
      refine xc_seq (fun K hK2 => ?_)
      refine xc_seq (fun K hK3 => ?_)
      refine xc_region ?_
      refine x_val (r_move s0) (nd_of rfl) rfl ?_
      refine x_val (r_eqnil Try.underlying23 es ec (r := false) rfl) (nd_of rfl) rfl ?_
      refine xw_nil ?_
      refine hK3 _ _ ?_
      refine xc_gen (fun g hg => ?_)
      have s0 := (hg 0).trans (en rfl (en rfl s0))
      have s1 := (hg 1).trans (en rfl (en rfl s1))
      have s4 := (hg 4).trans (en rfl (en rfl s4))
      have s5 := (hg 5).trans (en rfl (en rfl s5))
      have s10 := (hg 10).trans es
      clear hg
      refine xc_cond s10 (fun hc => by cases hc) (fun _ => ?_)
      refine xc_skip ?_
      refine hK2 _ _ ?_
      refine xc_seq (fun K hK4 => ?_)
      refine xc_region ?_
      refine x_val (r_move s0) (nd_of rfl) rfl ?_
      refine x_enter (r_call Try.call25 (.cons es .nil)) (nd_of rfl) rfl (tree_o h) ?_
      rintro _ w ⟨bt, ba, rfl, h⟩
      refine x_val (r_move (en rfl (en rfl s1))) (nd_of rfl) rfl ?_
      have h := h.f1
      refine x_enter (r_call Try.call29 (.cons (en rfl es) (.cons es .nil))) (nd_of rfl) rfl (find_none ho (by omega) h) ?_
      rintro _ w ⟨rfl, h⟩
      refine x_val (r_move es) (nd_of rfl) rfl ?_
      refine x_val (r_extract es gc0) (nd_of rfl) rfl ?_
      refine x_val (r_extract (en rfl es) gc1) (nd_of rfl) rfl ?_
      refine x_val (r_extract (en rfl (en rfl es)) gc2) (nd_of rfl) rfl ?_
      refine x_declA h Try.zeroValue34 Try.sizeOf34 rfl (en rfl (en rfl (en rfl es))) (by first | assumption | exact Ok.node (by assumption) | exact xOk.cells (by assumption) | exact ChOk.ok (by assumption)) rfl ?_
      intro b6 w h
      refine x_val (r_assign (en rfl (en rfl es))) (nd_of rfl) rfl ?_
      refine x_val (r_assign (en rfl (en rfl es))) (nd_of rfl) rfl ?_
      refine xw_nil ?_
      refine hK4 _ _ ?_
      refine xc_gen (fun g hg => ?_)
      have s0 := (hg 0).trans (en rfl (en rfl (en rfl (en rfl (en rfl (en rfl (en rfl (en rfl (en rfl (en rfl (en rfl s0)))))))))))
      have s1 := (hg 1).trans (en rfl (en rfl (en rfl (en rfl (en rfl (en rfl (en rfl (en rfl (en rfl (en rfl (en rfl s1)))))))))))
      have s4 := (hg 4).trans (en rfl (en rfl (en rfl (en rfl (en rfl (en rfl (en rfl (en rfl (en rfl (en rfl (en rfl s4)))))))))))
      have s5 := (hg 5).trans (en rfl (en rfl (en rfl (en rfl (en rfl (en rfl (en rfl (en rfl (en rfl (en rfl (en rfl s5)))))))))))
      have s6 := (hg 6).trans (en rfl (en rfl es))
      have s8 := (hg 8).trans es
      have s10 := (hg 10).trans (en rfl (en rfl (en rfl (en rfl (en rfl (en rfl (en rfl (en rfl (en rfl (en rfl (en rfl s10)))))))))))
      clear hg
      refine xc_seq (fun K hK5 => ?_)
      refine xc_seq (fun K hK6 => ?_)
      refine xc_region ?_
      refine x_val (r_move s8) (nd_of rfl) rfl ?_
      refine x_val (r_not es rfl) (nd_of rfl) rfl ?_
      refine xw_nil ?_
      refine hK6 _ _ ?_
      refine xc_gen (fun g hg => ?_)
      have s0 := (hg 0).trans (en rfl (en rfl s0))
      have s1 := (hg 1).trans (en rfl (en rfl s1))
      have s4 := (hg 4).trans (en rfl (en rfl s4))
      have s5 := (hg 5).trans (en rfl (en rfl s5))
      have s6 := (hg 6).trans (en rfl (en rfl s6))
      have s8 := (hg 8).trans (en rfl (en rfl s8))
      have s10 := (hg 10).trans (en rfl (en rfl s10))
      have s20 := (hg 20).trans es
      clear hg
      refine xc_cond s20 (fun _ => ?_) (fun hc => by cases hc)
      refine xc_seq (fun K hK7 => ?_)
      refine xc_region ?_
      refine x_val (r_assign ec) (nd_of rfl) rfl ?_
      refine x_val (r_assign ec) (nd_of rfl) rfl ?_
      refine xw_nil ?_
      refine hK7 _ _ ?_
      refine xc_gen (fun g hg => ?_)
      have s0 := (hg 0).trans (en rfl (en rfl s0))
      have s1 := (hg 1).trans (en rfl (en rfl s1))
      have s4 := (hg 4).trans (en rfl es)
      have s5 := (hg 5).trans es
      have s6 := (hg 6).trans (en rfl (en rfl s6))
      have s8 := (hg 8).trans (en rfl (en rfl s8))
      have s10 := (hg 10).trans (en rfl (en rfl s10))
      have s20 := (hg 20).trans (en rfl (en rfl s20))
      clear hg
      refine xc_ret ?_
      refine bodyR_2 rfl s4 s5 ?_
      exact ⟨rfl, SatL.closeObj (h.drop.f1)⟩
    | some (x, k) =>
      have hox : Ok 2 (xC x) := ⟨rfl, by simp [xC, Value.oneCell']⟩
      refine calls_x Try.func12 rfl Try.ntmps12 rfl ?_
      refine xc_gen (fun g hg => ?_)
      have s0 := (hg 0).trans arg0
      have s1 := (hg 1).trans arg1
      clear hg
      refine xc_seq (fun K hK1 => ?_)
      refine xc_region ?_
      refine x_val (r_assign ec) (nd_of rfl) rfl ?_
      refine x_val (r_assign ec) (nd_of rfl) rfl ?_
      refine xw_nil ?_
      refine hK1 _ _ ?_
      refine xc_gen (fun g hg => ?_)
      have s0 := (hg 0).trans (en rfl (en rfl s0))
      have s1 := (hg 1).trans (en rfl (en rfl s1))
      have s4 := (hg 4).trans (en rfl es)
      have s5 := (hg 5).trans es
      clear hg
      refine xc_seq (fun K hK2 => ?_)
      refine xc_seq (fun K hK3 => ?_)
      refine xc_region ?_
      refine x_val (r_move s0) (nd_of rfl) rfl ?_
      refine x_val (r_eqnil Try.underlying23 es ec (r := false) rfl) (nd_of rfl) rfl ?_
      refine xw_nil ?_
      refine hK3 _ _ ?_
      refine xc_gen (fun g hg => ?_)
      have s0 := (hg 0).trans (en rfl (en rfl s0))
      have s1 := (hg 1).trans (en rfl (en rfl s1))
      have s4 := (hg 4).trans (en rfl (en rfl s4))
      have s5 := (hg 5).trans (en rfl (en rfl s5))
      have s10 := (hg 10).trans es
      clear hg
      refine xc_cond s10 (fun hc => by cases hc) (fun _ => ?_)
      refine xc_skip ?_
      refine hK2 _ _ ?_
      refine xc_seq (fun K hK4 => ?_)
      refine xc_region ?_
      refine x_val (r_move s0) (nd_of rfl) rfl ?_
      refine x_enter (r_call Try.call25 (.cons es .nil)) (nd_of rfl) rfl (tree_o h) ?_
      rintro _ w ⟨bt, ba, rfl, h⟩
      refine x_val (r_move (en rfl (en rfl s1))) (nd_of rfl) rfl ?_
      have h := h.f1
      refine x_enter (r_call Try.call29 (.cons (en rfl es) (.cons es .nil))) (nd_of rfl) rfl (find_some ho (by omega) h) ?_
      rintro _ w ⟨rfl, h⟩
      refine x_val (r_move es) (nd_of rfl) rfl ?_
      refine x_val (r_extract es gc0) (nd_of rfl) rfl ?_
      refine x_val (r_extract (en rfl es) gc1) (nd_of rfl) rfl ?_
      refine x_val (r_extract (en rfl (en rfl es)) gc2) (nd_of rfl) rfl ?_
      refine x_declA h Try.zeroValue34 Try.sizeOf34 rfl (en rfl (en rfl (en rfl es))) (by first | assumption | exact Ok.node (by assumption) | exact xOk.cells (by assumption) | exact ChOk.ok (by assumption)) rfl ?_
      intro b6 w h
      refine x_val (r_assign (en rfl (en rfl es))) (nd_of rfl) rfl ?_
      refine x_val (r_assign (en rfl (en rfl es))) (nd_of rfl) rfl ?_
      refine xw_nil ?_
      refine hK4 _ _ ?_
      refine xc_gen (fun g hg => ?_)
      have s0 := (hg 0).trans (en rfl (en rfl (en rfl (en rfl (en rfl (en rfl (en rfl (en rfl (en rfl (en rfl (en rfl s0)))))))))))
      have s1 := (hg 1).trans (en rfl (en rfl (en rfl (en rfl (en rfl (en rfl (en rfl (en rfl (en rfl (en rfl (en rfl s1)))))))))))
      have s4 := (hg 4).trans (en rfl (en rfl (en rfl (en rfl (en rfl (en rfl (en rfl (en rfl (en rfl (en rfl (en rfl s4)))))))))))
      have s5 := (hg 5).trans (en rfl (en rfl (en rfl (en rfl (en rfl (en rfl (en rfl (en rfl (en rfl (en rfl (en rfl s5)))))))))))
      have s6 := (hg 6).trans (en rfl (en rfl es))
      have s8 := (hg 8).trans es
      have s10 := (hg 10).trans (en rfl (en rfl (en rfl (en rfl (en rfl (en rfl (en rfl (en rfl (en rfl (en rfl (en rfl s10)))))))))))
      clear hg
      refine xc_seq (fun K hK5 => ?_)
      refine xc_seq (fun K hK6 => ?_)
      refine xc_region ?_
      refine x_val (r_move s8) (nd_of rfl) rfl ?_
      refine x_val (r_not es rfl) (nd_of rfl) rfl ?_
      refine xw_nil ?_
      refine hK6 _ _ ?_
      refine xc_gen (fun g hg => ?_)
      have s0 := (hg 0).trans (en rfl (en rfl s0))
      have s1 := (hg 1).trans (en rfl (en rfl s1))
      have s4 := (hg 4).trans (en rfl (en rfl s4))
      have s5 := (hg 5).trans (en rfl (en rfl s5))
      have s6 := (hg 6).trans (en rfl (en rfl s6))
      have s8 := (hg 8).trans (en rfl (en rfl s8))
      have s10 := (hg 10).trans (en rfl (en rfl s10))
      have s20 := (hg 20).trans es
      clear hg
      refine xc_cond s20 (fun hc => by cases hc) (fun _ => ?_)
      refine xc_skip ?_
      refine hK5 _ _ ?_
      refine xc_seq (fun K hK7 => ?_)
      have h : SatL E w (Cells b6 #[.int .i64 (x.1 : Int), .int .i64 x.2] 34 :: _) := h
      refine xc_region ?_
      refine x_val (r_fieldAddr (o' := 1) Try.underlying34 rfl Try.sizeOf3 rfl s6 rfl) (nd_of rfl) rfl ?_
      refine x_val (r_load h 0 rfl Try.isAgg3 es gc1) (nd_of rfl) rfl ?_
      refine x_val (r_assign es) (nd_of rfl) rfl ?_
      refine x_val (r_assign ec) (nd_of rfl) rfl ?_
      refine xw_nil ?_
      refine hK7 _ _ ?_
      refine xc_gen (fun g hg => ?_)
      have s0 := (hg 0).trans (en rfl (en rfl (en rfl (en rfl s0))))
      have s1 := (hg 1).trans (en rfl (en rfl (en rfl (en rfl s1))))
      have s4 := (hg 4).trans (en rfl es)
      have s5 := (hg 5).trans es
      have s6 := (hg 6).trans (en rfl (en rfl (en rfl (en rfl s6))))
      have s8 := (hg 8).trans (en rfl (en rfl (en rfl (en rfl s8))))
      have s10 := (hg 10).trans (en rfl (en rfl (en rfl (en rfl s10))))
      have s20 := (hg 20).trans (en rfl (en rfl (en rfl (en rfl s20))))
      clear hg
      refine xc_ret ?_
      refine bodyR_2 rfl s4 s5 ?_
      exact ⟨rfl, SatL.closeObj (h.drop.f1)⟩
theorem at_nil {i : Int} (h : SatL E w R) : Calls Try.prog 12 #[.pointer none, .int .i64 i] w (Ret fun u w' => u = .tuple #[.int .i64 0, .int .i64 1] ∧ SatL E w' R) := by
  refine calls_x Try.func12 rfl Try.ntmps12 rfl ?_
  refine xc_gen (fun g hg => ?_)
  have s0 := (hg 0).trans arg0
  have s1 := (hg 1).trans arg1
  clear hg
  refine xc_seq (fun K hK1 => ?_)
  refine xc_region ?_
  refine x_val (r_assign ec) (nd_of rfl) rfl ?_
  refine x_val (r_assign ec) (nd_of rfl) rfl ?_
  refine xw_nil ?_
  refine hK1 _ _ ?_
  refine xc_gen (fun g hg => ?_)
  have s0 := (hg 0).trans (en rfl (en rfl s0))
  have s1 := (hg 1).trans (en rfl (en rfl s1))
  have s4 := (hg 4).trans (en rfl es)
  have s5 := (hg 5).trans es
  clear hg
  refine xc_seq (fun K hK2 => ?_)
  refine xc_seq (fun K hK3 => ?_)
  refine xc_region ?_
  refine x_val (r_move s0) (nd_of rfl) rfl ?_
  refine x_val (r_eqnil Try.underlying23 es ec (r := true) rfl) (nd_of rfl) rfl ?_
  refine xw_nil ?_
  refine hK3 _ _ ?_
  refine xc_gen (fun g hg => ?_)
  have s0 := (hg 0).trans (en rfl (en rfl s0))
  have s1 := (hg 1).trans (en rfl (en rfl s1))
  have s4 := (hg 4).trans (en rfl (en rfl s4))
  have s5 := (hg 5).trans (en rfl (en rfl s5))
  have s10 := (hg 10).trans es
  clear hg
  refine xc_cond s10 (fun _ => ?_) (fun hc => by cases hc)
  refine xc_seq (fun K hK4 => ?_)
  refine xc_region ?_
  refine x_val (r_assign ec) (nd_of rfl) rfl ?_
  refine x_val (r_assign ec) (nd_of rfl) rfl ?_
  refine xw_nil ?_
  refine hK4 _ _ ?_
  refine xc_gen (fun g hg => ?_)
  have s0 := (hg 0).trans (en rfl (en rfl s0))
  have s1 := (hg 1).trans (en rfl (en rfl s1))
  have s4 := (hg 4).trans (en rfl es)
  have s5 := (hg 5).trans es
  have s10 := (hg 10).trans (en rfl (en rfl s10))
  clear hg
  refine xc_ret ?_
  refine bodyR_2 rfl s4 s5 ?_
  exact ⟨rfl, h⟩
theorem count_o (hB : B ≤ 1000000000) (h : SatL E w (ObjO b xs B :: R)) : Calls Try.prog 18 #[pT b] w (Ret fun v w' => v = .int .i64 (xs.length : Int) ∧ SatL E w' (ObjO b xs B :: R)) := by
  refine calls_x Try.func18 rfl Try.ntmps18 rfl ?_
  refine xc_gen (fun g hg => ?_)
  have s0 := (hg 0).trans arg0
  clear hg
  refine xc_seq (fun K hK1 => ?_)
  refine xc_region ?_
  refine x_val (r_assign ec) (nd_of rfl) rfl ?_
  refine xw_nil ?_
  refine hK1 _ _ ?_
  refine xc_gen (fun g hg => ?_)
  have s0 := (hg 0).trans (en rfl s0)
  have s2 := (hg 2).trans es
  clear hg
  refine xc_seq (fun K hK2 => ?_)
  refine xc_seq (fun K hK3 => ?_)
  refine xc_region ?_
  refine x_val (r_move s0) (nd_of rfl) rfl ?_
  refine x_val (r_eqnil Try.underlying23 es ec (r := false) rfl) (nd_of rfl) rfl ?_
  refine xw_nil ?_
  refine hK3 _ _ ?_
  refine xc_gen (fun g hg => ?_)
  have s0 := (hg 0).trans (en rfl (en rfl s0))
  have s2 := (hg 2).trans (en rfl (en rfl s2))
  have s4 := (hg 4).trans es
  clear hg
  refine xc_cond s4 (fun hc => by cases hc) (fun _ => ?_)
  refine xc_skip ?_
  refine hK2 _ _ ?_
  refine xc_seq (fun K hK4 => ?_)
  refine xc_region ?_
  refine x_val (r_move s0) (nd_of rfl) rfl ?_
  refine x_enter (r_call Try.call25 (.cons es .nil)) (nd_of rfl) rfl (tree_o h) ?_
  rintro _ w ⟨bt, ba, rfl, h⟩
  have h := h.f1
  refine x_enter (r_call Try.call32 (.cons es .nil)) (nd_of rfl) rfl (count_t hB h) ?_
  rintro _ w ⟨rfl, h⟩
  refine x_val (r_assign es) (nd_of rfl) rfl ?_
  refine xw_nil ?_
  refine hK4 _ _ ?_
  refine xc_gen (fun g hg => ?_)
  have s0 := (hg 0).trans (en rfl (en rfl (en rfl (en rfl s0))))
  have s2 := (hg 2).trans es
  have s4 := (hg 4).trans (en rfl (en rfl (en rfl (en rfl s4))))
  clear hg
  refine xc_ret ?_
  refine bodyR_1 rfl s2 ?_
  exact ⟨rfl, SatL.closeObj h.f1⟩
theorem count_nil (h : SatL E w R) : Calls Try.prog 18 #[.pointer none] w (Ret fun v w' => v = .int .i64 0 ∧ SatL E w' R) := by
  refine calls_x Try.func18 rfl Try.ntmps18 rfl ?_
  refine xc_gen (fun g hg => ?_)
  have s0 := (hg 0).trans arg0
  clear hg
  refine xc_seq (fun K hK1 => ?_)
  refine xc_region ?_
  refine x_val (r_assign ec) (nd_of rfl) rfl ?_
  refine xw_nil ?_
  refine hK1 _ _ ?_
  refine xc_gen (fun g hg => ?_)
  have s0 := (hg 0).trans (en rfl s0)
  have s2 := (hg 2).trans es
  clear hg
  refine xc_seq (fun K hK2 => ?_)
  refine xc_seq (fun K hK3 => ?_)
  refine xc_region ?_
  refine x_val (r_move s0) (nd_of rfl) rfl ?_
  refine x_val (r_eqnil Try.underlying23 es ec (r := true) rfl) (nd_of rfl) rfl ?_
  refine xw_nil ?_
  refine hK3 _ _ ?_
  refine xc_gen (fun g hg => ?_)
  have s0 := (hg 0).trans (en rfl (en rfl s0))
  have s2 := (hg 2).trans (en rfl (en rfl s2))
  have s4 := (hg 4).trans es
  clear hg
  refine xc_cond s4 (fun _ => ?_) (fun hc => by cases hc)
  refine xc_seq (fun K hK4 => ?_)
  refine xc_region ?_
  refine x_val (r_assign ec) (nd_of rfl) rfl ?_
  refine xw_nil ?_
  refine hK4 _ _ ?_
  refine xc_gen (fun g hg => ?_)
  have s0 := (hg 0).trans (en rfl s0)
  have s2 := (hg 2).trans es
  have s4 := (hg 4).trans (en rfl s4)
  clear hg
  refine xc_ret ?_
  refine bodyR_1 rfl s2 ?_
  exact ⟨rfl, h⟩
end
end Go.Proofs.Ytbmdbjnkkbefmaa
