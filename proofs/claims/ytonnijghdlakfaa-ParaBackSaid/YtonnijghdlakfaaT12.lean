/-
The parts of a tree's things that stand from one place to another, told one by one.
-/
import Derived.Test.YtonnijghdlakfaaT11
namespace Go.Proofs.Ytonnijghdlakfaa
open Go Go.RowKit
/-- the part of a thing from i to j -/
def partX (x : X) (i j : Nat) : X := if 0 < i then (xCut (if j < xS x then (xCut x j).1 else x) i).2 else (if j < xS x then (xCut x j).1 else x)
def oneL (x : X) (i j : Nat) : List X := if i < min j (xS x) then [partX x i (min j (xS x))] else []
def overL : List X → Nat → Nat → List X
  | [], _, _ => []
  | x :: l, i, j => oneL x i j ++ overL l (i - xS x) (j - xS x)
theorem over_none : ∀ (l : List X) (i j : Nat), j ≤ i → overL l i j = []
  | [], _, _, _ => rfl
  | x :: l, i, j, h => by
    simp only [overL]
    rw [over_none l _ _ (by omega), oneL, if_neg (by omega)]; rfl
theorem over_app : ∀ (a c : List X) (i j : Nat), overL (a ++ c) i j = overL a i (min j (sz a)) ++ overL c (i - sz a) (j - sz a)
  | [], c, i, j => by simp [overL, sz]
  | x :: a, c, i, j => by
    have e : sz (x :: a) = xS x + sz a := rfl
    simp only [List.cons_append, overL]
    rw [over_app a c (i - xS x) (j - xS x)]
    have e1 : min (j - xS x) (sz a) = min j (sz (x :: a)) - xS x := by rw [e]; omega
    have e2 : oneL x i j = oneL x i (min j (sz (x :: a))) := by
      unfold oneL
      rw [show min (min j (sz (x :: a))) (xS x) = min j (xS x) by rw [e]; omega]
    rw [e1, e2, e, Nat.sub_sub, Nat.sub_sub, List.append_assoc]
theorem over_node (a c : List X) (x : X) (i j : Nat) : overL (a ++ x :: c) i j = overL a i (min j (sz a)) ++ (oneL x (i - sz a) (j - sz a) ++ overL c (i - sz a - xS x) (j - sz a - xS x)) := by
  rw [over_app]; rfl
theorem arg2_eq {P : Program} {g : FuncId} {u : Value} {k : IntKind} {a b : Int} {w : World} {T : Ending → World → Prop} (e : a = b) (h : Calls P g #[u, .int k b] w T) : Calls P g #[u, .int k a] w T := e ▸ h
section
variable {E : Env} {bt ba : Nat} {ro : Int} {pl : Pl} {fr : List Nat} {y : Value} {total : List X} {IL : List X → List SProp}
theorem over_t (hY : ∀ (M : List SProp) (d : List X) (x : X) (r : List X) (w : World), total = d ++ x :: r → xOk x → SatL E w (M ++ IL d) → FnOk Try.prog y [xV x] w (fun u w' => u = .bool true ∧ SatL E w' (M ++ IL (d ++ [x])))) :
    ∀ (t : Tr) {M : List SProp} {w : World} {i j : Nat} {pre post : List X}, Has pl t → Bd t.xs → i ≤ 1000000000000 → j ≤ 1000000000000 → total = pre ++ (overL t.xs i j ++ post) → SatL E w (TC bt ba ro :: Ar ba pl fr :: (M ++ IL pre)) →
    Calls Try.prog 52 #[pT bt, .int .i64 t.root, .int .i64 (i : Int), .int .i64 (j : Int), y] w (Ret fun v w' => v = .bool true ∧ SatL E w' (TC bt ba ro :: Ar ba pl fr :: (M ++ IL (pre ++ overL t.xs i j)))) := by
  intro t
  induction t with
  | nil =>
    intro M w i j pre post _ _ _ _ _ h
    refine calls_x Try.func52 rfl Try.ntmps52 rfl ?_
    refine xc_gen (fun g hg => ?_)
    have s0 := (hg 0).trans arg0
    have s1 := (hg 1).trans arg1
    have s2 := (hg 2).trans arg2
    have s3 := (hg 3).trans arg3
    have s4 := (hg 4).trans arg4
    clear hg
    refine xc_seq (fun K hK1 => ?_)
    refine xc_region ?_
    refine x_val (r_assign ec) (nd_of rfl) rfl ?_
    refine xw_nil ?_
    refine hK1 _ _ ?_
    refine xc_gen (fun g hg => ?_)
    have s0 := (hg 0).trans (en rfl s0)
    have s1 := (hg 1).trans (en rfl s1)
    have s2 := (hg 2).trans (en rfl s2)
    have s3 := (hg 3).trans (en rfl s3)
    have s4 := (hg 4).trans (en rfl s4)
    have s10 := (hg 10).trans es
    clear hg
    refine xc_seq (fun K hK2 => ?_)
    refine xc_seq (fun K hK3 => ?_)
    refine xc_region ?_
    refine x_val (r_move s1) (nd_of rfl) rfl ?_
    refine x_val (r_eql es ec (decide_eq_true (by rfl))) (nd_of rfl) rfl ?_
    refine x_val (r_move es) (nd_of rfl) rfl ?_
    refine x_pass (d := 22) rfl rfl es rfl ?_
    refine x_pass (d := 22) rfl rfl (en rfl es) rfl ?_
    refine x_pass (d := 22) rfl rfl (en rfl (en rfl es)) rfl ?_
    refine x_val (r_pick_t (en rfl (en rfl (en rfl es))) ec) (nd_of rfl) rfl ?_
    refine xw_nil ?_
    refine hK3 _ _ ?_
    refine xc_gen (fun g hg => ?_)
    have s0 := (hg 0).trans (en rfl (en rfl (en rfl (en rfl (en rfl (en rfl (en rfl s0)))))))
    have s1 := (hg 1).trans (en rfl (en rfl (en rfl (en rfl (en rfl (en rfl (en rfl s1)))))))
    have s2 := (hg 2).trans (en rfl (en rfl (en rfl (en rfl (en rfl (en rfl (en rfl s2)))))))
    have s3 := (hg 3).trans (en rfl (en rfl (en rfl (en rfl (en rfl (en rfl (en rfl s3)))))))
    have s4 := (hg 4).trans (en rfl (en rfl (en rfl (en rfl (en rfl (en rfl (en rfl s4)))))))
    have s10 := (hg 10).trans (en rfl (en rfl (en rfl (en rfl (en rfl (en rfl (en rfl s10)))))))
    have s26 := (hg 26).trans es
    clear hg
    refine xc_cond s26 (fun _ => ?_) (fun hc => by cases hc)
    refine xc_seq (fun K hK4 => ?_)
    refine xc_region ?_
    refine x_val (r_assign ec) (nd_of rfl) rfl ?_
    refine xw_nil ?_
    refine hK4 _ _ ?_
    refine xc_gen (fun g hg => ?_)
    have s0 := (hg 0).trans (en rfl s0)
    have s1 := (hg 1).trans (en rfl s1)
    have s2 := (hg 2).trans (en rfl s2)
    have s3 := (hg 3).trans (en rfl s3)
    have s4 := (hg 4).trans (en rfl s4)
    have s10 := (hg 10).trans es
    have s26 := (hg 26).trans (en rfl s26)
    clear hg
    refine xc_ret ?_
    refine bodyR_1 rfl s10 ?_
    exact ⟨rfl, by simpa [Tr.xs, overL] using h⟩
  | node k l x r ihl ihr =>
    intro M w i j pre post ht hb hi hj htot h
    have hox := ht.2.1.cells
    simp only [Tr.xs] at hb htot ⊢
    have hb0 := hb
    simp only [Bd, List.length_append, List.length_cons, sz_app, mks_app, sz, mks] at hb0
    rw [over_node] at htot ⊢
    obtain ⟨PL, ePL⟩ : ∃ PL, PL = overL l.xs i (min j (sz l.xs)) := ⟨_, rfl⟩
    obtain ⟨PX, ePX⟩ : ∃ PX, PX = oneL x (i - sz l.xs) (j - sz l.xs) := ⟨_, rfl⟩
    obtain ⟨PR, ePR⟩ : ∃ PR, PR = overL r.xs (i - sz l.xs - xS x) (j - sz l.xs - xS x) := ⟨_, rfl⟩
    rw [← ePL, ← ePX, ← ePR] at htot ⊢
    have htl : total = pre ++ (overL l.xs i (min j (sz l.xs)) ++ (PX ++ PR ++ post)) := by rw [← ePL, htot]; simp
    have htr : total = (pre ++ PL ++ PX) ++ (overL r.xs (i - sz l.xs - xS x) (j - sz l.xs - xS x) ++ post) := by rw [← ePR, htot]; simp
    change Calls _ _ #[pT bt, .int .i64 (k : Int), .int .i64 (i : Int), .int .i64 (j : Int), y] w _
    refine calls_x Try.func52 rfl Try.ntmps52 rfl ?_
    refine xc_gen (fun g hg => ?_)
    have s0 := (hg 0).trans arg0
    have s1 := (hg 1).trans arg1
    have s2 := (hg 2).trans arg2
    have s3 := (hg 3).trans arg3
    have s4 := (hg 4).trans arg4
    clear hg
    rcases Nat.lt_or_ge i j with hij | hij
    ·
      skip
      refine xc_seq (fun K hK1 => ?_)
      refine xc_region ?_
      refine x_val (r_assign ec) (nd_of rfl) rfl ?_
      refine xw_nil ?_
      refine hK1 _ _ ?_
      refine xc_gen (fun g hg => ?_)
      have s0 := (hg 0).trans (en rfl s0)
      have s1 := (hg 1).trans (en rfl s1)
      have s2 := (hg 2).trans (en rfl s2)
      have s3 := (hg 3).trans (en rfl s3)
      have s4 := (hg 4).trans (en rfl s4)
      have s10 := (hg 10).trans es
      clear hg
      refine xc_seq (fun K hK2 => ?_)
      refine xc_seq (fun K hK3 => ?_)
      refine xc_region ?_
      refine x_val (r_move s1) (nd_of rfl) rfl ?_
      refine x_val (r_eql es ec (decide_eq_false (by omega))) (nd_of rfl) rfl ?_
      refine x_val (r_move es) (nd_of rfl) rfl ?_
      refine x_take (d := 22) rfl rfl es ?_
      refine x_val (r_move (en rfl (en rfl (en rfl s2)))) (nd_of rfl) rfl ?_
      refine x_take (d := 22) rfl rfl (en rfl es) ?_
      refine x_val (r_move (en rfl (en rfl (en rfl (en rfl s3))))) (nd_of rfl) rfl ?_
      refine x_take (d := 22) rfl rfl (en rfl (en rfl es)) ?_
      refine x_val (r_geq (en rfl es) es (decide_eq_false (by omega))) (nd_of rfl) rfl ?_
      refine x_val (r_pick_f (en rfl (en rfl (en rfl es))) es) (nd_of rfl) rfl ?_
      refine xw_nil ?_
      refine hK3 _ _ ?_
      refine xc_gen (fun g hg => ?_)
      have s0 := (hg 0).trans (en rfl (en rfl (en rfl (en rfl (en rfl (en rfl (en rfl s0)))))))
      have s1 := (hg 1).trans (en rfl (en rfl (en rfl (en rfl (en rfl (en rfl (en rfl s1)))))))
      have s2 := (hg 2).trans (en rfl (en rfl (en rfl (en rfl (en rfl (en rfl (en rfl s2)))))))
      have s3 := (hg 3).trans (en rfl (en rfl (en rfl (en rfl (en rfl (en rfl (en rfl s3)))))))
      have s4 := (hg 4).trans (en rfl (en rfl (en rfl (en rfl (en rfl (en rfl (en rfl s4)))))))
      have s10 := (hg 10).trans (en rfl (en rfl (en rfl (en rfl (en rfl (en rfl (en rfl s10)))))))
      have s26 := (hg 26).trans es
      clear hg
      refine xc_cond s26 (fun hc => by cases hc) (fun _ => ?_)
      refine xc_skip ?_
      refine hK2 _ _ ?_
      refine xc_seq (fun K hK4 => ?_)
      refine xc_region ?_
      refine x_val (r_move s0) (nd_of rfl) rfl ?_
      refine x_val (r_move (en rfl s1)) (nd_of rfl) rfl ?_
      refine x_enter (r_call Try.call54 (.cons (en rfl es) (.cons es .nil))) (nd_of rfl) rfl (at_t ht.1 h) ?_
      rintro _ w ⟨rfl, h⟩
      refine x_declA h Try.zeroValue90 Try.sizeOf90 rfl (en rfl es) (by first | assumption | exact Ok.node (by assumption) | exact xOk.cells (by assumption) | exact ChOk.ok (by assumption)) rfl ?_
      intro b11 w h
      refine xw_nil ?_
      refine hK4 _ _ ?_
      refine xc_gen (fun g hg => ?_)
      have s0 := (hg 0).trans (en rfl (en rfl (en rfl (en rfl s0))))
      have s1 := (hg 1).trans (en rfl (en rfl (en rfl (en rfl s1))))
      have s2 := (hg 2).trans (en rfl (en rfl (en rfl (en rfl s2))))
      have s3 := (hg 3).trans (en rfl (en rfl (en rfl (en rfl s3))))
      have s4 := (hg 4).trans (en rfl (en rfl (en rfl (en rfl s4))))
      have s10 := (hg 10).trans (en rfl (en rfl (en rfl (en rfl s10))))
      have s11 := (hg 11).trans es
      have s26 := (hg 26).trans (en rfl (en rfl (en rfl (en rfl s26))))
      clear hg
      refine xc_seq (fun K hK5 => ?_)
      refine xc_region ?_
      refine x_val (r_move s0) (nd_of rfl) rfl ?_
      refine x_val (r_fieldAddr (o' := 1) Try.underlying90 rfl Try.sizeOf3 rfl (en rfl s11) rfl) (nd_of rfl) rfl ?_
      refine x_val (r_load h 0 rfl Try.isAgg3 es (nd0 ‹_›)) (nd_of rfl) rfl ?_
      have h := h.f2
      have h := h.f2
      refine x_enter (r_call Try.call53 (.cons (en rfl (en rfl es)) (.cons es .nil))) (nd_of rfl) rfl (totals_t ht.2.2.1 h) ?_
      rintro _ w ⟨rfl, h⟩
      refine x_val (r_move es) (nd_of rfl) rfl ?_
      refine x_val (r_extract es gc0) (nd_of rfl) rfl ?_
      refine x_val (r_extract (en rfl es) gc1) (nd_of rfl) rfl ?_
      refine x_val (r_extract (en rfl (en rfl es)) gc2) (nd_of rfl) rfl ?_
      refine x_val (r_assign (en rfl (en rfl es))) (nd_of rfl) rfl ?_
      refine x_val (r_assign (en rfl (en rfl es))) (nd_of rfl) rfl ?_
      refine x_val (r_assign (en rfl (en rfl es))) (nd_of rfl) rfl ?_
      refine xw_nil ?_
      refine hK5 _ _ ?_
      refine xc_gen (fun g hg => ?_)
      have s0 := (hg 0).trans (en rfl (en rfl (en rfl (en rfl (en rfl (en rfl (en rfl (en rfl (en rfl (en rfl (en rfl s0)))))))))))
      have s1 := (hg 1).trans (en rfl (en rfl (en rfl (en rfl (en rfl (en rfl (en rfl (en rfl (en rfl (en rfl (en rfl s1)))))))))))
      have s2 := (hg 2).trans (en rfl (en rfl (en rfl (en rfl (en rfl (en rfl (en rfl (en rfl (en rfl (en rfl (en rfl s2)))))))))))
      have s3 := (hg 3).trans (en rfl (en rfl (en rfl (en rfl (en rfl (en rfl (en rfl (en rfl (en rfl (en rfl (en rfl s3)))))))))))
      have s4 := (hg 4).trans (en rfl (en rfl (en rfl (en rfl (en rfl (en rfl (en rfl (en rfl (en rfl (en rfl (en rfl s4)))))))))))
      have s10 := (hg 10).trans (en rfl (en rfl (en rfl (en rfl (en rfl (en rfl (en rfl (en rfl (en rfl (en rfl (en rfl s10)))))))))))
      have s11 := (hg 11).trans (en rfl (en rfl (en rfl (en rfl (en rfl (en rfl (en rfl (en rfl (en rfl (en rfl (en rfl s11)))))))))))
      have s13 := (hg 13).trans (en rfl es)
      have s26 := (hg 26).trans (en rfl (en rfl (en rfl (en rfl (en rfl (en rfl (en rfl (en rfl (en rfl (en rfl (en rfl s26)))))))))))
      clear hg
      refine xc_seq (fun K hK6 => ?_)
      refine xc_plan 13 [(0, 2), (1, 2), (2, 2), (3, 2), (4, 1), (5, 2), (6, 1), (7, 0), (8, 2), (9, 2), (10, 2), (11, 2), (12, 2)] (by kernel_rfl) rfl (by kernel_rfl) h ?_
      have h := h.drew
      refine xp_read (i := 0) rfl (fun W => r_move s0) rfl (fun _ _ _ hh => by first | exact bodyR_np hh | exact bodyY_np hh | exact hh) ?_
      refine xp_read (i := 1) rfl (fun W => r_nilCheck es) rfl (fun _ _ _ hh => by first | exact bodyR_np hh | exact bodyY_np hh | exact hh) ?_
      refine xp_read (i := 2) rfl (fun W => r_fieldAddr (o' := 0) Try.underlying83 rfl Try.sizeOf78 rfl es rfl) rfl (fun _ _ _ hh => by first | exact bodyR_np hh | exact bodyY_np hh | exact hh) ?_
      refine xp_read (i := 3) rfl (fun W => r_fieldAddr (o' := 0) Try.underlying78 rfl Try.sizeOf74 rfl es rfl) rfl (fun _ _ _ hh => by first | exact bodyR_np hh | exact bodyY_np hh | exact hh) ?_
      refine xp_load (i := 4) rfl (fun W hW => r_load hW 0 rfl Try.isAgg74 es gc0) rfl (fun _ _ _ hh => by first | exact bodyR_np hh | exact bodyY_np hh | exact hh) ?_
      refine xp_read (i := 5) rfl (fun W => r_fieldAddr (o' := 0) Try.underlying90 rfl Try.sizeOf38 rfl (en rfl (en rfl (en rfl (en rfl (en rfl s11))))) rfl) rfl (fun _ _ _ hh => by first | exact bodyR_np hh | exact bodyY_np hh | exact hh) ?_
      refine xp_load (i := 6) rfl (fun W hW => r_load hW 2 rfl Try.isAgg38 es ndx0) rfl (fun _ _ _ hh => by first | exact bodyR_np hh | exact bodyY_np hh | exact hh) ?_
      refine xp_enter (i := 7) rfl (r_callv Try.call37 (en rfl (en rfl es)) (.cons es .nil)) rfl (measure_ok ht.2.1 h) ?_
      rintro _ w ⟨rfl, h⟩
      refine ⟨(fun _ => h), ?_⟩
      refine xp_read (i := 8) rfl (fun W => r_move es) rfl (fun _ _ _ hh => by first | exact bodyR_np hh | exact bodyY_np hh | exact hh) ?_
      refine xp_read (i := 9) rfl (fun W => r_extract es gc0) rfl (fun _ _ _ hh => by first | exact bodyR_np hh | exact bodyY_np hh | exact hh) ?_
      refine xp_read (i := 10) rfl (fun W => r_extract (en rfl es) gc1) rfl (fun _ _ _ hh => by first | exact bodyR_np hh | exact bodyY_np hh | exact hh) ?_
      refine xp_read (i := 11) rfl (fun W => r_assign (en rfl es)) rfl (fun _ _ _ hh => by first | exact bodyR_np hh | exact bodyY_np hh | exact hh) ?_
      refine xp_read (i := 12) rfl (fun W => r_assign (en rfl es)) rfl (fun _ _ _ hh => by first | exact bodyR_np hh | exact bodyY_np hh | exact hh) ?_
      refine xp_nil ?_
      refine hK6 _ _ ?_
      refine xc_gen (fun g hg => ?_)
      have s0 := (hg 0).trans (en rfl (en rfl (en rfl (en rfl (en rfl (en rfl (en rfl (en rfl (en rfl (en rfl (en rfl (en rfl (en rfl s0)))))))))))))
      have s1 := (hg 1).trans (en rfl (en rfl (en rfl (en rfl (en rfl (en rfl (en rfl (en rfl (en rfl (en rfl (en rfl (en rfl (en rfl s1)))))))))))))
      have s2 := (hg 2).trans (en rfl (en rfl (en rfl (en rfl (en rfl (en rfl (en rfl (en rfl (en rfl (en rfl (en rfl (en rfl (en rfl s2)))))))))))))
      have s3 := (hg 3).trans (en rfl (en rfl (en rfl (en rfl (en rfl (en rfl (en rfl (en rfl (en rfl (en rfl (en rfl (en rfl (en rfl s3)))))))))))))
      have s4 := (hg 4).trans (en rfl (en rfl (en rfl (en rfl (en rfl (en rfl (en rfl (en rfl (en rfl (en rfl (en rfl (en rfl (en rfl s4)))))))))))))
      have s10 := (hg 10).trans (en rfl (en rfl (en rfl (en rfl (en rfl (en rfl (en rfl (en rfl (en rfl (en rfl (en rfl (en rfl (en rfl s10)))))))))))))
      have s11 := (hg 11).trans (en rfl (en rfl (en rfl (en rfl (en rfl (en rfl (en rfl (en rfl (en rfl (en rfl (en rfl (en rfl (en rfl s11)))))))))))))
      have s13 := (hg 13).trans (en rfl (en rfl (en rfl (en rfl (en rfl (en rfl (en rfl (en rfl (en rfl (en rfl (en rfl (en rfl (en rfl s13)))))))))))))
      have s15 := (hg 15).trans (en rfl es)
      have s26 := (hg 26).trans (en rfl (en rfl (en rfl (en rfl (en rfl (en rfl (en rfl (en rfl (en rfl (en rfl (en rfl (en rfl (en rfl s26)))))))))))))
      clear hg
      obtain ⟨G7, hG7⟩ : ∃ g0 : Nat → Value, g0 = g := ⟨_, rfl⟩
      have zG7_0 : G7 0 = _ := (congrFun hG7 0).trans s0
      have zG7_1 : G7 1 = _ := (congrFun hG7 1).trans s1
      have zG7_2 : G7 2 = _ := (congrFun hG7 2).trans s2
      have zG7_3 : G7 3 = _ := (congrFun hG7 3).trans s3
      have zG7_4 : G7 4 = _ := (congrFun hG7 4).trans s4
      have zG7_11 : G7 11 = _ := (congrFun hG7 11).trans s11
      have zG7_13 : G7 13 = _ := (congrFun hG7 13).trans s13
      have zG7_15 : G7 15 = _ := (congrFun hG7 15).trans s15
      have zG7_26 : G7 26 = _ := (congrFun hG7 26).trans s26
      refine xc_cut (fun f w => (SatL E w (TC bt ba ro :: Ar ba pl fr :: Cells b11 (cellOf l x r) 90 :: (M ++ IL (pre ++ PL)))) ∧ (f 0 = G7 0 ∧ f 1 = G7 1 ∧ f 2 = G7 2 ∧ f 3 = G7 3 ∧ f 4 = G7 4 ∧ f 11 = G7 11 ∧ f 13 = G7 13 ∧ f 15 = G7 15 ∧ f 26 = G7 26)) ?_ ?_
      ·
        skip
        rcases Nat.lt_or_ge i (sz l.xs) with hil | hil
        ·
          skip
          refine xc_seq (fun K hK8 => ?_)
          refine xc_region ?_
          refine x_val (r_move s2) (nd_of rfl) rfl ?_
          refine x_val (r_move (en rfl s13)) (nd_of rfl) rfl ?_
          refine x_val (r_lss (en rfl es) es (decide_eq_true (by omega))) (nd_of rfl) rfl ?_
          refine x_val (r_move es) (nd_of rfl) rfl ?_
          refine x_take (d := 52) rfl rfl es ?_
          refine x_val (r_move (en rfl (en rfl (en rfl (en rfl s0))))) (nd_of rfl) rfl ?_
          refine x_take (d := 52) rfl rfl (en rfl es) ?_
          refine x_val (r_fieldAddr (o' := 1) Try.underlying90 rfl Try.sizeOf3 rfl (en rfl (en rfl (en rfl (en rfl (en rfl s11))))) rfl) (nd_of rfl) rfl ?_
          refine x_take (d := 52) rfl rfl (en rfl (en rfl es)) ?_
          refine x_val (r_load h 2 rfl Try.isAgg3 es (nd0 ‹_›)) (nd_of rfl) rfl ?_
          refine x_take (d := 52) rfl rfl (en rfl (en rfl (en rfl es))) ?_
          refine x_val (r_move (en rfl (en rfl (en rfl (en rfl (en rfl (en rfl (en rfl s2)))))))) (nd_of rfl) rfl ?_
          refine x_take (d := 52) rfl rfl (en rfl (en rfl (en rfl (en rfl es)))) ?_
          refine x_val (r_move (en rfl (en rfl (en rfl (en rfl (en rfl (en rfl (en rfl (en rfl s3))))))))) (nd_of rfl) rfl ?_
          refine x_take (d := 52) rfl rfl (en rfl (en rfl (en rfl (en rfl (en rfl es))))) ?_
          refine x_val (r_move (en rfl (en rfl (en rfl (en rfl (en rfl (en rfl (en rfl (en rfl (en rfl s13)))))))))) (nd_of rfl) rfl ?_
          refine x_take (d := 52) rfl rfl (en rfl (en rfl (en rfl (en rfl (en rfl (en rfl es)))))) ?_
          refine x_val (r_min (en rfl es) es (show _ = (((min j (sz l.xs) : Nat) : Int) : Int) from by (split <;> omega))) (nd_of rfl) rfl ?_
          refine x_take (d := 52) rfl rfl (en rfl (en rfl (en rfl (en rfl (en rfl (en rfl (en rfl es))))))) ?_
          refine x_val (r_move (en rfl (en rfl (en rfl (en rfl (en rfl (en rfl (en rfl (en rfl (en rfl (en rfl (en rfl s4)))))))))))) (nd_of rfl) rfl ?_
          refine x_take (d := 52) rfl rfl (en rfl (en rfl (en rfl (en rfl (en rfl (en rfl (en rfl (en rfl es)))))))) ?_
          have h := h.f1
          have h := h.f1
          refine x_enter (r_call Try.call52 (.cons (en rfl (en rfl (en rfl (en rfl (en rfl (en rfl (en rfl es))))))) (.cons (en rfl (en rfl (en rfl (en rfl (en rfl es))))) (.cons (en rfl (en rfl (en rfl (en rfl es)))) (.cons (en rfl es) (.cons es .nil)))))) (nd_of rfl) rfl (ihl (M := Cells b11 (cellOf l x r) 90 :: M) (i := i) (j := min j (sz l.xs)) (pre := pre) ht.2.2.1 hb.left hi (by omega) htl h) ?_
          rintro _ w ⟨rfl, h⟩
          refine x_take (d := 52) rfl rfl (en rfl (en rfl (en rfl (en rfl (en rfl (en rfl (en rfl (en rfl (en rfl es))))))))) ?_
          refine x_val (r_not es rfl) (nd_of rfl) rfl ?_
          refine x_val (r_pick_t (en rfl (en rfl (en rfl (en rfl (en rfl (en rfl (en rfl (en rfl (en rfl (en rfl es)))))))))) es) (nd_of rfl) rfl ?_
          refine xw_nil ?_
          refine hK8 _ _ ?_
          refine xc_gen (fun g hg => ?_)
          have s0 := (hg 0).trans (en rfl (en rfl (en rfl (en rfl (en rfl (en rfl (en rfl (en rfl (en rfl (en rfl (en rfl (en rfl (en rfl (en rfl (en rfl s0)))))))))))))))
          have s1 := (hg 1).trans (en rfl (en rfl (en rfl (en rfl (en rfl (en rfl (en rfl (en rfl (en rfl (en rfl (en rfl (en rfl (en rfl (en rfl (en rfl s1)))))))))))))))
          have s2 := (hg 2).trans (en rfl (en rfl (en rfl (en rfl (en rfl (en rfl (en rfl (en rfl (en rfl (en rfl (en rfl (en rfl (en rfl (en rfl (en rfl s2)))))))))))))))
          have s3 := (hg 3).trans (en rfl (en rfl (en rfl (en rfl (en rfl (en rfl (en rfl (en rfl (en rfl (en rfl (en rfl (en rfl (en rfl (en rfl (en rfl s3)))))))))))))))
          have s4 := (hg 4).trans (en rfl (en rfl (en rfl (en rfl (en rfl (en rfl (en rfl (en rfl (en rfl (en rfl (en rfl (en rfl (en rfl (en rfl (en rfl s4)))))))))))))))
          have s10 := (hg 10).trans (en rfl (en rfl (en rfl (en rfl (en rfl (en rfl (en rfl (en rfl (en rfl (en rfl (en rfl (en rfl (en rfl (en rfl (en rfl s10)))))))))))))))
          have s11 := (hg 11).trans (en rfl (en rfl (en rfl (en rfl (en rfl (en rfl (en rfl (en rfl (en rfl (en rfl (en rfl (en rfl (en rfl (en rfl (en rfl s11)))))))))))))))
          have s13 := (hg 13).trans (en rfl (en rfl (en rfl (en rfl (en rfl (en rfl (en rfl (en rfl (en rfl (en rfl (en rfl (en rfl (en rfl (en rfl (en rfl s13)))))))))))))))
          have s15 := (hg 15).trans (en rfl (en rfl (en rfl (en rfl (en rfl (en rfl (en rfl (en rfl (en rfl (en rfl (en rfl (en rfl (en rfl (en rfl (en rfl s15)))))))))))))))
          have s26 := (hg 26).trans (en rfl (en rfl (en rfl (en rfl (en rfl (en rfl (en rfl (en rfl (en rfl (en rfl (en rfl (en rfl (en rfl (en rfl (en rfl s26)))))))))))))))
          have s63 := (hg 63).trans es
          clear hg
          refine xc_cond s63 (fun hc => by cases hc) (fun _ => ?_)
          refine xc_skip ?_
          exact ⟨by rw [ePL]; exact h, ⟨(s0).trans zG7_0.symm, (s1).trans zG7_1.symm, (s2).trans zG7_2.symm, (s3).trans zG7_3.symm, (s4).trans zG7_4.symm, (s11).trans zG7_11.symm, (s13).trans zG7_13.symm, (s15).trans zG7_15.symm, (s26).trans zG7_26.symm⟩⟩
        ·
          skip
          refine xc_seq (fun K hK9 => ?_)
          refine xc_region ?_
          refine x_val (r_move s2) (nd_of rfl) rfl ?_
          refine x_val (r_move (en rfl s13)) (nd_of rfl) rfl ?_
          refine x_val (r_lss (en rfl es) es (decide_eq_false (by omega))) (nd_of rfl) rfl ?_
          refine x_val (r_move es) (nd_of rfl) rfl ?_
          refine x_pass (d := 52) rfl rfl es rfl ?_
          refine x_pass (d := 52) rfl rfl (en rfl es) rfl ?_
          refine x_pass (d := 52) rfl rfl (en rfl (en rfl es)) rfl ?_
          refine x_pass (d := 52) rfl rfl (en rfl (en rfl (en rfl es))) rfl ?_
          refine x_pass (d := 52) rfl rfl (en rfl (en rfl (en rfl (en rfl es)))) rfl ?_
          refine x_pass (d := 52) rfl rfl (en rfl (en rfl (en rfl (en rfl (en rfl es))))) rfl ?_
          refine x_pass (d := 52) rfl rfl (en rfl (en rfl (en rfl (en rfl (en rfl (en rfl es)))))) rfl ?_
          refine x_pass (d := 52) rfl rfl (en rfl (en rfl (en rfl (en rfl (en rfl (en rfl (en rfl es))))))) rfl ?_
          refine x_pass (d := 52) rfl rfl (en rfl (en rfl (en rfl (en rfl (en rfl (en rfl (en rfl (en rfl es)))))))) rfl ?_
          refine x_pass (d := 52) rfl rfl (en rfl (en rfl (en rfl (en rfl (en rfl (en rfl (en rfl (en rfl (en rfl es))))))))) rfl ?_
          refine x_val (r_pick_f (en rfl (en rfl (en rfl (en rfl (en rfl (en rfl (en rfl (en rfl (en rfl (en rfl es)))))))))) ec) (nd_of rfl) rfl ?_
          refine xw_nil ?_
          refine hK9 _ _ ?_
          refine xc_gen (fun g hg => ?_)
          have s0 := (hg 0).trans (en rfl (en rfl (en rfl (en rfl (en rfl (en rfl (en rfl (en rfl (en rfl (en rfl (en rfl (en rfl (en rfl (en rfl (en rfl s0)))))))))))))))
          have s1 := (hg 1).trans (en rfl (en rfl (en rfl (en rfl (en rfl (en rfl (en rfl (en rfl (en rfl (en rfl (en rfl (en rfl (en rfl (en rfl (en rfl s1)))))))))))))))
          have s2 := (hg 2).trans (en rfl (en rfl (en rfl (en rfl (en rfl (en rfl (en rfl (en rfl (en rfl (en rfl (en rfl (en rfl (en rfl (en rfl (en rfl s2)))))))))))))))
          have s3 := (hg 3).trans (en rfl (en rfl (en rfl (en rfl (en rfl (en rfl (en rfl (en rfl (en rfl (en rfl (en rfl (en rfl (en rfl (en rfl (en rfl s3)))))))))))))))
          have s4 := (hg 4).trans (en rfl (en rfl (en rfl (en rfl (en rfl (en rfl (en rfl (en rfl (en rfl (en rfl (en rfl (en rfl (en rfl (en rfl (en rfl s4)))))))))))))))
          have s10 := (hg 10).trans (en rfl (en rfl (en rfl (en rfl (en rfl (en rfl (en rfl (en rfl (en rfl (en rfl (en rfl (en rfl (en rfl (en rfl (en rfl s10)))))))))))))))
          have s11 := (hg 11).trans (en rfl (en rfl (en rfl (en rfl (en rfl (en rfl (en rfl (en rfl (en rfl (en rfl (en rfl (en rfl (en rfl (en rfl (en rfl s11)))))))))))))))
          have s13 := (hg 13).trans (en rfl (en rfl (en rfl (en rfl (en rfl (en rfl (en rfl (en rfl (en rfl (en rfl (en rfl (en rfl (en rfl (en rfl (en rfl s13)))))))))))))))
          have s15 := (hg 15).trans (en rfl (en rfl (en rfl (en rfl (en rfl (en rfl (en rfl (en rfl (en rfl (en rfl (en rfl (en rfl (en rfl (en rfl (en rfl s15)))))))))))))))
          have s26 := (hg 26).trans (en rfl (en rfl (en rfl (en rfl (en rfl (en rfl (en rfl (en rfl (en rfl (en rfl (en rfl (en rfl (en rfl (en rfl (en rfl s26)))))))))))))))
          have s63 := (hg 63).trans es
          clear hg
          refine xc_cond s63 (fun hc => by cases hc) (fun _ => ?_)
          refine xc_skip ?_
          exact ⟨by rw [ePL, over_none _ _ _ (by omega), List.append_nil]; exact h, ⟨(s0).trans zG7_0.symm, (s1).trans zG7_1.symm, (s2).trans zG7_2.symm, (s3).trans zG7_3.symm, (s4).trans zG7_4.symm, (s11).trans zG7_11.symm, (s13).trans zG7_13.symm, (s15).trans zG7_15.symm, (s26).trans zG7_26.symm⟩⟩
      ·
        rintro g w ⟨h, ⟨y0, y1, y2, y3, y4, y11, y13, y15, y26⟩⟩
        have s0 := y0.trans zG7_0
        have s1 := y1.trans zG7_1
        have s2 := y2.trans zG7_2
        have s3 := y3.trans zG7_3
        have s4 := y4.trans zG7_4
        have s11 := y11.trans zG7_11
        have s13 := y13.trans zG7_13
        have s15 := y15.trans zG7_15
        have s26 := y26.trans zG7_26
        refine xc_seq (fun K hK10 => ?_)
        refine xc_region ?_
        refine x_val (r_move s2) (nd_of rfl) rfl ?_
        refine x_val (r_move (en rfl s13)) (nd_of rfl) rfl ?_
        refine x_val (r_sub (en rfl es) es (show _ = ((i : Int) - sz l.xs : Int) from by rfl) (by unfold I64; omega)) (nd_of rfl) rfl ?_
        refine x_val (r_max es ec (show _ = (((i - sz l.xs : Nat) : Int) : Int) from by (split <;> omega))) (nd_of rfl) rfl ?_
        refine x_val (r_move (en rfl (en rfl (en rfl (en rfl s3))))) (nd_of rfl) rfl ?_
        refine x_val (r_move (en rfl (en rfl (en rfl (en rfl (en rfl s13)))))) (nd_of rfl) rfl ?_
        refine x_val (r_sub (en rfl es) es (show _ = ((j : Int) - sz l.xs : Int) from by rfl) (by unfold I64; omega)) (nd_of rfl) rfl ?_
        refine x_val (r_move (en rfl (en rfl (en rfl (en rfl (en rfl (en rfl (en rfl s15)))))))) (nd_of rfl) rfl ?_
        refine x_val (r_min (en rfl es) es (show _ = (min ((j : Int) - sz l.xs) (xS x) : Int) from by (split <;> omega))) (nd_of rfl) rfl ?_
        refine x_val (r_assign (en rfl (en rfl (en rfl (en rfl (en rfl es)))))) (nd_of rfl) rfl ?_
        refine x_val (r_assign (en rfl es)) (nd_of rfl) rfl ?_
        refine xw_nil ?_
        refine hK10 _ _ ?_
        refine xc_gen (fun g hg => ?_)
        have s0 := (hg 0).trans (en rfl (en rfl (en rfl (en rfl (en rfl (en rfl (en rfl (en rfl (en rfl (en rfl (en rfl s0)))))))))))
        have s1 := (hg 1).trans (en rfl (en rfl (en rfl (en rfl (en rfl (en rfl (en rfl (en rfl (en rfl (en rfl (en rfl s1)))))))))))
        have s2 := (hg 2).trans (en rfl (en rfl (en rfl (en rfl (en rfl (en rfl (en rfl (en rfl (en rfl (en rfl (en rfl s2)))))))))))
        have s3 := (hg 3).trans (en rfl (en rfl (en rfl (en rfl (en rfl (en rfl (en rfl (en rfl (en rfl (en rfl (en rfl s3)))))))))))
        have s4 := (hg 4).trans (en rfl (en rfl (en rfl (en rfl (en rfl (en rfl (en rfl (en rfl (en rfl (en rfl (en rfl s4)))))))))))
        have s11 := (hg 11).trans (en rfl (en rfl (en rfl (en rfl (en rfl (en rfl (en rfl (en rfl (en rfl (en rfl (en rfl s11)))))))))))
        have s13 := (hg 13).trans (en rfl (en rfl (en rfl (en rfl (en rfl (en rfl (en rfl (en rfl (en rfl (en rfl (en rfl s13)))))))))))
        have s15 := (hg 15).trans (en rfl (en rfl (en rfl (en rfl (en rfl (en rfl (en rfl (en rfl (en rfl (en rfl (en rfl s15)))))))))))
        have s17 := (hg 17).trans (en rfl es)
        have s18 := (hg 18).trans es
        have s26 := (hg 26).trans (en rfl (en rfl (en rfl (en rfl (en rfl (en rfl (en rfl (en rfl (en rfl (en rfl (en rfl s26)))))))))))
        clear hg
        obtain ⟨G11, hG11⟩ : ∃ g0 : Nat → Value, g0 = g := ⟨_, rfl⟩
        have zG11_0 : G11 0 = _ := (congrFun hG11 0).trans s0
        have zG11_1 : G11 1 = _ := (congrFun hG11 1).trans s1
        have zG11_2 : G11 2 = _ := (congrFun hG11 2).trans s2
        have zG11_3 : G11 3 = _ := (congrFun hG11 3).trans s3
        have zG11_4 : G11 4 = _ := (congrFun hG11 4).trans s4
        have zG11_11 : G11 11 = _ := (congrFun hG11 11).trans s11
        have zG11_13 : G11 13 = _ := (congrFun hG11 13).trans s13
        have zG11_15 : G11 15 = _ := (congrFun hG11 15).trans s15
        have zG11_17 : G11 17 = _ := (congrFun hG11 17).trans s17
        have zG11_18 : G11 18 = _ := (congrFun hG11 18).trans s18
        have zG11_26 : G11 26 = _ := (congrFun hG11 26).trans s26
        refine xc_cut (fun f w => (SatL E w (TC bt ba ro :: Ar ba pl fr :: Cells b11 (cellOf l x r) 90 :: (M ++ IL (pre ++ PL ++ PX)))) ∧ (f 0 = G11 0 ∧ f 1 = G11 1 ∧ f 2 = G11 2 ∧ f 3 = G11 3 ∧ f 4 = G11 4 ∧ f 11 = G11 11 ∧ f 13 = G11 13 ∧ f 15 = G11 15 ∧ f 17 = G11 17 ∧ f 18 = G11 18 ∧ f 26 = G11 26)) ?_ ?_
        ·
          skip
          refine xc_seq (fun K hK12 => ?_)
          refine xc_region ?_
          refine x_val (r_move s17) (nd_of rfl) rfl ?_
          refine x_val (r_move (en rfl s18)) (nd_of rfl) rfl ?_
          refine x_val (r_lss (en rfl es) es rfl) (nd_of rfl) rfl ?_
          refine xw_nil ?_
          refine hK12 _ _ ?_
          refine xc_gen (fun g hg => ?_)
          have s0 := (hg 0).trans (en rfl (en rfl (en rfl s0)))
          have s1 := (hg 1).trans (en rfl (en rfl (en rfl s1)))
          have s2 := (hg 2).trans (en rfl (en rfl (en rfl s2)))
          have s3 := (hg 3).trans (en rfl (en rfl (en rfl s3)))
          have s4 := (hg 4).trans (en rfl (en rfl (en rfl s4)))
          have s11 := (hg 11).trans (en rfl (en rfl (en rfl s11)))
          have s13 := (hg 13).trans (en rfl (en rfl (en rfl s13)))
          have s15 := (hg 15).trans (en rfl (en rfl (en rfl s15)))
          have s17 := (hg 17).trans (en rfl (en rfl (en rfl s17)))
          have s18 := (hg 18).trans (en rfl (en rfl (en rfl s18)))
          have s26 := (hg 26).trans (en rfl (en rfl (en rfl s26)))
          have s75 := (hg 75).trans es
          clear hg
          refine xc_cond s75 (fun hc => ?_) (fun hc => ?_)
          ·
            refine xc_seq (fun K hK13 => ?_)
            have hd := of_decide_eq_true hc
            obtain ⟨to, hto⟩ : ∃ to : Nat, to = min (j - sz l.xs) (xS x) := ⟨_, rfl⟩
            have hti : min ((j : Int) - sz l.xs) (xS x) = (to : Int) := by omega
            have hft : i - sz l.xs < to := by omega
            have htx : to ≤ xS x := by omega
            have hPX : PX = [partX x (i - sz l.xs) to] := by rw [ePX, oneL, ← hto, if_pos hft]
            obtain ⟨pxa, ey1⟩ : ∃ pxa, pxa = (if to < xS x then (xCut x to).1 else x) := ⟨_, rfl⟩
            obtain ⟨pxb, ey2⟩ : ∃ pxb, pxb = (if 0 < i - sz l.xs then (xCut pxa (i - sz l.xs)).2 else pxa) := ⟨_, rfl⟩
            have hpart : partX x (i - sz l.xs) to = pxb := by rw [ey2, ey1]; rfl
            have hy1 : xOk pxa := by rw [ey1]; split; rename_i h9; exact ht.2.1.cut1 h9; exact ht.2.1
            have hs1 : xS pxa = to := by rw [ey1]; split; rename_i h9; exact xS_cut1 (by omega) h9; omega
            have hy2 : xOk pxb := by rw [ey2]; split; exact hy1.cut2 (by omega); exact hy1
            have ho1 := hy1.cells
            have ho2 := hy2.cells
            have htp : total = (pre ++ PL) ++ pxb :: (PR ++ post) := by rw [htot, hPX, hpart]; simp
            refine xc_region ?_
            refine x_val (r_fieldAddr (o' := 0) Try.underlying90 rfl Try.sizeOf38 rfl s11 rfl) (nd_of rfl) rfl ?_
            refine x_val (r_load h 2 rfl Try.isAgg38 es ndx0) (nd_of rfl) rfl ?_
            refine x_val (r_assign es) (nd_of rfl) rfl ?_
            refine xw_nil ?_
            refine hK13 _ _ ?_
            refine xc_gen (fun g hg => ?_)
            have s0 := (hg 0).trans (en rfl (en rfl (en rfl s0)))
            have s1 := (hg 1).trans (en rfl (en rfl (en rfl s1)))
            have s2 := (hg 2).trans (en rfl (en rfl (en rfl s2)))
            have s3 := (hg 3).trans (en rfl (en rfl (en rfl s3)))
            have s4 := (hg 4).trans (en rfl (en rfl (en rfl s4)))
            have s11 := (hg 11).trans (en rfl (en rfl (en rfl s11)))
            have s13 := (hg 13).trans (en rfl (en rfl (en rfl s13)))
            have s15 := (hg 15).trans (en rfl (en rfl (en rfl s15)))
            have s17 := (hg 17).trans (en rfl (en rfl (en rfl s17)))
            have s18 := (hg 18).trans (en rfl (en rfl (en rfl s18)))
            have s19 := (hg 19).trans es
            have s26 := (hg 26).trans (en rfl (en rfl (en rfl s26)))
            have s75 := (hg 75).trans (en rfl (en rfl (en rfl s75)))
            clear hg
            obtain ⟨G14, hG14⟩ : ∃ g0 : Nat → Value, g0 = g := ⟨_, rfl⟩
            have zG14_0 : G14 0 = _ := (congrFun hG14 0).trans s0
            have zG14_1 : G14 1 = _ := (congrFun hG14 1).trans s1
            have zG14_2 : G14 2 = _ := (congrFun hG14 2).trans s2
            have zG14_3 : G14 3 = _ := (congrFun hG14 3).trans s3
            have zG14_4 : G14 4 = _ := (congrFun hG14 4).trans s4
            have zG14_11 : G14 11 = _ := (congrFun hG14 11).trans s11
            have zG14_13 : G14 13 = _ := (congrFun hG14 13).trans s13
            have zG14_15 : G14 15 = _ := (congrFun hG14 15).trans s15
            have zG14_17 : G14 17 = _ := (congrFun hG14 17).trans s17
            have zG14_18 : G14 18 = _ := (congrFun hG14 18).trans s18
            have zG14_26 : G14 26 = _ := (congrFun hG14 26).trans s26
            have zG14_75 : G14 75 = _ := (congrFun hG14 75).trans s75
            refine xc_cut (fun f w => (f 19 = xV pxa ∧ SatL E w (TC bt ba ro :: Ar ba pl fr :: Cells b11 (cellOf l x r) 90 :: (M ++ IL (pre ++ PL)))) ∧ (f 0 = G14 0 ∧ f 1 = G14 1 ∧ f 2 = G14 2 ∧ f 3 = G14 3 ∧ f 4 = G14 4 ∧ f 11 = G14 11 ∧ f 13 = G14 13 ∧ f 15 = G14 15 ∧ f 17 = G14 17 ∧ f 18 = G14 18 ∧ f 26 = G14 26 ∧ f 75 = G14 75)) ?_ ?_
            ·
              skip
              refine xc_seq (fun K hK15 => ?_)
              refine xc_region ?_
              refine x_val (r_move s18) (nd_of rfl) rfl ?_
              refine x_val (r_move (en rfl s15)) (nd_of rfl) rfl ?_
              refine x_val (r_lss (en rfl es) es rfl) (nd_of rfl) rfl ?_
              refine xw_nil ?_
              refine hK15 _ _ ?_
              refine xc_gen (fun g hg => ?_)
              have s0 := (hg 0).trans (en rfl (en rfl (en rfl s0)))
              have s1 := (hg 1).trans (en rfl (en rfl (en rfl s1)))
              have s2 := (hg 2).trans (en rfl (en rfl (en rfl s2)))
              have s3 := (hg 3).trans (en rfl (en rfl (en rfl s3)))
              have s4 := (hg 4).trans (en rfl (en rfl (en rfl s4)))
              have s11 := (hg 11).trans (en rfl (en rfl (en rfl s11)))
              have s13 := (hg 13).trans (en rfl (en rfl (en rfl s13)))
              have s15 := (hg 15).trans (en rfl (en rfl (en rfl s15)))
              have s17 := (hg 17).trans (en rfl (en rfl (en rfl s17)))
              have s18 := (hg 18).trans (en rfl (en rfl (en rfl s18)))
              have s19 := (hg 19).trans (en rfl (en rfl (en rfl s19)))
              have s26 := (hg 26).trans (en rfl (en rfl (en rfl s26)))
              have s75 := (hg 75).trans (en rfl (en rfl (en rfl s75)))
              have s80 := (hg 80).trans es
              clear hg
              refine xc_cond s80 (fun hc => ?_) (fun hc => ?_)
              ·
                have hd2 := of_decide_eq_true hc
                have hlt : to < xS x := by omega
                rw [if_pos hlt] at ey1
                refine xc_region ?_
                refine x_val (r_move s0) (nd_of rfl) rfl ?_
                refine x_val (r_nilCheck es) (nd_of rfl) rfl ?_
                refine x_val (r_fieldAddr (o' := 0) Try.underlying83 rfl Try.sizeOf78 rfl es rfl) (nd_of rfl) rfl ?_
                refine x_val (r_fieldAddr (o' := 1) Try.underlying78 rfl Try.sizeOf75 rfl es rfl) (nd_of rfl) rfl ?_
                refine x_val (r_load h 0 rfl Try.isAgg75 es gc1) (nd_of rfl) rfl ?_
                refine x_val (r_move (en rfl (en rfl (en rfl (en rfl (en rfl s19)))))) (nd_of rfl) rfl ?_
                refine x_val (r_move (en rfl (en rfl (en rfl (en rfl (en rfl (en rfl s18))))))) (nd_of rfl) rfl ?_
                refine x_enter (r_callv Try.call38 (en rfl (en rfl es)) (.cons (en rfl es) (.cons es .nil))) (nd_of rfl) rfl (arg2_eq hti (cut_ok ht.2.1 (by omega) hlt h)) ?_
                rintro _ w ⟨rfl, h⟩
                refine x_val (r_move es) (nd_of rfl) rfl ?_
                refine x_val (r_extract es gc0) (nd_of rfl) rfl ?_
                refine x_val (r_extract (en rfl es) gc1) (nd_of rfl) rfl ?_
                refine x_val (r_assign (en rfl es)) (nd_of rfl) rfl ?_
                refine xw_nil ?_
                exact ⟨⟨by rw [ey1]; exact es, h⟩, ⟨((en rfl (en rfl (en rfl (en rfl (en rfl (en rfl (en rfl (en rfl (en rfl (en rfl (en rfl (en rfl s0))))))))))))).trans zG14_0.symm, ((en rfl (en rfl (en rfl (en rfl (en rfl (en rfl (en rfl (en rfl (en rfl (en rfl (en rfl (en rfl s1))))))))))))).trans zG14_1.symm, ((en rfl (en rfl (en rfl (en rfl (en rfl (en rfl (en rfl (en rfl (en rfl (en rfl (en rfl (en rfl s2))))))))))))).trans zG14_2.symm, ((en rfl (en rfl (en rfl (en rfl (en rfl (en rfl (en rfl (en rfl (en rfl (en rfl (en rfl (en rfl s3))))))))))))).trans zG14_3.symm, ((en rfl (en rfl (en rfl (en rfl (en rfl (en rfl (en rfl (en rfl (en rfl (en rfl (en rfl (en rfl s4))))))))))))).trans zG14_4.symm, ((en rfl (en rfl (en rfl (en rfl (en rfl (en rfl (en rfl (en rfl (en rfl (en rfl (en rfl (en rfl s11))))))))))))).trans zG14_11.symm, ((en rfl (en rfl (en rfl (en rfl (en rfl (en rfl (en rfl (en rfl (en rfl (en rfl (en rfl (en rfl s13))))))))))))).trans zG14_13.symm, ((en rfl (en rfl (en rfl (en rfl (en rfl (en rfl (en rfl (en rfl (en rfl (en rfl (en rfl (en rfl s15))))))))))))).trans zG14_15.symm, ((en rfl (en rfl (en rfl (en rfl (en rfl (en rfl (en rfl (en rfl (en rfl (en rfl (en rfl (en rfl s17))))))))))))).trans zG14_17.symm, ((en rfl (en rfl (en rfl (en rfl (en rfl (en rfl (en rfl (en rfl (en rfl (en rfl (en rfl (en rfl s18))))))))))))).trans zG14_18.symm, ((en rfl (en rfl (en rfl (en rfl (en rfl (en rfl (en rfl (en rfl (en rfl (en rfl (en rfl (en rfl s26))))))))))))).trans zG14_26.symm, ((en rfl (en rfl (en rfl (en rfl (en rfl (en rfl (en rfl (en rfl (en rfl (en rfl (en rfl (en rfl s75))))))))))))).trans zG14_75.symm⟩⟩
              ·
                refine xc_skip ?_
                have hd2 := of_decide_eq_false hc
                rw [if_neg (by omega)] at ey1
                exact ⟨⟨by rw [ey1]; exact s19, h⟩, ⟨(s0).trans zG14_0.symm, (s1).trans zG14_1.symm, (s2).trans zG14_2.symm, (s3).trans zG14_3.symm, (s4).trans zG14_4.symm, (s11).trans zG14_11.symm, (s13).trans zG14_13.symm, (s15).trans zG14_15.symm, (s17).trans zG14_17.symm, (s18).trans zG14_18.symm, (s26).trans zG14_26.symm, (s75).trans zG14_75.symm⟩⟩
            ·
              rintro g w ⟨⟨s19, h⟩, ⟨y0, y1, y2, y3, y4, y11, y13, y15, y17, y18, y26, y75⟩⟩
              have s0 := y0.trans zG14_0
              have s1 := y1.trans zG14_1
              have s2 := y2.trans zG14_2
              have s3 := y3.trans zG14_3
              have s4 := y4.trans zG14_4
              have s11 := y11.trans zG14_11
              have s13 := y13.trans zG14_13
              have s15 := y15.trans zG14_15
              have s17 := y17.trans zG14_17
              have s18 := y18.trans zG14_18
              have s26 := y26.trans zG14_26
              have s75 := y75.trans zG14_75
              obtain ⟨G16, hG16⟩ : ∃ g0 : Nat → Value, g0 = g := ⟨_, rfl⟩
              have zG16_0 : G16 0 = _ := (congrFun hG16 0).trans s0
              have zG16_1 : G16 1 = _ := (congrFun hG16 1).trans s1
              have zG16_2 : G16 2 = _ := (congrFun hG16 2).trans s2
              have zG16_3 : G16 3 = _ := (congrFun hG16 3).trans s3
              have zG16_4 : G16 4 = _ := (congrFun hG16 4).trans s4
              have zG16_11 : G16 11 = _ := (congrFun hG16 11).trans s11
              have zG16_13 : G16 13 = _ := (congrFun hG16 13).trans s13
              have zG16_15 : G16 15 = _ := (congrFun hG16 15).trans s15
              have zG16_17 : G16 17 = _ := (congrFun hG16 17).trans s17
              have zG16_18 : G16 18 = _ := (congrFun hG16 18).trans s18
              have zG16_26 : G16 26 = _ := (congrFun hG16 26).trans s26
              have zG16_75 : G16 75 = _ := (congrFun hG16 75).trans s75
              refine xc_cut (fun f w => (f 19 = xV pxb ∧ SatL E w (TC bt ba ro :: Ar ba pl fr :: Cells b11 (cellOf l x r) 90 :: (M ++ IL (pre ++ PL)))) ∧ (f 0 = G16 0 ∧ f 1 = G16 1 ∧ f 2 = G16 2 ∧ f 3 = G16 3 ∧ f 4 = G16 4 ∧ f 11 = G16 11 ∧ f 13 = G16 13 ∧ f 15 = G16 15 ∧ f 17 = G16 17 ∧ f 18 = G16 18 ∧ f 26 = G16 26 ∧ f 75 = G16 75)) ?_ ?_
              ·
                skip
                refine xc_seq (fun K hK17 => ?_)
                refine xc_region ?_
                refine x_val (r_move s17) (nd_of rfl) rfl ?_
                refine x_val (r_gtr es ec rfl) (nd_of rfl) rfl ?_
                refine xw_nil ?_
                refine hK17 _ _ ?_
                refine xc_gen (fun g hg => ?_)
                have s0 := (hg 0).trans (en rfl (en rfl s0))
                have s1 := (hg 1).trans (en rfl (en rfl s1))
                have s2 := (hg 2).trans (en rfl (en rfl s2))
                have s3 := (hg 3).trans (en rfl (en rfl s3))
                have s4 := (hg 4).trans (en rfl (en rfl s4))
                have s11 := (hg 11).trans (en rfl (en rfl s11))
                have s13 := (hg 13).trans (en rfl (en rfl s13))
                have s15 := (hg 15).trans (en rfl (en rfl s15))
                have s17 := (hg 17).trans (en rfl (en rfl s17))
                have s18 := (hg 18).trans (en rfl (en rfl s18))
                have s19 := (hg 19).trans (en rfl (en rfl s19))
                have s26 := (hg 26).trans (en rfl (en rfl s26))
                have s75 := (hg 75).trans (en rfl (en rfl s75))
                have s93 := (hg 93).trans es
                clear hg
                refine xc_cond s93 (fun hc => ?_) (fun hc => ?_)
                ·
                  have hd2 := of_decide_eq_true hc
                  rw [if_pos (by omega)] at ey2
                  refine xc_region ?_
                  refine x_val (r_move s0) (nd_of rfl) rfl ?_
                  refine x_val (r_nilCheck es) (nd_of rfl) rfl ?_
                  refine x_val (r_fieldAddr (o' := 0) Try.underlying83 rfl Try.sizeOf78 rfl es rfl) (nd_of rfl) rfl ?_
                  refine x_val (r_fieldAddr (o' := 1) Try.underlying78 rfl Try.sizeOf75 rfl es rfl) (nd_of rfl) rfl ?_
                  refine x_val (r_load h 0 rfl Try.isAgg75 es gc1) (nd_of rfl) rfl ?_
                  refine x_val (r_move (en rfl (en rfl (en rfl (en rfl (en rfl s19)))))) (nd_of rfl) rfl ?_
                  refine x_val (r_move (en rfl (en rfl (en rfl (en rfl (en rfl (en rfl s17))))))) (nd_of rfl) rfl ?_
                  refine x_enter (r_callv Try.call38 (en rfl (en rfl es)) (.cons (en rfl es) (.cons es .nil))) (nd_of rfl) rfl (cut_ok hy1 (by omega) (by omega) h) ?_
                  rintro _ w ⟨rfl, h⟩
                  refine x_val (r_move es) (nd_of rfl) rfl ?_
                  refine x_val (r_extract es gc0) (nd_of rfl) rfl ?_
                  refine x_val (r_extract (en rfl es) gc1) (nd_of rfl) rfl ?_
                  refine x_val (r_assign es) (nd_of rfl) rfl ?_
                  refine xw_nil ?_
                  exact ⟨⟨by rw [ey2]; exact es, h⟩, ⟨((en rfl (en rfl (en rfl (en rfl (en rfl (en rfl (en rfl (en rfl (en rfl (en rfl (en rfl (en rfl s0))))))))))))).trans zG16_0.symm, ((en rfl (en rfl (en rfl (en rfl (en rfl (en rfl (en rfl (en rfl (en rfl (en rfl (en rfl (en rfl s1))))))))))))).trans zG16_1.symm, ((en rfl (en rfl (en rfl (en rfl (en rfl (en rfl (en rfl (en rfl (en rfl (en rfl (en rfl (en rfl s2))))))))))))).trans zG16_2.symm, ((en rfl (en rfl (en rfl (en rfl (en rfl (en rfl (en rfl (en rfl (en rfl (en rfl (en rfl (en rfl s3))))))))))))).trans zG16_3.symm, ((en rfl (en rfl (en rfl (en rfl (en rfl (en rfl (en rfl (en rfl (en rfl (en rfl (en rfl (en rfl s4))))))))))))).trans zG16_4.symm, ((en rfl (en rfl (en rfl (en rfl (en rfl (en rfl (en rfl (en rfl (en rfl (en rfl (en rfl (en rfl s11))))))))))))).trans zG16_11.symm, ((en rfl (en rfl (en rfl (en rfl (en rfl (en rfl (en rfl (en rfl (en rfl (en rfl (en rfl (en rfl s13))))))))))))).trans zG16_13.symm, ((en rfl (en rfl (en rfl (en rfl (en rfl (en rfl (en rfl (en rfl (en rfl (en rfl (en rfl (en rfl s15))))))))))))).trans zG16_15.symm, ((en rfl (en rfl (en rfl (en rfl (en rfl (en rfl (en rfl (en rfl (en rfl (en rfl (en rfl (en rfl s17))))))))))))).trans zG16_17.symm, ((en rfl (en rfl (en rfl (en rfl (en rfl (en rfl (en rfl (en rfl (en rfl (en rfl (en rfl (en rfl s18))))))))))))).trans zG16_18.symm, ((en rfl (en rfl (en rfl (en rfl (en rfl (en rfl (en rfl (en rfl (en rfl (en rfl (en rfl (en rfl s26))))))))))))).trans zG16_26.symm, ((en rfl (en rfl (en rfl (en rfl (en rfl (en rfl (en rfl (en rfl (en rfl (en rfl (en rfl (en rfl s75))))))))))))).trans zG16_75.symm⟩⟩
                ·
                  refine xc_skip ?_
                  have hd2 := of_decide_eq_false hc
                  rw [if_neg (by omega)] at ey2
                  exact ⟨⟨by rw [ey2]; exact s19, h⟩, ⟨(s0).trans zG16_0.symm, (s1).trans zG16_1.symm, (s2).trans zG16_2.symm, (s3).trans zG16_3.symm, (s4).trans zG16_4.symm, (s11).trans zG16_11.symm, (s13).trans zG16_13.symm, (s15).trans zG16_15.symm, (s17).trans zG16_17.symm, (s18).trans zG16_18.symm, (s26).trans zG16_26.symm, (s75).trans zG16_75.symm⟩⟩
              ·
                rintro g w ⟨⟨s19, h⟩, ⟨y0, y1, y2, y3, y4, y11, y13, y15, y17, y18, y26, y75⟩⟩
                have s0 := y0.trans zG16_0
                have s1 := y1.trans zG16_1
                have s2 := y2.trans zG16_2
                have s3 := y3.trans zG16_3
                have s4 := y4.trans zG16_4
                have s11 := y11.trans zG16_11
                have s13 := y13.trans zG16_13
                have s15 := y15.trans zG16_15
                have s17 := y17.trans zG16_17
                have s18 := y18.trans zG16_18
                have s26 := y26.trans zG16_26
                have s75 := y75.trans zG16_75
                refine xc_seq (fun K hK18 => ?_)
                refine xc_region ?_
                refine x_val (r_move s4) (nd_of rfl) rfl ?_
                refine x_val (r_move (en rfl s19)) (nd_of rfl) rfl ?_
                refine x_callY (en rfl es) (.cons es .nil) rfl (hY (TC bt ba ro :: Ar ba pl fr :: Cells b11 (cellOf l x r) 90 :: M) (pre ++ PL) pxb _ _ htp hy2 h) ?_; rintro _ w ⟨rfl, h⟩
                refine x_val (r_not es rfl) (nd_of rfl) rfl ?_
                refine xw_nil ?_
                refine hK18 _ _ ?_
                refine xc_gen (fun g hg => ?_)
                have s0 := (hg 0).trans (en rfl (en rfl (en rfl (en rfl s0))))
                have s1 := (hg 1).trans (en rfl (en rfl (en rfl (en rfl s1))))
                have s2 := (hg 2).trans (en rfl (en rfl (en rfl (en rfl s2))))
                have s3 := (hg 3).trans (en rfl (en rfl (en rfl (en rfl s3))))
                have s4 := (hg 4).trans (en rfl (en rfl (en rfl (en rfl s4))))
                have s11 := (hg 11).trans (en rfl (en rfl (en rfl (en rfl s11))))
                have s13 := (hg 13).trans (en rfl (en rfl (en rfl (en rfl s13))))
                have s15 := (hg 15).trans (en rfl (en rfl (en rfl (en rfl s15))))
                have s17 := (hg 17).trans (en rfl (en rfl (en rfl (en rfl s17))))
                have s18 := (hg 18).trans (en rfl (en rfl (en rfl (en rfl s18))))
                have s19 := (hg 19).trans (en rfl (en rfl (en rfl (en rfl s19))))
                have s26 := (hg 26).trans (en rfl (en rfl (en rfl (en rfl s26))))
                have s75 := (hg 75).trans (en rfl (en rfl (en rfl (en rfl s75))))
                have s108 := (hg 108).trans es
                clear hg
                refine xc_cond s108 (fun hc => by cases hc) (fun _ => ?_)
                refine xc_skip ?_
                exact ⟨by rw [hPX, hpart]; exact h, ⟨(s0).trans zG11_0.symm, (s1).trans zG11_1.symm, (s2).trans zG11_2.symm, (s3).trans zG11_3.symm, (s4).trans zG11_4.symm, (s11).trans zG11_11.symm, (s13).trans zG11_13.symm, (s15).trans zG11_15.symm, (s17).trans zG11_17.symm, (s18).trans zG11_18.symm, (s26).trans zG11_26.symm⟩⟩
          ·
            refine xc_skip ?_
            have hd := of_decide_eq_false hc
            have hPX : PX = [] := by rw [ePX, oneL, if_neg (by omega)]
            exact ⟨by rw [hPX, List.append_nil]; exact h, ⟨(s0).trans zG11_0.symm, (s1).trans zG11_1.symm, (s2).trans zG11_2.symm, (s3).trans zG11_3.symm, (s4).trans zG11_4.symm, (s11).trans zG11_11.symm, (s13).trans zG11_13.symm, (s15).trans zG11_15.symm, (s17).trans zG11_17.symm, (s18).trans zG11_18.symm, (s26).trans zG11_26.symm⟩⟩
        ·
          rintro g w ⟨h, ⟨y0, y1, y2, y3, y4, y11, y13, y15, y17, y18, y26⟩⟩
          have s0 := y0.trans zG11_0
          have s1 := y1.trans zG11_1
          have s2 := y2.trans zG11_2
          have s3 := y3.trans zG11_3
          have s4 := y4.trans zG11_4
          have s11 := y11.trans zG11_11
          have s13 := y13.trans zG11_13
          have s15 := y15.trans zG11_15
          have s17 := y17.trans zG11_17
          have s18 := y18.trans zG11_18
          have s26 := y26.trans zG11_26
          rcases Nat.lt_or_ge (sz l.xs + xS x) j with hjr | hjr
          ·
            skip
            refine xc_seq (fun K hK19 => ?_)
            refine xc_region ?_
            refine x_val (r_move s3) (nd_of rfl) rfl ?_
            refine x_val (r_move (en rfl s13)) (nd_of rfl) rfl ?_
            refine x_val (r_move (en rfl (en rfl s15))) (nd_of rfl) rfl ?_
            refine x_val (r_add (en rfl es) es (show _ = ((sz l.xs : Int) + xS x : Int) from by rfl) (by unfold I64; omega)) (nd_of rfl) rfl ?_
            refine x_val (r_leq (en rfl (en rfl (en rfl es))) es (decide_eq_false (by omega))) (nd_of rfl) rfl ?_
            refine x_val (r_move es) (nd_of rfl) rfl ?_
            refine x_take (d := 114) rfl rfl es ?_
            refine x_val (r_move (en rfl (en rfl (en rfl (en rfl (en rfl (en rfl s0))))))) (nd_of rfl) rfl ?_
            refine x_take (d := 114) rfl rfl (en rfl es) ?_
            refine x_val (r_fieldAddr (o' := 2) Try.underlying90 rfl Try.sizeOf3 rfl (en rfl (en rfl (en rfl (en rfl (en rfl (en rfl (en rfl s11))))))) rfl) (nd_of rfl) rfl ?_
            refine x_take (d := 114) rfl rfl (en rfl (en rfl es)) ?_
            refine x_val (r_load h 2 rfl Try.isAgg3 es (nd1 ‹_›)) (nd_of rfl) rfl ?_
            refine x_take (d := 114) rfl rfl (en rfl (en rfl (en rfl es))) ?_
            refine x_val (r_move (en rfl (en rfl (en rfl (en rfl (en rfl (en rfl (en rfl (en rfl (en rfl s2)))))))))) (nd_of rfl) rfl ?_
            refine x_take (d := 114) rfl rfl (en rfl (en rfl (en rfl (en rfl es)))) ?_
            refine x_val (r_move (en rfl (en rfl (en rfl (en rfl (en rfl (en rfl (en rfl (en rfl (en rfl (en rfl s13))))))))))) (nd_of rfl) rfl ?_
            refine x_take (d := 114) rfl rfl (en rfl (en rfl (en rfl (en rfl (en rfl es))))) ?_
            refine x_val (r_sub (en rfl es) es (show _ = ((i : Int) - sz l.xs : Int) from by rfl) (by unfold I64; omega)) (nd_of rfl) rfl ?_
            refine x_take (d := 114) rfl rfl (en rfl (en rfl (en rfl (en rfl (en rfl (en rfl es)))))) ?_
            refine x_val (r_move (en rfl (en rfl (en rfl (en rfl (en rfl (en rfl (en rfl (en rfl (en rfl (en rfl (en rfl (en rfl s15))))))))))))) (nd_of rfl) rfl ?_
            refine x_take (d := 114) rfl rfl (en rfl (en rfl (en rfl (en rfl (en rfl (en rfl (en rfl es))))))) ?_
            refine x_val (r_sub (en rfl es) es (show _ = ((i : Int) - sz l.xs - xS x : Int) from by rfl) (by unfold I64; omega)) (nd_of rfl) rfl ?_
            refine x_take (d := 114) rfl rfl (en rfl (en rfl (en rfl (en rfl (en rfl (en rfl (en rfl (en rfl es)))))))) ?_
            refine x_val (r_max es ec (show _ = (((i - sz l.xs - xS x : Nat) : Int) : Int) from by (split <;> omega))) (nd_of rfl) rfl ?_
            refine x_take (d := 114) rfl rfl (en rfl (en rfl (en rfl (en rfl (en rfl (en rfl (en rfl (en rfl (en rfl es))))))))) ?_
            refine x_val (r_move (en rfl (en rfl (en rfl (en rfl (en rfl (en rfl (en rfl (en rfl (en rfl (en rfl (en rfl (en rfl (en rfl (en rfl (en rfl s3)))))))))))))))) (nd_of rfl) rfl ?_
            refine x_take (d := 114) rfl rfl (en rfl (en rfl (en rfl (en rfl (en rfl (en rfl (en rfl (en rfl (en rfl (en rfl es)))))))))) ?_
            refine x_val (r_move (en rfl (en rfl (en rfl (en rfl (en rfl (en rfl (en rfl (en rfl (en rfl (en rfl (en rfl (en rfl (en rfl (en rfl (en rfl (en rfl s13))))))))))))))))) (nd_of rfl) rfl ?_
            refine x_take (d := 114) rfl rfl (en rfl (en rfl (en rfl (en rfl (en rfl (en rfl (en rfl (en rfl (en rfl (en rfl (en rfl es))))))))))) ?_
            refine x_val (r_sub (en rfl es) es (show _ = ((j : Int) - sz l.xs : Int) from by rfl) (by unfold I64; omega)) (nd_of rfl) rfl ?_
            refine x_take (d := 114) rfl rfl (en rfl (en rfl (en rfl (en rfl (en rfl (en rfl (en rfl (en rfl (en rfl (en rfl (en rfl (en rfl es)))))))))))) ?_
            refine x_val (r_move (en rfl (en rfl (en rfl (en rfl (en rfl (en rfl (en rfl (en rfl (en rfl (en rfl (en rfl (en rfl (en rfl (en rfl (en rfl (en rfl (en rfl (en rfl s15))))))))))))))))))) (nd_of rfl) rfl ?_
            refine x_take (d := 114) rfl rfl (en rfl (en rfl (en rfl (en rfl (en rfl (en rfl (en rfl (en rfl (en rfl (en rfl (en rfl (en rfl (en rfl es))))))))))))) ?_
            refine x_val (r_sub (en rfl es) es (show _ = (((j - sz l.xs - xS x : Nat) : Int) : Int) from by omega) (by unfold I64; omega)) (nd_of rfl) rfl ?_
            refine x_take (d := 114) rfl rfl (en rfl (en rfl (en rfl (en rfl (en rfl (en rfl (en rfl (en rfl (en rfl (en rfl (en rfl (en rfl (en rfl (en rfl es)))))))))))))) ?_
            refine x_val (r_move (en rfl (en rfl (en rfl (en rfl (en rfl (en rfl (en rfl (en rfl (en rfl (en rfl (en rfl (en rfl (en rfl (en rfl (en rfl (en rfl (en rfl (en rfl (en rfl (en rfl s4))))))))))))))))))))) (nd_of rfl) rfl ?_
            refine x_take (d := 114) rfl rfl (en rfl (en rfl (en rfl (en rfl (en rfl (en rfl (en rfl (en rfl (en rfl (en rfl (en rfl (en rfl (en rfl (en rfl (en rfl es))))))))))))))) ?_
            have h := h.f1
            have h := h.f1
            refine x_enter (r_call Try.call52 (.cons (en rfl (en rfl (en rfl (en rfl (en rfl (en rfl (en rfl (en rfl (en rfl (en rfl (en rfl (en rfl (en rfl (en rfl es)))))))))))))) (.cons (en rfl (en rfl (en rfl (en rfl (en rfl (en rfl (en rfl (en rfl (en rfl (en rfl (en rfl (en rfl es)))))))))))) (.cons (en rfl (en rfl (en rfl (en rfl (en rfl (en rfl es)))))) (.cons (en rfl es) (.cons es .nil)))))) (nd_of rfl) rfl (ihr (M := Cells b11 (cellOf l x r) 90 :: M) (i := i - sz l.xs - xS x) (j := j - sz l.xs - xS x) (pre := pre ++ PL ++ PX) ht.2.2.2 hb.right.tail (by omega) (by omega) htr h) ?_
            rintro _ w ⟨rfl, h⟩
            refine x_val (r_pick_f (en rfl (en rfl (en rfl (en rfl (en rfl (en rfl (en rfl (en rfl (en rfl (en rfl (en rfl (en rfl (en rfl (en rfl (en rfl (en rfl es)))))))))))))))) es) (nd_of rfl) rfl ?_
            refine x_val (r_assign es) (nd_of rfl) rfl ?_
            refine xw_nil ?_
            refine hK19 _ _ ?_
            refine xc_gen (fun g hg => ?_)
            have s0 := (hg 0).trans (en rfl (en rfl (en rfl (en rfl (en rfl (en rfl (en rfl (en rfl (en rfl (en rfl (en rfl (en rfl (en rfl (en rfl (en rfl (en rfl (en rfl (en rfl (en rfl (en rfl (en rfl (en rfl (en rfl (en rfl s0))))))))))))))))))))))))
            have s1 := (hg 1).trans (en rfl (en rfl (en rfl (en rfl (en rfl (en rfl (en rfl (en rfl (en rfl (en rfl (en rfl (en rfl (en rfl (en rfl (en rfl (en rfl (en rfl (en rfl (en rfl (en rfl (en rfl (en rfl (en rfl (en rfl s1))))))))))))))))))))))))
            have s2 := (hg 2).trans (en rfl (en rfl (en rfl (en rfl (en rfl (en rfl (en rfl (en rfl (en rfl (en rfl (en rfl (en rfl (en rfl (en rfl (en rfl (en rfl (en rfl (en rfl (en rfl (en rfl (en rfl (en rfl (en rfl (en rfl s2))))))))))))))))))))))))
            have s3 := (hg 3).trans (en rfl (en rfl (en rfl (en rfl (en rfl (en rfl (en rfl (en rfl (en rfl (en rfl (en rfl (en rfl (en rfl (en rfl (en rfl (en rfl (en rfl (en rfl (en rfl (en rfl (en rfl (en rfl (en rfl (en rfl s3))))))))))))))))))))))))
            have s4 := (hg 4).trans (en rfl (en rfl (en rfl (en rfl (en rfl (en rfl (en rfl (en rfl (en rfl (en rfl (en rfl (en rfl (en rfl (en rfl (en rfl (en rfl (en rfl (en rfl (en rfl (en rfl (en rfl (en rfl (en rfl (en rfl s4))))))))))))))))))))))))
            have s10 := (hg 10).trans es
            have s11 := (hg 11).trans (en rfl (en rfl (en rfl (en rfl (en rfl (en rfl (en rfl (en rfl (en rfl (en rfl (en rfl (en rfl (en rfl (en rfl (en rfl (en rfl (en rfl (en rfl (en rfl (en rfl (en rfl (en rfl (en rfl (en rfl s11))))))))))))))))))))))))
            have s13 := (hg 13).trans (en rfl (en rfl (en rfl (en rfl (en rfl (en rfl (en rfl (en rfl (en rfl (en rfl (en rfl (en rfl (en rfl (en rfl (en rfl (en rfl (en rfl (en rfl (en rfl (en rfl (en rfl (en rfl (en rfl (en rfl s13))))))))))))))))))))))))
            have s15 := (hg 15).trans (en rfl (en rfl (en rfl (en rfl (en rfl (en rfl (en rfl (en rfl (en rfl (en rfl (en rfl (en rfl (en rfl (en rfl (en rfl (en rfl (en rfl (en rfl (en rfl (en rfl (en rfl (en rfl (en rfl (en rfl s15))))))))))))))))))))))))
            have s17 := (hg 17).trans (en rfl (en rfl (en rfl (en rfl (en rfl (en rfl (en rfl (en rfl (en rfl (en rfl (en rfl (en rfl (en rfl (en rfl (en rfl (en rfl (en rfl (en rfl (en rfl (en rfl (en rfl (en rfl (en rfl (en rfl s17))))))))))))))))))))))))
            have s18 := (hg 18).trans (en rfl (en rfl (en rfl (en rfl (en rfl (en rfl (en rfl (en rfl (en rfl (en rfl (en rfl (en rfl (en rfl (en rfl (en rfl (en rfl (en rfl (en rfl (en rfl (en rfl (en rfl (en rfl (en rfl (en rfl s18))))))))))))))))))))))))
            have s26 := (hg 26).trans (en rfl (en rfl (en rfl (en rfl (en rfl (en rfl (en rfl (en rfl (en rfl (en rfl (en rfl (en rfl (en rfl (en rfl (en rfl (en rfl (en rfl (en rfl (en rfl (en rfl (en rfl (en rfl (en rfl (en rfl s26))))))))))))))))))))))))
            clear hg
            refine xc_ret ?_
            refine bodyR_1 rfl s10 ?_
            exact ⟨rfl, by rw [← ePR] at h; simp only [List.append_assoc] at h; exact h.f2.drop⟩
          ·
            skip
            refine xc_seq (fun K hK20 => ?_)
            refine xc_region ?_
            refine x_val (r_move s3) (nd_of rfl) rfl ?_
            refine x_val (r_move (en rfl s13)) (nd_of rfl) rfl ?_
            refine x_val (r_move (en rfl (en rfl s15))) (nd_of rfl) rfl ?_
            refine x_val (r_add (en rfl es) es (show _ = ((sz l.xs : Int) + xS x : Int) from by rfl) (by unfold I64; omega)) (nd_of rfl) rfl ?_
            refine x_val (r_leq (en rfl (en rfl (en rfl es))) es (decide_eq_true (by omega))) (nd_of rfl) rfl ?_
            have hPR : PR = [] := by rw [ePR, over_none _ _ _ (by omega)]
            refine x_val (r_move es) (nd_of rfl) rfl ?_
            refine x_pass (d := 114) rfl rfl es rfl ?_
            refine x_pass (d := 114) rfl rfl (en rfl es) rfl ?_
            refine x_pass (d := 114) rfl rfl (en rfl (en rfl es)) rfl ?_
            refine x_pass (d := 114) rfl rfl (en rfl (en rfl (en rfl es))) rfl ?_
            refine x_pass (d := 114) rfl rfl (en rfl (en rfl (en rfl (en rfl es)))) rfl ?_
            refine x_pass (d := 114) rfl rfl (en rfl (en rfl (en rfl (en rfl (en rfl es))))) rfl ?_
            refine x_pass (d := 114) rfl rfl (en rfl (en rfl (en rfl (en rfl (en rfl (en rfl es)))))) rfl ?_
            refine x_pass (d := 114) rfl rfl (en rfl (en rfl (en rfl (en rfl (en rfl (en rfl (en rfl es))))))) rfl ?_
            refine x_pass (d := 114) rfl rfl (en rfl (en rfl (en rfl (en rfl (en rfl (en rfl (en rfl (en rfl es)))))))) rfl ?_
            refine x_pass (d := 114) rfl rfl (en rfl (en rfl (en rfl (en rfl (en rfl (en rfl (en rfl (en rfl (en rfl es))))))))) rfl ?_
            refine x_pass (d := 114) rfl rfl (en rfl (en rfl (en rfl (en rfl (en rfl (en rfl (en rfl (en rfl (en rfl (en rfl es)))))))))) rfl ?_
            refine x_pass (d := 114) rfl rfl (en rfl (en rfl (en rfl (en rfl (en rfl (en rfl (en rfl (en rfl (en rfl (en rfl (en rfl es))))))))))) rfl ?_
            refine x_pass (d := 114) rfl rfl (en rfl (en rfl (en rfl (en rfl (en rfl (en rfl (en rfl (en rfl (en rfl (en rfl (en rfl (en rfl es)))))))))))) rfl ?_
            refine x_pass (d := 114) rfl rfl (en rfl (en rfl (en rfl (en rfl (en rfl (en rfl (en rfl (en rfl (en rfl (en rfl (en rfl (en rfl (en rfl es))))))))))))) rfl ?_
            refine x_pass (d := 114) rfl rfl (en rfl (en rfl (en rfl (en rfl (en rfl (en rfl (en rfl (en rfl (en rfl (en rfl (en rfl (en rfl (en rfl (en rfl es)))))))))))))) rfl ?_
            refine x_pass (d := 114) rfl rfl (en rfl (en rfl (en rfl (en rfl (en rfl (en rfl (en rfl (en rfl (en rfl (en rfl (en rfl (en rfl (en rfl (en rfl (en rfl es))))))))))))))) rfl ?_
            refine x_val (r_pick_t (en rfl (en rfl (en rfl (en rfl (en rfl (en rfl (en rfl (en rfl (en rfl (en rfl (en rfl (en rfl (en rfl (en rfl (en rfl (en rfl es)))))))))))))))) ec) (nd_of rfl) rfl ?_
            refine x_val (r_assign es) (nd_of rfl) rfl ?_
            refine xw_nil ?_
            refine hK20 _ _ ?_
            refine xc_gen (fun g hg => ?_)
            have s0 := (hg 0).trans (en rfl (en rfl (en rfl (en rfl (en rfl (en rfl (en rfl (en rfl (en rfl (en rfl (en rfl (en rfl (en rfl (en rfl (en rfl (en rfl (en rfl (en rfl (en rfl (en rfl (en rfl (en rfl (en rfl (en rfl s0))))))))))))))))))))))))
            have s1 := (hg 1).trans (en rfl (en rfl (en rfl (en rfl (en rfl (en rfl (en rfl (en rfl (en rfl (en rfl (en rfl (en rfl (en rfl (en rfl (en rfl (en rfl (en rfl (en rfl (en rfl (en rfl (en rfl (en rfl (en rfl (en rfl s1))))))))))))))))))))))))
            have s2 := (hg 2).trans (en rfl (en rfl (en rfl (en rfl (en rfl (en rfl (en rfl (en rfl (en rfl (en rfl (en rfl (en rfl (en rfl (en rfl (en rfl (en rfl (en rfl (en rfl (en rfl (en rfl (en rfl (en rfl (en rfl (en rfl s2))))))))))))))))))))))))
            have s3 := (hg 3).trans (en rfl (en rfl (en rfl (en rfl (en rfl (en rfl (en rfl (en rfl (en rfl (en rfl (en rfl (en rfl (en rfl (en rfl (en rfl (en rfl (en rfl (en rfl (en rfl (en rfl (en rfl (en rfl (en rfl (en rfl s3))))))))))))))))))))))))
            have s4 := (hg 4).trans (en rfl (en rfl (en rfl (en rfl (en rfl (en rfl (en rfl (en rfl (en rfl (en rfl (en rfl (en rfl (en rfl (en rfl (en rfl (en rfl (en rfl (en rfl (en rfl (en rfl (en rfl (en rfl (en rfl (en rfl s4))))))))))))))))))))))))
            have s10 := (hg 10).trans es
            have s11 := (hg 11).trans (en rfl (en rfl (en rfl (en rfl (en rfl (en rfl (en rfl (en rfl (en rfl (en rfl (en rfl (en rfl (en rfl (en rfl (en rfl (en rfl (en rfl (en rfl (en rfl (en rfl (en rfl (en rfl (en rfl (en rfl s11))))))))))))))))))))))))
            have s13 := (hg 13).trans (en rfl (en rfl (en rfl (en rfl (en rfl (en rfl (en rfl (en rfl (en rfl (en rfl (en rfl (en rfl (en rfl (en rfl (en rfl (en rfl (en rfl (en rfl (en rfl (en rfl (en rfl (en rfl (en rfl (en rfl s13))))))))))))))))))))))))
            have s15 := (hg 15).trans (en rfl (en rfl (en rfl (en rfl (en rfl (en rfl (en rfl (en rfl (en rfl (en rfl (en rfl (en rfl (en rfl (en rfl (en rfl (en rfl (en rfl (en rfl (en rfl (en rfl (en rfl (en rfl (en rfl (en rfl s15))))))))))))))))))))))))
            have s17 := (hg 17).trans (en rfl (en rfl (en rfl (en rfl (en rfl (en rfl (en rfl (en rfl (en rfl (en rfl (en rfl (en rfl (en rfl (en rfl (en rfl (en rfl (en rfl (en rfl (en rfl (en rfl (en rfl (en rfl (en rfl (en rfl s17))))))))))))))))))))))))
            have s18 := (hg 18).trans (en rfl (en rfl (en rfl (en rfl (en rfl (en rfl (en rfl (en rfl (en rfl (en rfl (en rfl (en rfl (en rfl (en rfl (en rfl (en rfl (en rfl (en rfl (en rfl (en rfl (en rfl (en rfl (en rfl (en rfl s18))))))))))))))))))))))))
            have s26 := (hg 26).trans (en rfl (en rfl (en rfl (en rfl (en rfl (en rfl (en rfl (en rfl (en rfl (en rfl (en rfl (en rfl (en rfl (en rfl (en rfl (en rfl (en rfl (en rfl (en rfl (en rfl (en rfl (en rfl (en rfl (en rfl s26))))))))))))))))))))))))
            clear hg
            refine xc_ret ?_
            refine bodyR_1 rfl s10 ?_
            exact ⟨rfl, by rw [hPR, List.append_nil, ← List.append_assoc]; exact h.f2.drop⟩
    ·
      skip
      refine xc_seq (fun K hK21 => ?_)
      refine xc_region ?_
      refine x_val (r_assign ec) (nd_of rfl) rfl ?_
      refine xw_nil ?_
      refine hK21 _ _ ?_
      refine xc_gen (fun g hg => ?_)
      have s0 := (hg 0).trans (en rfl s0)
      have s1 := (hg 1).trans (en rfl s1)
      have s2 := (hg 2).trans (en rfl s2)
      have s3 := (hg 3).trans (en rfl s3)
      have s4 := (hg 4).trans (en rfl s4)
      have s10 := (hg 10).trans es
      clear hg
      refine xc_seq (fun K hK22 => ?_)
      refine xc_seq (fun K hK23 => ?_)
      refine xc_region ?_
      refine x_val (r_move s1) (nd_of rfl) rfl ?_
      refine x_val (r_eql es ec (decide_eq_false (by omega))) (nd_of rfl) rfl ?_
      refine x_val (r_move es) (nd_of rfl) rfl ?_
      refine x_take (d := 22) rfl rfl es ?_
      refine x_val (r_move (en rfl (en rfl (en rfl s2)))) (nd_of rfl) rfl ?_
      refine x_take (d := 22) rfl rfl (en rfl es) ?_
      refine x_val (r_move (en rfl (en rfl (en rfl (en rfl s3))))) (nd_of rfl) rfl ?_
      refine x_take (d := 22) rfl rfl (en rfl (en rfl es)) ?_
      refine x_val (r_geq (en rfl es) es (decide_eq_true (by omega))) (nd_of rfl) rfl ?_
      have e0 : PL ++ (PX ++ PR) = [] := by rw [ePL, ePX, ePR, ← over_node]; exact over_none _ _ _ hij
      refine x_val (r_pick_f (en rfl (en rfl (en rfl es))) es) (nd_of rfl) rfl ?_
      refine xw_nil ?_
      refine hK23 _ _ ?_
      refine xc_gen (fun g hg => ?_)
      have s0 := (hg 0).trans (en rfl (en rfl (en rfl (en rfl (en rfl (en rfl (en rfl s0)))))))
      have s1 := (hg 1).trans (en rfl (en rfl (en rfl (en rfl (en rfl (en rfl (en rfl s1)))))))
      have s2 := (hg 2).trans (en rfl (en rfl (en rfl (en rfl (en rfl (en rfl (en rfl s2)))))))
      have s3 := (hg 3).trans (en rfl (en rfl (en rfl (en rfl (en rfl (en rfl (en rfl s3)))))))
      have s4 := (hg 4).trans (en rfl (en rfl (en rfl (en rfl (en rfl (en rfl (en rfl s4)))))))
      have s10 := (hg 10).trans (en rfl (en rfl (en rfl (en rfl (en rfl (en rfl (en rfl s10)))))))
      have s26 := (hg 26).trans es
      clear hg
      refine xc_cond s26 (fun _ => ?_) (fun hc => by cases hc)
      refine xc_seq (fun K hK24 => ?_)
      refine xc_region ?_
      refine x_val (r_assign ec) (nd_of rfl) rfl ?_
      refine xw_nil ?_
      refine hK24 _ _ ?_
      refine xc_gen (fun g hg => ?_)
      have s0 := (hg 0).trans (en rfl s0)
      have s1 := (hg 1).trans (en rfl s1)
      have s2 := (hg 2).trans (en rfl s2)
      have s3 := (hg 3).trans (en rfl s3)
      have s4 := (hg 4).trans (en rfl s4)
      have s10 := (hg 10).trans es
      have s26 := (hg 26).trans (en rfl s26)
      clear hg
      refine xc_ret ?_
      refine bodyR_1 rfl s10 ?_
      exact ⟨rfl, by rw [e0, List.append_nil]; exact h⟩
end
end Go.Proofs.Ytonnijghdlakfaa
