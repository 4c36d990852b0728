/-
A tree's parts as a row of their own: Over, slices.Collect; a new tree.
-/
import Derived.Test.YtonnijghdlakfaaT12
import Derived.Test.YtonnijghdlakfaaY5
namespace Go.Proofs.Ytonnijghdlakfaa
open Go Go.RowKit
section
variable {E : Env} {R : List SProp} {w : World} {bt ba B : Nat} {xs : List X} {i j : Nat}
theorem over_mk (h : SatL E w R) : Calls Try.prog 30 #[pT bt, .int .i64 (i : Int), .int .i64 (j : Int)] w (Ret fun u w' => ∃ c1 c2 c3 : Nat, u = .func (.func 51) #[] #[.pointer (some ⟨c1, 0, none⟩), .pointer (some ⟨c2, 0, none⟩), .pointer (some ⟨c3, 0, none⟩)] ∧
    SatL E w' (Cells c3 #[.int .i64 (j : Int)] 3 :: Cells c2 #[.int .i64 (i : Int)] 3 :: Cells c1 #[pT bt] 52 :: R)) := by
  refine calls_x Try.func30 rfl Try.ntmps30 rfl ?_
  refine xc_gen (fun g hg => ?_)
  have s0 := (hg 0).trans arg0
  have s1 := (hg 1).trans arg1
  have s2 := (hg 2).trans arg2
  clear hg
  refine xc_seq (fun K hK1 => ?_)
  refine xc_region ?_
  refine x_box1 h s0 rfl rfl ?_
  intro b3 w h
  refine x_box1 h (en rfl s1) rfl rfl ?_
  intro b4 w h
  refine x_box1 h (en rfl (en rfl s2)) rfl rfl ?_
  intro b5 w h
  refine x_val (r_assign ec) (nd_of rfl) rfl ?_
  refine xw_nil ?_
  refine hK1 _ _ ?_
  refine xc_gen (fun g hg => ?_)
  have s0 := (hg 0).trans (en rfl (en rfl (en rfl (en rfl s0))))
  have s1 := (hg 1).trans (en rfl (en rfl (en rfl (en rfl s1))))
  have s2 := (hg 2).trans (en rfl (en rfl (en rfl (en rfl s2))))
  have s3 := (hg 3).trans (en rfl (en rfl (en rfl es)))
  have s4 := (hg 4).trans (en rfl (en rfl es))
  have s5 := (hg 5).trans (en rfl es)
  have s6 := (hg 6).trans es
  clear hg
  refine xc_seq (fun K hK2 => ?_)
  refine xc_region ?_
  refine x_val (r_func .nil (.cons s3 (.cons s4 (.cons s5 .nil)))) (nd_of rfl) rfl ?_
  refine x_val (r_assign es) (nd_of rfl) rfl ?_
  refine xw_nil ?_
  refine hK2 _ _ ?_
  refine xc_gen (fun g hg => ?_)
  have s0 := (hg 0).trans (en rfl (en rfl s0))
  have s1 := (hg 1).trans (en rfl (en rfl s1))
  have s2 := (hg 2).trans (en rfl (en rfl s2))
  have s3 := (hg 3).trans (en rfl (en rfl s3))
  have s4 := (hg 4).trans (en rfl (en rfl s4))
  have s5 := (hg 5).trans (en rfl (en rfl s5))
  have s6 := (hg 6).trans es
  clear hg
  refine xc_ret ?_
  refine bodyR_1 rfl s6 ?_
  exact ⟨_, _, _, rfl, h⟩
theorem over1_t {y : Value} {IL : List X → List SProp} {M : List SProp} {c1 c2 c3 : Nat} (hi : i ≤ 1000000000000) (hj : j ≤ 1000000000000)
    (hY : ∀ (M : List SProp) (d : List X) (x : X) (r : List X) (w : World), overL xs i j = d ++ x :: r → xOk x → SatL E w (M ++ IL d) → FnOk Try.prog y [xV x] w (fun u w' => u = .bool true ∧ SatL E w' (M ++ IL (d ++ [x]))))
    (h : SatL E w (Cells c3 #[.int .i64 (j : Int)] 3 :: Cells c2 #[.int .i64 (i : Int)] 3 :: Cells c1 #[pT bt] 52 :: TreeB bt ba xs B :: (M ++ IL []))) :
    Calls Try.prog 51 #[y, .pointer (some ⟨c1, 0, none⟩), .pointer (some ⟨c2, 0, none⟩), .pointer (some ⟨c3, 0, none⟩)] w (Ret fun _ w' => SatL E w' (TreeB bt ba xs B :: (M ++ IL (overL xs i j)))) := by
  obtain ⟨pl, fr, t, ht, h'⟩ := (h.f3).openTree
  clear h
  have h := h'
  have hxs := ht.xsE
  have hbt : Bd t.xs := hxs ▸ ht.bd
  have htot : overL xs i j = [] ++ (overL t.xs i j ++ []) := by rw [hxs]; simp
  refine calls_x Try.func51 rfl Try.ntmps51 rfl ?_
  refine xc_gen (fun g hg => ?_)
  have s0 := (hg 0).trans arg0
  have s1 := (hg 1).trans arg1
  have s2 := (hg 2).trans arg2
  have s3 := (hg 3).trans arg3
  clear hg
  have hS := h
  have hS := (hS.f1).drop
  have hS := hS.pre4
  refine xc_plan 9 [(0, 1), (1, 1), (2, 2), (3, 2), (4, 1), (5, 1), (6, 1), (7, 2), (8, 0)] (by kernel_rfl) rfl (by kernel_rfl) hS ?_
  have h := h.drew
  refine xp_load (i := 0) rfl (fun W hW => r_load hW 3 rfl Try.isAgg52 s1 gc0) rfl (fun _ _ _ hh => by first | exact bodyR_np hh | exact bodyY_np hh | exact hh) ?_
  refine xp_load (i := 1) rfl (fun W hW => r_load hW 3 rfl Try.isAgg52 (en rfl s1) gc0) rfl (fun _ _ _ hh => by first | exact bodyR_np hh | exact bodyY_np hh | exact hh) ?_
  refine xp_read (i := 2) rfl (fun W => r_nilCheck es) rfl (fun _ _ _ hh => by first | exact bodyR_np hh | exact bodyY_np hh | exact hh) ?_
  refine xp_read (i := 3) rfl (fun W => r_fieldAddr (o' := 4) Try.underlying83 rfl Try.sizeOf3 rfl es rfl) rfl (fun _ _ _ hh => by first | exact bodyR_np hh | exact bodyY_np hh | exact hh) ?_
  refine xp_load (i := 4) rfl (fun W hW => r_load hW 0 rfl Try.isAgg3 es gc4) rfl (fun _ _ _ hh => by first | exact bodyR_np hh | exact bodyY_np hh | exact hh) ?_
  refine xp_load (i := 5) rfl (fun W hW => r_load hW 2 rfl Try.isAgg3 (en rfl (en rfl (en rfl (en rfl (en rfl s2))))) gc0) rfl (fun _ _ _ hh => by first | exact bodyR_np hh | exact bodyY_np hh | exact hh) ?_
  refine xp_load (i := 6) rfl (fun W hW => r_load hW 1 rfl Try.isAgg3 (en rfl (en rfl (en rfl (en rfl (en rfl (en rfl s3)))))) gc0) rfl (fun _ _ _ hh => by first | exact bodyR_np hh | exact bodyY_np hh | exact hh) ?_
  refine xp_read (i := 7) rfl (fun W => r_move (en rfl (en rfl (en rfl (en rfl (en rfl (en rfl (en rfl s0)))))))) rfl (fun _ _ _ hh => by first | exact bodyR_np hh | exact bodyY_np hh | exact hh) ?_
  refine xp_enter (i := 8) rfl (r_call Try.call52 (.cons (en rfl (en rfl (en rfl (en rfl (en rfl (en rfl (en rfl es))))))) (.cons (en rfl (en rfl (en rfl es))) (.cons (en rfl (en rfl es)) (.cons (en rfl es) (.cons es .nil)))))) rfl (over_t (IL := IL) hY t (M := Cells c3 #[.int .i64 (j : Int)] 3 :: Cells c2 #[.int .i64 (i : Int)] 3 :: Cells c1 #[pT bt] 52 :: M) (i := i) (j := j) (pre := []) (post := []) ht.has hbt hi hj htot h) ?_
  rintro _ w ⟨rfl, h⟩
  refine ⟨(fun _ => ((h.f1).drop).pre4), ?_⟩
  refine xp_nil ?_
  refine bodyR_0 rfl ?_
  exact SatL.closeTree ht (by rw [← hxs]; exact h.f2.drop.f2.drop.f2.drop)
def Acc (b : Nat) (d : List X) : SProp := sex fun u : Value => star (Cells b #[u] 23) (XRow u d)
theorem SatL.openAcc {b : Nat} {d : List X} (h : SatL E w (Acc b d :: R)) : ∃ u, SatL E w (Cells b #[u] 23 :: XRow u d :: R) := by
  obtain ⟨u, h⟩ := h.openEx
  exact ⟨u, h.open⟩
theorem SatL.closeAcc {b : Nat} {d : List X} {u : Value} (h : SatL E w (Cells b #[u] 23 :: XRow u d :: R)) : SatL E w (Acc b d :: R) := h.close.closeEx u
theorem appendSeq_t {c1 c2 c3 : Nat} (hi : i ≤ 1000000000000) (hj : j ≤ 1000000000000) (hl : (overL xs i j).length ≤ 1000000000)
    (h : SatL E w (Cells c3 #[.int .i64 (j : Int)] 3 :: Cells c2 #[.int .i64 (i : Int)] 3 :: Cells c1 #[pT bt] 52 :: TreeB bt ba xs B :: R)) :
    Calls Try.prog 50 #[.slice none 0 0, .func (.func 51) #[] #[.pointer (some ⟨c1, 0, none⟩), .pointer (some ⟨c2, 0, none⟩), .pointer (some ⟨c3, 0, none⟩)]] w (Ret fun u w' => SatL E w' (XRow u (overL xs i j) :: TreeB bt ba xs B :: R)) := by
  refine calls_y Try.func50 rfl Try.ntmps50 rfl ?_
  refine yc_gen (fun g hg => ?_)
  have s0 := (hg 0).trans arg0
  have s1 := (hg 1).trans arg1
  clear hg
  refine yc_seq (fun K hK1 => ?_)
  refine yc_region ?_
  refine x_box1 h s0 rfl rfl ?_
  intro b2 w h
  refine x_val (r_assign ec) (nd_of rfl) rfl ?_
  refine xw_nil ?_
  refine hK1 _ _ _ ?_
  refine yc_gen (fun g hg => ?_)
  have s0 := (hg 0).trans (en rfl (en rfl s0))
  have s1 := (hg 1).trans (en rfl (en rfl s1))
  have s2 := (hg 2).trans (en rfl es)
  have s4 := (hg 4).trans es
  clear hg
  refine yc_seq (fun K hK2 => ?_)
  refine yc_seq (fun K hK3 => ?_)
  refine yc_region ?_
  refine x_val (r_move s1) (nd_of rfl) rfl ?_
  refine xw_nil ?_
  refine hK3 _ _ _ ?_
  refine yc_gen (fun g hg => ?_)
  have s0 := (hg 0).trans (en rfl s0)
  have s1 := (hg 1).trans (en rfl s1)
  have s2 := (hg 2).trans (en rfl s2)
  have s4 := (hg 4).trans (en rfl s4)
  have s6 := (hg 6).trans es
  clear hg
  refine yc_block ?_
  refine yc_range s6 Try.call51 h ?_
  intro lp D fn tmps w htn htg h
  obtain ⟨lr, hlr, h⟩ := h.loopAbs
  have hR : ∀ (M : List SProp) (d : List X) (x : X) (r : List X) (w : World), overL xs i j = d ++ x :: r → xOk x → SatL E w (M ++ (Acc b2 d :: pt lp (.loop lr) :: pt D (.deferred (some [])) :: R)) → FnOk Try.prog (.func (.yield lp) #[] #[]) [xV x] w (fun u w' => u = .bool true ∧ SatL E w' (M ++ (Acc b2 (d ++ [x]) :: pt lp (.loop lr) :: pt D (.deferred (some [])) :: R))) := by
    intro M d x r w hd hxo h; replace h := h.app; have hox := hxo.cells; have hdl : d.length + 1 ≤ 1000000000 := (by have h9 := congrArg List.length hd; simp only [List.length_append, List.length_cons] at h9; omega); obtain ⟨u0, h⟩ := SatL.openAcc h; have h := h.f2
    subst hlr
    refine fnOk_round h rfl htn ?_
    refine xc_gen (fun g hg => ?_)
    have s0 := (hg 0).trans ((fold_get rfl).trans ((htg 0).trans s0))
    have s1 := (hg 1).trans ((fold_get rfl).trans ((htg 1).trans s1))
    have s2 := (hg 2).trans ((fold_get rfl).trans ((htg 2).trans s2))
    have s4 := (hg 4).trans ((fold_get rfl).trans ((htg 4).trans s4))
    have s6 := (hg 6).trans ((fold_get rfl).trans ((htg 6).trans s6))
    have s7 := (hg 7).trans (fold1_0 (by rw [htn]; decide))
    clear hg
    refine xc_region ?_
    refine x_val (r_assign s7) (nd_of rfl) rfl ?_
    refine xw_nil ?_
    refine thenR_mk ⟨_, _, rfl, h, fun w h => ?_⟩
    obtain ⟨lr2, hlr2, h⟩ := h.loopAbs
    refine xc_gen (fun g hg => ?_)
    have s0 := (hg 0).trans (en rfl s0)
    have s1 := (hg 1).trans (en rfl s1)
    have s2 := (hg 2).trans (en rfl s2)
    have s4 := (hg 4).trans (en rfl s4)
    have s5 := (hg 5).trans es
    have s6 := (hg 6).trans (en rfl s6)
    have s7 := (hg 7).trans (en rfl s7)
    clear hg
    refine xc_block ?_
    refine xc_region ?_
    refine x_val (r_load h 1 rfl Try.isAgg23 s2 gc0) (nd_of rfl) rfl ?_
    refine x_val (r_move (en rfl s5)) (nd_of rfl) rfl ?_
    refine x_bslice (c := xC x) h.f2 Try.underlying23 Try.sizeOf38 zX rfl rfl es (xV_cells hxo) hox rfl ?_; intro bn w h; have h := h.f1
    refine x_append (bytes := 24) h Try.underlying23 (by kernel_rfl) (en rfl (en rfl es)) es ((Nat.one_mul _).symm ▸ hox) (by omega) (by omega) rfl ?_; intro u2 w h; have h := h.f1.drop; obtain ⟨au, cu, rfl, _, _⟩ := h.rowVal
    refine x_st (r_store h 2 rfl Try.sizeOf23 (en rfl (en rfl (en rfl (en rfl s2)))) es rfl gc0) rfl (h.u2 sc0) ?_
    intro w h
    refine xw_nil ?_
    have h := h.f2
    have h := h.f2
    subst hlr2; exact roundR_normal h fun w h => ⟨rfl, SatL.app (SatL.closeAcc (u := .slice au (d.length + 1) cu) (show SatL E w (_ :: Row _ KX (.slice au (d.length + 1) cu) (d ++ [x]).length (flat (d ++ [x])) :: _) by rw [flat_app, xflat_one, List.length_append]; exact ((h.f1).f2).f1))⟩
  have h := h.f2
  have h := SatL.closeAcc (d := []) (b := b2) (u := .slice none 0 0) ((h.rowNil (e := 38) (sz := KX)).f1)
  have h := h.f2
  have h := h.f2
  have h := h.f2
  have h := h.f6
  have h := h.f6
  have h := h.f6
  have h := h.f6
  refine Calls.ret_mono (over1_t (M := []) (IL := fun d => Acc b2 d :: pt lp (.loop lr) :: pt D (.deferred (some [])) :: R) hi hj hR h) ?_; rintro _ w h; subst hlr; refine ⟨_, _, (fun e => by cases e), ((h.f3).f3), ?_⟩; intro w h
  refine hK2 _ _ _ ?_
  refine yc_seq (fun K hK4 => ?_)
  have h := h.f3
  obtain ⟨u, h⟩ := SatL.openAcc h
  have h := h.f4
  have h := h.f3
  have h := h.f3
  have h := h.f3
  have h := h.f4
  refine yc_region ?_
  refine x_val (r_load h 1 rfl Try.isAgg23 s2 gc0) (nd_of rfl) rfl ?_
  refine x_val (r_assign es) (nd_of rfl) rfl ?_
  refine xw_nil ?_
  refine hK4 _ _ _ ?_
  refine yc_gen (fun g hg => ?_)
  have s0 := (hg 0).trans (en rfl (en rfl s0))
  have s1 := (hg 1).trans (en rfl (en rfl s1))
  have s2 := (hg 2).trans (en rfl (en rfl s2))
  have s4 := (hg 4).trans es
  have s6 := (hg 6).trans (en rfl (en rfl s6))
  clear hg
  refine yc_ret ?_
  refine bodyY_mark h ?_; intro w h; refine bodyY_nil ?_
  refine bodyR_1 rfl s4 ?_
  exact (h.drop.drop.f1.drop)
end
end Go.Proofs.Ytonnijghdlakfaa
