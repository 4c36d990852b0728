/-
An object that has a tree when it is wanted first: New, tree, Len, between.
-/
import Derived.Test.YtonnijghdlakfaaT14
namespace Go.Proofs.Ytonnijghdlakfaa
open Go Go.RowKit
def ObjO (b : Nat) (xs : List X) (B : Nat) : SProp := sex fun o : Option (Nat × Nat) => match o with
  | none => star (spure (xs = [])) (Cells b #[.pointer none] 54)
  | some (bt, ba) => star (Cells b #[pT bt] 54) (TreeB bt ba xs B)
section
variable {E : Env} {R : List SProp} {w : World} {b bt ba B B' : Nat} {xs l : List X}
theorem SatL.openObj (h : SatL E w (ObjO b xs B :: R)) : (xs = [] ∧ SatL E w (Cells b #[.pointer none] 54 :: R)) ∨ ∃ bt ba, SatL E w (Cells b #[pT bt] 54 :: TreeB bt ba xs B :: R) := by
  obtain ⟨o, h⟩ := h.openEx
  match o with
  | none =>
    obtain ⟨hp, h⟩ := h.open.pure
    exact .inl ⟨hp, h⟩
  | some (bt, ba) => exact .inr ⟨bt, ba, h.open⟩
theorem SatL.closeObj (h : SatL E w (Cells b #[pT bt] 54 :: TreeB bt ba xs B :: R)) : SatL E w (ObjO b xs B :: R) := h.close.closeEx (some (bt, ba))
theorem SatL.closeObj0 (h : SatL E w (Cells b #[.pointer none] 54 :: R)) : SatL E w (ObjO b [] B :: R) := (h.addPure rfl).close.closeEx none
theorem SatL.treeMono (hB : B ≤ B') (h : SatL E w (TreeB bt ba xs B :: R)) : SatL E w (TreeB bt ba xs B' :: R) := by
  obtain ⟨pl, fr, t, ht, h⟩ := h.openTree
  exact SatL.closeTree ⟨ht.has, ht.nd, ht.xsE, ht.ps, ht.live, Nat.le_trans ht.len hB, ht.bd⟩ h
theorem SatL.objFacts (h : SatL E w (ObjO b xs B :: R)) : Ps xs ∧ Bd xs ∧ (∀ x ∈ xs, xOk x) := by
  rcases h.openObj with ⟨rfl, _⟩ | ⟨bt, ba, h⟩
  · exact ⟨by simp [Ps], Bd.nil, by simp⟩
  · obtain ⟨pl, fr, t, ht, _⟩ := h.f1.openTree
    exact ⟨ht.ps, ht.bd, ht.xsE ▸ ht.has.ok⟩
theorem zObj : ∀ w, (zeroValue 54).run Try.prog w = .ok (.agg #[.pointer none]) w := fun _ => by kernel_rfl
theorem new_o (h : SatL E w R) : Calls Try.prog 7 #[] w (Ret fun v w' => ∃ b, v = pT b ∧ SatL E w' (ObjO b [] 0 :: R)) := by
  refine calls_x Try.func7 rfl Try.ntmps7 rfl ?_
  refine xc_gen (fun g hg => ?_)
  clear hg
  refine xc_seq (fun K hK1 => ?_)
  refine xc_region ?_
  refine x_val (r_assign ec) (nd_of rfl) rfl ?_
  refine xw_nil ?_
  refine hK1 _ _ ?_
  refine xc_gen (fun g hg => ?_)
  have s0 := (hg 0).trans es
  clear hg
  refine xc_seq (fun K hK2 => ?_)
  refine xc_region ?_
  refine x_val (r_build01 Try.underlying54 zObj Try.sizeOf52) (nd_of rfl) rfl ?_
  refine x_boxA h es rfl ?_
  intro b2 w h
  refine x_val (r_assign es) (nd_of rfl) rfl ?_
  refine xw_nil ?_
  refine hK2 _ _ ?_
  refine xc_gen (fun g hg => ?_)
  have s0 := (hg 0).trans es
  clear hg
  refine xc_ret ?_
  refine bodyR_1 rfl s0 ?_
  exact ⟨_, rfl, SatL.closeObj0 h⟩
theorem tree_o (h : SatL E w (ObjO b xs B :: R)) : Calls Try.prog 25 #[pT b] w (Ret fun v w' => ∃ bt ba, v = pT bt ∧ SatL E w' (Cells b #[pT bt] 54 :: TreeB bt ba xs B :: R)) := by
  rcases h.openObj with ⟨rfl, h'⟩ | ⟨bt, ba, h'⟩
  · clear h
    have h := h'
    refine calls_x Try.func25 rfl Try.ntmps25 rfl ?_
    refine xc_gen (fun g hg => ?_)
    have s0 := (hg 0).trans arg0
    clear hg
    refine xc_seq (fun K hK1 => ?_)
    refine xc_region ?_
    refine x_val (r_assign ec) (nd_of rfl) rfl ?_
    refine xw_nil ?_
    refine hK1 _ _ ?_
    refine xc_gen (fun g hg => ?_)
    have s0 := (hg 0).trans (en rfl s0)
    have s2 := (hg 2).trans es
    clear hg
    refine xc_seq (fun K hK2 => ?_)
    refine xc_seq (fun K hK3 => ?_)
    refine xc_region ?_
    refine x_val (r_move s0) (nd_of rfl) rfl ?_
    refine x_val (r_nilCheck es) (nd_of rfl) rfl ?_
    refine x_val (r_fieldAddr (o' := 0) Try.underlying54 rfl Try.sizeOf52 rfl es rfl) (nd_of rfl) rfl ?_
    refine x_val (r_load h 0 rfl Try.isAgg52 es gc0) (nd_of rfl) rfl ?_
    refine x_val (r_eqnil Try.underlying52 es ec (r := true) rfl) (nd_of rfl) rfl ?_
    refine xw_nil ?_
    refine hK3 _ _ ?_
    refine xc_gen (fun g hg => ?_)
    have s0 := (hg 0).trans (en rfl (en rfl (en rfl (en rfl (en rfl s0)))))
    have s2 := (hg 2).trans (en rfl (en rfl (en rfl (en rfl (en rfl s2)))))
    have s7 := (hg 7).trans es
    clear hg
    refine xc_cond s7 (fun _ => ?_) (fun hc => by cases hc)
    refine xc_region ?_
    refine x_val (r_move s0) (nd_of rfl) rfl ?_
    refine x_val (r_build3f (c := #[fnM, fnC, fnJ]) Try.underlying78 zKd Try.sizeOf74 Try.sizeOf75 Try.sizeOf76 ef ef ef (by kernel_rfl)) (nd_of rfl) rfl ?_
    refine x_enter (r_call Try.call36 (.cons es .nil)) (nd_of rfl) rfl (new_t h) ?_
    rintro _ w ⟨bt, ba, rfl, h⟩
    refine x_val (r_nilCheck (en rfl (en rfl es))) (nd_of rfl) rfl ?_
    refine x_val (r_fieldAddr (o' := 0) Try.underlying54 rfl Try.sizeOf52 rfl es rfl) (nd_of rfl) rfl ?_
    refine x_st (r_store h 1 rfl Try.sizeOf52 es (en rfl (en rfl es)) rfl gc0) rfl (h.u1 sc0) ?_
    intro w h
    refine xw_nil ?_
    refine hK2 _ _ ?_
    refine xc_gen (fun g hg => ?_)
    have s0 := (hg 0).trans (en rfl (en rfl (en rfl (en rfl (en rfl s0)))))
    have s2 := (hg 2).trans (en rfl (en rfl (en rfl (en rfl (en rfl s2)))))
    have s7 := (hg 7).trans (en rfl (en rfl (en rfl (en rfl (en rfl s7)))))
    clear hg
    refine xc_seq (fun K hK4 => ?_)
    refine xc_region ?_
    refine x_val (r_move s0) (nd_of rfl) rfl ?_
    refine x_val (r_nilCheck es) (nd_of rfl) rfl ?_
    refine x_val (r_fieldAddr (o' := 0) Try.underlying54 rfl Try.sizeOf52 rfl es rfl) (nd_of rfl) rfl ?_
    refine x_val (r_load h 1 rfl Try.isAgg52 es gc0) (nd_of rfl) rfl ?_
    refine x_val (r_assign es) (nd_of rfl) rfl ?_
    refine xw_nil ?_
    refine hK4 _ _ ?_
    refine xc_gen (fun g hg => ?_)
    have s0 := (hg 0).trans (en rfl (en rfl (en rfl (en rfl (en rfl s0)))))
    have s2 := (hg 2).trans es
    have s7 := (hg 7).trans (en rfl (en rfl (en rfl (en rfl (en rfl s7)))))
    clear hg
    refine xc_ret ?_
    refine bodyR_1 rfl s2 ?_
    exact ⟨bt, ba, rfl, (h.treeMono (Nat.zero_le _)).f1⟩
  · clear h
    have h := h'
    refine calls_x Try.func25 rfl Try.ntmps25 rfl ?_
    refine xc_gen (fun g hg => ?_)
    have s0 := (hg 0).trans arg0
    clear hg
    refine xc_seq (fun K hK1 => ?_)
    refine xc_region ?_
    refine x_val (r_assign ec) (nd_of rfl) rfl ?_
    refine xw_nil ?_
    refine hK1 _ _ ?_
    refine xc_gen (fun g hg => ?_)
    have s0 := (hg 0).trans (en rfl s0)
    have s2 := (hg 2).trans es
    clear hg
    refine xc_seq (fun K hK2 => ?_)
    refine xc_seq (fun K hK3 => ?_)
    refine xc_region ?_
    refine x_val (r_move s0) (nd_of rfl) rfl ?_
    refine x_val (r_nilCheck es) (nd_of rfl) rfl ?_
    refine x_val (r_fieldAddr (o' := 0) Try.underlying54 rfl Try.sizeOf52 rfl es rfl) (nd_of rfl) rfl ?_
    refine x_val (r_load h 0 rfl Try.isAgg52 es gc0) (nd_of rfl) rfl ?_
    refine x_val (r_eqnil Try.underlying52 es ec (r := false) rfl) (nd_of rfl) rfl ?_
    refine xw_nil ?_
    refine hK3 _ _ ?_
    refine xc_gen (fun g hg => ?_)
    have s0 := (hg 0).trans (en rfl (en rfl (en rfl (en rfl (en rfl s0)))))
    have s2 := (hg 2).trans (en rfl (en rfl (en rfl (en rfl (en rfl s2)))))
    have s7 := (hg 7).trans es
    clear hg
    refine xc_cond s7 (fun hc => by cases hc) (fun _ => ?_)
    refine xc_skip ?_
    refine hK2 _ _ ?_
    refine xc_seq (fun K hK4 => ?_)
    refine xc_region ?_
    refine x_val (r_move s0) (nd_of rfl) rfl ?_
    refine x_val (r_nilCheck es) (nd_of rfl) rfl ?_
    refine x_val (r_fieldAddr (o' := 0) Try.underlying54 rfl Try.sizeOf52 rfl es rfl) (nd_of rfl) rfl ?_
    refine x_val (r_load h 0 rfl Try.isAgg52 es gc0) (nd_of rfl) rfl ?_
    refine x_val (r_assign es) (nd_of rfl) rfl ?_
    refine xw_nil ?_
    refine hK4 _ _ ?_
    refine xc_gen (fun g hg => ?_)
    have s0 := (hg 0).trans (en rfl (en rfl (en rfl (en rfl (en rfl s0)))))
    have s2 := (hg 2).trans es
    have s7 := (hg 7).trans (en rfl (en rfl (en rfl (en rfl (en rfl s7)))))
    clear hg
    refine xc_ret ?_
    refine bodyR_1 rfl s2 ?_
    exact ⟨bt, ba, rfl, h⟩
theorem len_o (h : SatL E w (ObjO b xs B :: R)) : Calls Try.prog 14 #[pT b] w (Ret fun v w' => v = .int .i64 (sz xs : Int) ∧ SatL E w' (ObjO b xs B :: R)) := by
  refine calls_x Try.func14 rfl Try.ntmps14 rfl ?_
  refine xc_gen (fun g hg => ?_)
  have s0 := (hg 0).trans arg0
  clear hg
  refine xc_seq (fun K hK1 => ?_)
  refine xc_region ?_
  refine x_val (r_assign ec) (nd_of rfl) rfl ?_
  refine xw_nil ?_
  refine hK1 _ _ ?_
  refine xc_gen (fun g hg => ?_)
  have s0 := (hg 0).trans (en rfl s0)
  have s2 := (hg 2).trans es
  clear hg
  refine xc_seq (fun K hK2 => ?_)
  refine xc_seq (fun K hK3 => ?_)
  refine xc_region ?_
  refine x_val (r_move s0) (nd_of rfl) rfl ?_
  refine x_val (r_eqnil Try.underlying27 es ec (r := false) rfl) (nd_of rfl) rfl ?_
  refine xw_nil ?_
  refine hK3 _ _ ?_
  refine xc_gen (fun g hg => ?_)
  have s0 := (hg 0).trans (en rfl (en rfl s0))
  have s2 := (hg 2).trans (en rfl (en rfl s2))
  have s4 := (hg 4).trans es
  clear hg
  refine xc_cond s4 (fun hc => by cases hc) (fun _ => ?_)
  refine xc_skip ?_
  refine hK2 _ _ ?_
  refine xc_seq (fun K hK4 => ?_)
  refine xc_region ?_
  refine x_val (r_move s0) (nd_of rfl) rfl ?_
  refine x_enter (r_call Try.call25 (.cons es .nil)) (nd_of rfl) rfl (tree_o h) ?_
  rintro _ w ⟨bt, ba, rfl, h⟩
  have h := h.f1
  refine x_enter (r_call Try.call31 (.cons es .nil)) (nd_of rfl) rfl (size_t h) ?_
  rintro _ w ⟨rfl, h⟩
  refine x_val (r_assign es) (nd_of rfl) rfl ?_
  refine xw_nil ?_
  refine hK4 _ _ ?_
  refine xc_gen (fun g hg => ?_)
  have s0 := (hg 0).trans (en rfl (en rfl (en rfl (en rfl s0))))
  have s2 := (hg 2).trans es
  have s4 := (hg 4).trans (en rfl (en rfl (en rfl (en rfl s4))))
  clear hg
  refine xc_ret ?_
  refine bodyR_1 rfl s2 ?_
  exact ⟨rfl, SatL.closeObj h.f1⟩
theorem len_nil (h : SatL E w R) : Calls Try.prog 14 #[.pointer none] w (Ret fun v w' => v = .int .i64 0 ∧ SatL E w' R) := by
  refine calls_x Try.func14 rfl Try.ntmps14 rfl ?_
  refine xc_gen (fun g hg => ?_)
  have s0 := (hg 0).trans arg0
  clear hg
  refine xc_seq (fun K hK1 => ?_)
  refine xc_region ?_
  refine x_val (r_assign ec) (nd_of rfl) rfl ?_
  refine xw_nil ?_
  refine hK1 _ _ ?_
  refine xc_gen (fun g hg => ?_)
  have s0 := (hg 0).trans (en rfl s0)
  have s2 := (hg 2).trans es
  clear hg
  refine xc_seq (fun K hK2 => ?_)
  refine xc_seq (fun K hK3 => ?_)
  refine xc_region ?_
  refine x_val (r_move s0) (nd_of rfl) rfl ?_
  refine x_val (r_eqnil Try.underlying27 es ec (r := true) rfl) (nd_of rfl) rfl ?_
  refine xw_nil ?_
  refine hK3 _ _ ?_
  refine xc_gen (fun g hg => ?_)
  have s0 := (hg 0).trans (en rfl (en rfl s0))
  have s2 := (hg 2).trans (en rfl (en rfl s2))
  have s4 := (hg 4).trans es
  clear hg
  refine xc_cond s4 (fun _ => ?_) (fun hc => by cases hc)
  refine xc_seq (fun K hK4 => ?_)
  refine xc_region ?_
  refine x_val (r_assign ec) (nd_of rfl) rfl ?_
  refine xw_nil ?_
  refine hK4 _ _ ?_
  refine xc_gen (fun g hg => ?_)
  have s0 := (hg 0).trans (en rfl s0)
  have s2 := (hg 2).trans es
  have s4 := (hg 4).trans (en rfl s4)
  clear hg
  refine xc_ret ?_
  refine bodyR_1 rfl s2 ?_
  exact ⟨rfl, h⟩
theorem between_nil {i j : Int} (h : SatL E w R) : Calls Try.prog 24 #[.pointer none, .int .i64 i, .int .i64 j] w (Ret fun v w' => v = .int .i64 1 ∧ SatL E w' R) := by
  refine calls_x Try.func24 rfl Try.ntmps24 rfl ?_
  refine xc_gen (fun g hg => ?_)
  have s0 := (hg 0).trans arg0
  have s1 := (hg 1).trans arg1
  have s2 := (hg 2).trans arg2
  clear hg
  refine xc_seq (fun K hK1 => ?_)
  refine xc_region ?_
  refine x_val (r_assign ec) (nd_of rfl) rfl ?_
  refine xw_nil ?_
  refine hK1 _ _ ?_
  refine xc_gen (fun g hg => ?_)
  have s0 := (hg 0).trans (en rfl s0)
  have s1 := (hg 1).trans (en rfl s1)
  have s2 := (hg 2).trans (en rfl s2)
  have s6 := (hg 6).trans es
  clear hg
  refine xc_seq (fun K hK2 => ?_)
  refine xc_block ?_
  refine xc_seq (fun K hK3 => ?_)
  refine xc_region ?_
  refine x_val (r_move s0) (nd_of rfl) rfl ?_
  refine x_val (r_eqnil Try.underlying27 es ec (r := true) rfl) (nd_of rfl) rfl ?_
  refine x_val (r_assign es) (nd_of rfl) rfl ?_
  refine xw_nil ?_
  refine hK3 _ _ ?_
  refine xc_gen (fun g hg => ?_)
  have s0 := (hg 0).trans (en rfl (en rfl (en rfl s0)))
  have s1 := (hg 1).trans (en rfl (en rfl (en rfl s1)))
  have s2 := (hg 2).trans (en rfl (en rfl (en rfl s2)))
  have s6 := (hg 6).trans (en rfl (en rfl (en rfl s6)))
  have s7 := (hg 7).trans es
  clear hg
  refine xc_cond s7 (fun _ => ?_) (fun hc => by cases hc)
  refine xc_seq (fun K hK4 => ?_)
  refine xc_region ?_
  refine x_val (r_assign ec) (nd_of rfl) rfl ?_
  refine xw_nil ?_
  refine hK4 _ _ ?_
  refine xc_gen (fun g hg => ?_)
  have s0 := (hg 0).trans (en rfl s0)
  have s1 := (hg 1).trans (en rfl s1)
  have s2 := (hg 2).trans (en rfl s2)
  have s6 := (hg 6).trans es
  have s7 := (hg 7).trans (en rfl s7)
  clear hg
  refine xc_ret ?_
  refine bodyR_1 rfl s6 ?_
  exact ⟨rfl, h⟩
/-- is i to j a part? -/
def isPart (n : Nat) (i j : Int) : Prop := 0 ≤ i ∧ i ≤ j ∧ j ≤ (n : Int)
instance (n : Nat) (i j : Int) : Decidable (isPart n i j) := by unfold isPart; infer_instance
theorem between_o {i j : Int} (h : SatL E w (ObjO b xs B :: R)) : Calls Try.prog 24 #[pT b, .int .i64 i, .int .i64 j] w (Ret fun v w' => v = .int .i64 (if isPart (sz xs) i j then 0 else 5) ∧ SatL E w' (ObjO b xs B :: R)) := by
  rcases Int.lt_or_le i 0 with h0 | h0
  · rw [if_neg (fun hh => by have := hh.1; omega)]
    refine calls_x Try.func24 rfl Try.ntmps24 rfl ?_
    refine xc_gen (fun g hg => ?_)
    have s0 := (hg 0).trans arg0
    have s1 := (hg 1).trans arg1
    have s2 := (hg 2).trans arg2
    clear hg
    refine xc_seq (fun K hK1 => ?_)
    refine xc_region ?_
    refine x_val (r_assign ec) (nd_of rfl) rfl ?_
    refine xw_nil ?_
    refine hK1 _ _ ?_
    refine xc_gen (fun g hg => ?_)
    have s0 := (hg 0).trans (en rfl s0)
    have s1 := (hg 1).trans (en rfl s1)
    have s2 := (hg 2).trans (en rfl s2)
    have s6 := (hg 6).trans es
    clear hg
    refine xc_seq (fun K hK2 => ?_)
    refine xc_block ?_
    refine xc_seq (fun K hK3 => ?_)
    refine xc_region ?_
    refine x_val (r_move s0) (nd_of rfl) rfl ?_
    refine x_val (r_eqnil Try.underlying27 es ec (r := false) rfl) (nd_of rfl) rfl ?_
    refine x_val (r_assign es) (nd_of rfl) rfl ?_
    refine xw_nil ?_
    refine hK3 _ _ ?_
    refine xc_gen (fun g hg => ?_)
    have s0 := (hg 0).trans (en rfl (en rfl (en rfl s0)))
    have s1 := (hg 1).trans (en rfl (en rfl (en rfl s1)))
    have s2 := (hg 2).trans (en rfl (en rfl (en rfl s2)))
    have s6 := (hg 6).trans (en rfl (en rfl (en rfl s6)))
    have s7 := (hg 7).trans es
    clear hg
    refine xc_cond s7 (fun hc => by cases hc) (fun _ => ?_)
    refine xc_seq (fun K hK4 => ?_)
    refine xc_region ?_
    refine x_val (r_move s1) (nd_of rfl) rfl ?_
    refine x_val (r_lss es ec (decide_eq_true (by omega))) (nd_of rfl) rfl ?_
    refine x_val (r_move es) (nd_of rfl) rfl ?_
    refine x_pass (d := 13) rfl rfl es rfl ?_
    refine x_pass (d := 13) rfl rfl (en rfl es) rfl ?_
    refine x_pass (d := 13) rfl rfl (en rfl (en rfl es)) rfl ?_
    refine x_val (r_pick_t (en rfl (en rfl (en rfl es))) ec) (nd_of rfl) rfl ?_
    refine x_val (r_move es) (nd_of rfl) rfl ?_
    refine x_pass (d := 18) rfl rfl es rfl ?_
    refine x_pass (d := 18) rfl rfl (en rfl es) rfl ?_
    refine x_pass (d := 18) rfl rfl (en rfl (en rfl es)) rfl ?_
    refine x_pass (d := 18) rfl rfl (en rfl (en rfl (en rfl es))) rfl ?_
    refine x_val (r_pick_t (en rfl (en rfl (en rfl (en rfl es)))) ec) (nd_of rfl) rfl ?_
    refine x_val (r_assign es) (nd_of rfl) rfl ?_
    refine xw_nil ?_
    refine hK4 _ _ ?_
    refine xc_gen (fun g hg => ?_)
    have s0 := (hg 0).trans (en rfl (en rfl (en rfl (en rfl (en rfl (en rfl (en rfl (en rfl (en rfl (en rfl (en rfl (en rfl (en rfl (en rfl s0))))))))))))))
    have s1 := (hg 1).trans (en rfl (en rfl (en rfl (en rfl (en rfl (en rfl (en rfl (en rfl (en rfl (en rfl (en rfl (en rfl (en rfl (en rfl s1))))))))))))))
    have s2 := (hg 2).trans (en rfl (en rfl (en rfl (en rfl (en rfl (en rfl (en rfl (en rfl (en rfl (en rfl (en rfl (en rfl (en rfl (en rfl s2))))))))))))))
    have s6 := (hg 6).trans (en rfl (en rfl (en rfl (en rfl (en rfl (en rfl (en rfl (en rfl (en rfl (en rfl (en rfl (en rfl (en rfl (en rfl s6))))))))))))))
    have s7 := (hg 7).trans (en rfl (en rfl (en rfl (en rfl (en rfl (en rfl (en rfl (en rfl (en rfl (en rfl (en rfl (en rfl (en rfl (en rfl s7))))))))))))))
    have s10 := (hg 10).trans es
    clear hg
    refine xc_cond s10 (fun _ => ?_) (fun hc => by cases hc)
    refine xc_seq (fun K hK5 => ?_)
    refine xc_region ?_
    refine x_val (r_assign ec) (nd_of rfl) rfl ?_
    refine xw_nil ?_
    refine hK5 _ _ ?_
    refine xc_gen (fun g hg => ?_)
    have s0 := (hg 0).trans (en rfl s0)
    have s1 := (hg 1).trans (en rfl s1)
    have s2 := (hg 2).trans (en rfl s2)
    have s6 := (hg 6).trans es
    have s7 := (hg 7).trans (en rfl s7)
    have s10 := (hg 10).trans (en rfl s10)
    clear hg
    refine xc_ret ?_
    refine bodyR_1 rfl s6 ?_
    exact ⟨rfl, h⟩
  rcases Int.lt_or_le j i with h1 | h1
  · rw [if_neg (fun hh => by have := hh.2.1; omega)]
    refine calls_x Try.func24 rfl Try.ntmps24 rfl ?_
    refine xc_gen (fun g hg => ?_)
    have s0 := (hg 0).trans arg0
    have s1 := (hg 1).trans arg1
    have s2 := (hg 2).trans arg2
    clear hg
    refine xc_seq (fun K hK1 => ?_)
    refine xc_region ?_
    refine x_val (r_assign ec) (nd_of rfl) rfl ?_
    refine xw_nil ?_
    refine hK1 _ _ ?_
    refine xc_gen (fun g hg => ?_)
    have s0 := (hg 0).trans (en rfl s0)
    have s1 := (hg 1).trans (en rfl s1)
    have s2 := (hg 2).trans (en rfl s2)
    have s6 := (hg 6).trans es
    clear hg
    refine xc_seq (fun K hK2 => ?_)
    refine xc_block ?_
    refine xc_seq (fun K hK3 => ?_)
    refine xc_region ?_
    refine x_val (r_move s0) (nd_of rfl) rfl ?_
    refine x_val (r_eqnil Try.underlying27 es ec (r := false) rfl) (nd_of rfl) rfl ?_
    refine x_val (r_assign es) (nd_of rfl) rfl ?_
    refine xw_nil ?_
    refine hK3 _ _ ?_
    refine xc_gen (fun g hg => ?_)
    have s0 := (hg 0).trans (en rfl (en rfl (en rfl s0)))
    have s1 := (hg 1).trans (en rfl (en rfl (en rfl s1)))
    have s2 := (hg 2).trans (en rfl (en rfl (en rfl s2)))
    have s6 := (hg 6).trans (en rfl (en rfl (en rfl s6)))
    have s7 := (hg 7).trans es
    clear hg
    refine xc_cond s7 (fun hc => by cases hc) (fun _ => ?_)
    refine xc_seq (fun K hK4 => ?_)
    refine xc_region ?_
    refine x_val (r_move s1) (nd_of rfl) rfl ?_
    refine x_val (r_lss es ec (decide_eq_false (by omega))) (nd_of rfl) rfl ?_
    refine x_val (r_move es) (nd_of rfl) rfl ?_
    refine x_take (d := 13) rfl rfl es ?_
    refine x_val (r_move (en rfl (en rfl (en rfl s1)))) (nd_of rfl) rfl ?_
    refine x_take (d := 13) rfl rfl (en rfl es) ?_
    refine x_val (r_move (en rfl (en rfl (en rfl (en rfl s2))))) (nd_of rfl) rfl ?_
    refine x_take (d := 13) rfl rfl (en rfl (en rfl es)) ?_
    refine x_val (r_gtr (en rfl es) es (decide_eq_true (by omega))) (nd_of rfl) rfl ?_
    refine x_val (r_pick_f (en rfl (en rfl (en rfl es))) es) (nd_of rfl) rfl ?_
    refine x_val (r_move es) (nd_of rfl) rfl ?_
    refine x_pass (d := 18) rfl rfl es rfl ?_
    refine x_pass (d := 18) rfl rfl (en rfl es) rfl ?_
    refine x_pass (d := 18) rfl rfl (en rfl (en rfl es)) rfl ?_
    refine x_pass (d := 18) rfl rfl (en rfl (en rfl (en rfl es))) rfl ?_
    refine x_val (r_pick_t (en rfl (en rfl (en rfl (en rfl es)))) ec) (nd_of rfl) rfl ?_
    refine x_val (r_assign es) (nd_of rfl) rfl ?_
    refine xw_nil ?_
    refine hK4 _ _ ?_
    refine xc_gen (fun g hg => ?_)
    have s0 := (hg 0).trans (en rfl (en rfl (en rfl (en rfl (en rfl (en rfl (en rfl (en rfl (en rfl (en rfl (en rfl (en rfl (en rfl (en rfl s0))))))))))))))
    have s1 := (hg 1).trans (en rfl (en rfl (en rfl (en rfl (en rfl (en rfl (en rfl (en rfl (en rfl (en rfl (en rfl (en rfl (en rfl (en rfl s1))))))))))))))
    have s2 := (hg 2).trans (en rfl (en rfl (en rfl (en rfl (en rfl (en rfl (en rfl (en rfl (en rfl (en rfl (en rfl (en rfl (en rfl (en rfl s2))))))))))))))
    have s6 := (hg 6).trans (en rfl (en rfl (en rfl (en rfl (en rfl (en rfl (en rfl (en rfl (en rfl (en rfl (en rfl (en rfl (en rfl (en rfl s6))))))))))))))
    have s7 := (hg 7).trans (en rfl (en rfl (en rfl (en rfl (en rfl (en rfl (en rfl (en rfl (en rfl (en rfl (en rfl (en rfl (en rfl (en rfl s7))))))))))))))
    have s10 := (hg 10).trans es
    clear hg
    refine xc_cond s10 (fun _ => ?_) (fun hc => by cases hc)
    refine xc_seq (fun K hK5 => ?_)
    refine xc_region ?_
    refine x_val (r_assign ec) (nd_of rfl) rfl ?_
    refine xw_nil ?_
    refine hK5 _ _ ?_
    refine xc_gen (fun g hg => ?_)
    have s0 := (hg 0).trans (en rfl s0)
    have s1 := (hg 1).trans (en rfl s1)
    have s2 := (hg 2).trans (en rfl s2)
    have s6 := (hg 6).trans es
    have s7 := (hg 7).trans (en rfl s7)
    have s10 := (hg 10).trans (en rfl s10)
    clear hg
    refine xc_ret ?_
    refine bodyR_1 rfl s6 ?_
    exact ⟨rfl, h⟩
  rcases Int.lt_or_le (sz xs : Int) j with h2 | h2
  · rw [if_neg (fun hh => by have := hh.2.2; omega)]
    refine calls_x Try.func24 rfl Try.ntmps24 rfl ?_
    refine xc_gen (fun g hg => ?_)
    have s0 := (hg 0).trans arg0
    have s1 := (hg 1).trans arg1
    have s2 := (hg 2).trans arg2
    clear hg
    refine xc_seq (fun K hK1 => ?_)
    refine xc_region ?_
    refine x_val (r_assign ec) (nd_of rfl) rfl ?_
    refine xw_nil ?_
    refine hK1 _ _ ?_
    refine xc_gen (fun g hg => ?_)
    have s0 := (hg 0).trans (en rfl s0)
    have s1 := (hg 1).trans (en rfl s1)
    have s2 := (hg 2).trans (en rfl s2)
    have s6 := (hg 6).trans es
    clear hg
    refine xc_seq (fun K hK2 => ?_)
    refine xc_block ?_
    refine xc_seq (fun K hK3 => ?_)
    refine xc_region ?_
    refine x_val (r_move s0) (nd_of rfl) rfl ?_
    refine x_val (r_eqnil Try.underlying27 es ec (r := false) rfl) (nd_of rfl) rfl ?_
    refine x_val (r_assign es) (nd_of rfl) rfl ?_
    refine xw_nil ?_
    refine hK3 _ _ ?_
    refine xc_gen (fun g hg => ?_)
    have s0 := (hg 0).trans (en rfl (en rfl (en rfl s0)))
    have s1 := (hg 1).trans (en rfl (en rfl (en rfl s1)))
    have s2 := (hg 2).trans (en rfl (en rfl (en rfl s2)))
    have s6 := (hg 6).trans (en rfl (en rfl (en rfl s6)))
    have s7 := (hg 7).trans es
    clear hg
    refine xc_cond s7 (fun hc => by cases hc) (fun _ => ?_)
    refine xc_seq (fun K hK4 => ?_)
    refine xc_region ?_
    refine x_val (r_move s1) (nd_of rfl) rfl ?_
    refine x_val (r_lss es ec (decide_eq_false (by omega))) (nd_of rfl) rfl ?_
    refine x_val (r_move es) (nd_of rfl) rfl ?_
    refine x_take (d := 13) rfl rfl es ?_
    refine x_val (r_move (en rfl (en rfl (en rfl s1)))) (nd_of rfl) rfl ?_
    refine x_take (d := 13) rfl rfl (en rfl es) ?_
    refine x_val (r_move (en rfl (en rfl (en rfl (en rfl s2))))) (nd_of rfl) rfl ?_
    refine x_take (d := 13) rfl rfl (en rfl (en rfl es)) ?_
    refine x_val (r_gtr (en rfl es) es (decide_eq_false (by omega))) (nd_of rfl) rfl ?_
    refine x_val (r_pick_f (en rfl (en rfl (en rfl es))) es) (nd_of rfl) rfl ?_
    refine x_val (r_move es) (nd_of rfl) rfl ?_
    refine x_take (d := 18) rfl rfl es ?_
    refine x_val (r_move (en rfl (en rfl (en rfl (en rfl (en rfl (en rfl (en rfl (en rfl s2))))))))) (nd_of rfl) rfl ?_
    refine x_take (d := 18) rfl rfl (en rfl es) ?_
    refine x_val (r_move (en rfl (en rfl (en rfl (en rfl (en rfl (en rfl (en rfl (en rfl (en rfl s0)))))))))) (nd_of rfl) rfl ?_
    refine x_take (d := 18) rfl rfl (en rfl (en rfl es)) ?_
    refine x_enter (r_call Try.call14 (.cons es .nil)) (nd_of rfl) rfl (len_o h) ?_
    rintro _ w ⟨rfl, h⟩
    refine x_take (d := 18) rfl rfl (en rfl (en rfl (en rfl es))) ?_
    refine x_val (r_gtr (en rfl (en rfl es)) es (decide_eq_true (by omega))) (nd_of rfl) rfl ?_
    refine x_val (r_pick_f (en rfl (en rfl (en rfl (en rfl es)))) es) (nd_of rfl) rfl ?_
    refine x_val (r_assign es) (nd_of rfl) rfl ?_
    refine xw_nil ?_
    refine hK4 _ _ ?_
    refine xc_gen (fun g hg => ?_)
    have s0 := (hg 0).trans (en rfl (en rfl (en rfl (en rfl (en rfl (en rfl (en rfl (en rfl (en rfl (en rfl (en rfl (en rfl (en rfl (en rfl s0))))))))))))))
    have s1 := (hg 1).trans (en rfl (en rfl (en rfl (en rfl (en rfl (en rfl (en rfl (en rfl (en rfl (en rfl (en rfl (en rfl (en rfl (en rfl s1))))))))))))))
    have s2 := (hg 2).trans (en rfl (en rfl (en rfl (en rfl (en rfl (en rfl (en rfl (en rfl (en rfl (en rfl (en rfl (en rfl (en rfl (en rfl s2))))))))))))))
    have s6 := (hg 6).trans (en rfl (en rfl (en rfl (en rfl (en rfl (en rfl (en rfl (en rfl (en rfl (en rfl (en rfl (en rfl (en rfl (en rfl s6))))))))))))))
    have s7 := (hg 7).trans (en rfl (en rfl (en rfl (en rfl (en rfl (en rfl (en rfl (en rfl (en rfl (en rfl (en rfl (en rfl (en rfl (en rfl s7))))))))))))))
    have s10 := (hg 10).trans es
    clear hg
    refine xc_cond s10 (fun _ => ?_) (fun hc => by cases hc)
    refine xc_seq (fun K hK5 => ?_)
    refine xc_region ?_
    refine x_val (r_assign ec) (nd_of rfl) rfl ?_
    refine xw_nil ?_
    refine hK5 _ _ ?_
    refine xc_gen (fun g hg => ?_)
    have s0 := (hg 0).trans (en rfl s0)
    have s1 := (hg 1).trans (en rfl s1)
    have s2 := (hg 2).trans (en rfl s2)
    have s6 := (hg 6).trans es
    have s7 := (hg 7).trans (en rfl s7)
    have s10 := (hg 10).trans (en rfl s10)
    clear hg
    refine xc_ret ?_
    refine bodyR_1 rfl s6 ?_
    exact ⟨rfl, h⟩
  · rw [if_pos ⟨h0, h1, h2⟩]
    refine calls_x Try.func24 rfl Try.ntmps24 rfl ?_
    refine xc_gen (fun g hg => ?_)
    have s0 := (hg 0).trans arg0
    have s1 := (hg 1).trans arg1
    have s2 := (hg 2).trans arg2
    clear hg
    refine xc_seq (fun K hK1 => ?_)
    refine xc_region ?_
    refine x_val (r_assign ec) (nd_of rfl) rfl ?_
    refine xw_nil ?_
    refine hK1 _ _ ?_
    refine xc_gen (fun g hg => ?_)
    have s0 := (hg 0).trans (en rfl s0)
    have s1 := (hg 1).trans (en rfl s1)
    have s2 := (hg 2).trans (en rfl s2)
    have s6 := (hg 6).trans es
    clear hg
    refine xc_seq (fun K hK2 => ?_)
    refine xc_block ?_
    refine xc_seq (fun K hK3 => ?_)
    refine xc_region ?_
    refine x_val (r_move s0) (nd_of rfl) rfl ?_
    refine x_val (r_eqnil Try.underlying27 es ec (r := false) rfl) (nd_of rfl) rfl ?_
    refine x_val (r_assign es) (nd_of rfl) rfl ?_
    refine xw_nil ?_
    refine hK3 _ _ ?_
    refine xc_gen (fun g hg => ?_)
    have s0 := (hg 0).trans (en rfl (en rfl (en rfl s0)))
    have s1 := (hg 1).trans (en rfl (en rfl (en rfl s1)))
    have s2 := (hg 2).trans (en rfl (en rfl (en rfl s2)))
    have s6 := (hg 6).trans (en rfl (en rfl (en rfl s6)))
    have s7 := (hg 7).trans es
    clear hg
    refine xc_cond s7 (fun hc => by cases hc) (fun _ => ?_)
    refine xc_seq (fun K hK4 => ?_)
    refine xc_region ?_
    refine x_val (r_move s1) (nd_of rfl) rfl ?_
    refine x_val (r_lss es ec (decide_eq_false (by omega))) (nd_of rfl) rfl ?_
    refine x_val (r_move es) (nd_of rfl) rfl ?_
    refine x_take (d := 13) rfl rfl es ?_
    refine x_val (r_move (en rfl (en rfl (en rfl s1)))) (nd_of rfl) rfl ?_
    refine x_take (d := 13) rfl rfl (en rfl es) ?_
    refine x_val (r_move (en rfl (en rfl (en rfl (en rfl s2))))) (nd_of rfl) rfl ?_
    refine x_take (d := 13) rfl rfl (en rfl (en rfl es)) ?_
    refine x_val (r_gtr (en rfl es) es (decide_eq_false (by omega))) (nd_of rfl) rfl ?_
    refine x_val (r_pick_f (en rfl (en rfl (en rfl es))) es) (nd_of rfl) rfl ?_
    refine x_val (r_move es) (nd_of rfl) rfl ?_
    refine x_take (d := 18) rfl rfl es ?_
    refine x_val (r_move (en rfl (en rfl (en rfl (en rfl (en rfl (en rfl (en rfl (en rfl s2))))))))) (nd_of rfl) rfl ?_
    refine x_take (d := 18) rfl rfl (en rfl es) ?_
    refine x_val (r_move (en rfl (en rfl (en rfl (en rfl (en rfl (en rfl (en rfl (en rfl (en rfl s0)))))))))) (nd_of rfl) rfl ?_
    refine x_take (d := 18) rfl rfl (en rfl (en rfl es)) ?_
    refine x_enter (r_call Try.call14 (.cons es .nil)) (nd_of rfl) rfl (len_o h) ?_
    rintro _ w ⟨rfl, h⟩
    refine x_take (d := 18) rfl rfl (en rfl (en rfl (en rfl es))) ?_
    refine x_val (r_gtr (en rfl (en rfl es)) es (decide_eq_false (by omega))) (nd_of rfl) rfl ?_
    refine x_val (r_pick_f (en rfl (en rfl (en rfl (en rfl es)))) es) (nd_of rfl) rfl ?_
    refine x_val (r_assign es) (nd_of rfl) rfl ?_
    refine xw_nil ?_
    refine hK4 _ _ ?_
    refine xc_gen (fun g hg => ?_)
    have s0 := (hg 0).trans (en rfl (en rfl (en rfl (en rfl (en rfl (en rfl (en rfl (en rfl (en rfl (en rfl (en rfl (en rfl (en rfl (en rfl s0))))))))))))))
    have s1 := (hg 1).trans (en rfl (en rfl (en rfl (en rfl (en rfl (en rfl (en rfl (en rfl (en rfl (en rfl (en rfl (en rfl (en rfl (en rfl s1))))))))))))))
    have s2 := (hg 2).trans (en rfl (en rfl (en rfl (en rfl (en rfl (en rfl (en rfl (en rfl (en rfl (en rfl (en rfl (en rfl (en rfl (en rfl s2))))))))))))))
    have s6 := (hg 6).trans (en rfl (en rfl (en rfl (en rfl (en rfl (en rfl (en rfl (en rfl (en rfl (en rfl (en rfl (en rfl (en rfl (en rfl s6))))))))))))))
    have s7 := (hg 7).trans (en rfl (en rfl (en rfl (en rfl (en rfl (en rfl (en rfl (en rfl (en rfl (en rfl (en rfl (en rfl (en rfl (en rfl s7))))))))))))))
    have s10 := (hg 10).trans es
    clear hg
    refine xc_cond s10 (fun hc => by cases hc) (fun _ => ?_)
    refine xc_skip ?_
    refine hK2 _ _ ?_
    refine xc_seq (fun K hK5 => ?_)
    refine xc_region ?_
    refine x_val (r_assign ec) (nd_of rfl) rfl ?_
    refine xw_nil ?_
    refine hK5 _ _ ?_
    refine xc_gen (fun g hg => ?_)
    have s0 := (hg 0).trans (en rfl s0)
    have s1 := (hg 1).trans (en rfl s1)
    have s2 := (hg 2).trans (en rfl s2)
    have s6 := (hg 6).trans es
    have s7 := (hg 7).trans (en rfl s7)
    have s10 := (hg 10).trans (en rfl s10)
    clear hg
    refine xc_ret ?_
    refine bodyR_1 rfl s6 ?_
    exact ⟨rfl, h⟩
end
end Go.Proofs.Ytonnijghdlakfaa
