/-
What a tree tells: New, Size, Count, Find.
-/
import Derived.Test.YtonnijghdlakfaaT10
namespace Go.Proofs.Ytonnijghdlakfaa
open Go Go.RowKit
def findL : List X → Nat → Option (X × Nat)
  | [], _ => none
  | x :: l, i => if i < xS x then some (x, i) else findL l (i - xS x)
theorem find_app : ∀ (a c : List X) (i : Nat), findL (a ++ c) i = if i < sz a then findL a i else findL c (i - sz a)
  | [], c, i => by simp [sz]
  | x :: a, c, i => by
    have e : sz (x :: a) = xS x + sz a := rfl
    simp only [List.cons_append, findL]
    by_cases h : i < xS x
    · rw [if_pos h, if_pos (by omega), if_pos h]
    · rw [if_neg h, if_neg h, find_app a c (i - xS x)]
      by_cases h2 : i < sz (x :: a)
      · rw [if_pos (by omega), if_pos h2]
      · rw [if_neg (by omega), if_neg h2, e, Nat.sub_sub]
def findV : Option (X × Nat) → Value
  | none => .tuple #[xZ, .int .i64 0, .bool false]
  | some (x, i) => .tuple #[xV x, .int .i64 (i : Int), .bool true]
section
variable {E : Env} {R : List SProp} {w : World} {bt ba B : Nat} {ro : Int} {v : Value} {xs l : List X} {pl : Pl} {fr : List Nat} {t : Tr}
theorem size_t (h : SatL E w (TreeB bt ba xs B :: R)) : Calls Try.prog 31 #[pT bt] w (Ret fun v w' => v = .int .i64 (sz xs : Int) ∧ SatL E w' (TreeB bt ba xs B :: R)) := by
  obtain ⟨pl, fr, t, ht, h⟩ := h.openTree
  refine calls_x Try.func31 rfl Try.ntmps31 rfl ?_
  refine xc_gen (fun g hg => ?_)
  have s0 := (hg 0).trans arg0
  clear hg
  refine xc_seq (fun K hK1 => ?_)
  refine xc_region ?_
  refine x_val (r_assign ec) (nd_of rfl) rfl ?_
  refine xw_nil ?_
  refine hK1 _ _ ?_
  refine xc_gen (fun g hg => ?_)
  have s0 := (hg 0).trans (en rfl s0)
  have s2 := (hg 2).trans es
  clear hg
  refine xc_seq (fun K hK2 => ?_)
  refine xc_region ?_
  refine x_val (r_move s0) (nd_of rfl) rfl ?_
  refine x_val (r_move (en rfl s0)) (nd_of rfl) rfl ?_
  refine x_val (r_nilCheck es) (nd_of rfl) rfl ?_
  refine x_val (r_fieldAddr (o' := 4) Try.underlying83 rfl Try.sizeOf3 rfl es rfl) (nd_of rfl) rfl ?_
  refine x_val (r_load h 0 rfl Try.isAgg3 es gc4) (nd_of rfl) rfl ?_
  refine x_enter (r_call Try.call53 (.cons (en rfl (en rfl (en rfl (en rfl es)))) (.cons es .nil))) (nd_of rfl) rfl (totals_t ht.has h) ?_
  rintro _ w ⟨rfl, h⟩
  refine x_val (r_move es) (nd_of rfl) rfl ?_
  refine x_val (r_extract es gc0) (nd_of rfl) rfl ?_
  refine x_val (r_extract (en rfl es) gc1) (nd_of rfl) rfl ?_
  refine x_val (r_extract (en rfl (en rfl es)) gc2) (nd_of rfl) rfl ?_
  refine x_val (r_assign (en rfl (en rfl es))) (nd_of rfl) rfl ?_
  refine x_val (r_assign (en rfl (en rfl es))) (nd_of rfl) rfl ?_
  refine x_val (r_assign (en rfl (en rfl es))) (nd_of rfl) rfl ?_
  refine xw_nil ?_
  refine hK2 _ _ ?_
  refine xc_gen (fun g hg => ?_)
  have s0 := (hg 0).trans (en rfl (en rfl (en rfl (en rfl (en rfl (en rfl (en rfl (en rfl (en rfl (en rfl (en rfl (en rfl (en rfl s0)))))))))))))
  have s2 := (hg 2).trans (en rfl (en rfl (en rfl (en rfl (en rfl (en rfl (en rfl (en rfl (en rfl (en rfl (en rfl (en rfl (en rfl s2)))))))))))))
  have s4 := (hg 4).trans (en rfl es)
  clear hg
  refine xc_seq (fun K hK3 => ?_)
  refine xc_region ?_
  refine x_val (r_move s4) (nd_of rfl) rfl ?_
  refine x_val (r_assign es) (nd_of rfl) rfl ?_
  refine xw_nil ?_
  refine hK3 _ _ ?_
  refine xc_gen (fun g hg => ?_)
  have s0 := (hg 0).trans (en rfl (en rfl s0))
  have s2 := (hg 2).trans es
  have s4 := (hg 4).trans (en rfl (en rfl s4))
  clear hg
  refine xc_ret ?_
  refine bodyR_1 rfl s2 ?_
  exact ⟨by rw [ht.xsE], SatL.closeTree ht h⟩
theorem find_neg {i : Int} (hi : i < 0) (h : SatL E w (TreeB bt ba xs B :: R)) : Calls Try.prog 32 #[pT bt, .int .i64 i] w (Ret fun v w' => v = findV none ∧ SatL E w' (TreeB bt ba xs B :: R)) := by
  obtain ⟨pl, fr, t, ht, h⟩ := h.openTree
  refine calls_x Try.func32 rfl Try.ntmps32 rfl ?_
  refine xc_gen (fun g hg => ?_)
  have s0 := (hg 0).trans arg0
  have s1 := (hg 1).trans arg1
  clear hg
  refine xc_seq (fun K hK1 => ?_)
  refine xc_region ?_
  refine x_val (r_assign ec) (nd_of rfl) rfl ?_
  refine x_val (r_assign ec) (nd_of rfl) rfl ?_
  refine x_val (r_assign ec) (nd_of rfl) rfl ?_
  refine xw_nil ?_
  refine hK1 _ _ ?_
  refine xc_gen (fun g hg => ?_)
  have s0 := (hg 0).trans (en rfl (en rfl (en rfl s0)))
  have s1 := (hg 1).trans (en rfl (en rfl (en rfl s1)))
  have s4 := (hg 4).trans (en rfl (en rfl es))
  have s5 := (hg 5).trans (en rfl es)
  have s6 := (hg 6).trans es
  clear hg
  refine xc_seq (fun K hK2 => ?_)
  refine xc_seq (fun K hK3 => ?_)
  refine xc_region ?_
  refine x_val (r_move s0) (nd_of rfl) rfl ?_
  refine x_val (r_nilCheck es) (nd_of rfl) rfl ?_
  refine x_val (r_fieldAddr (o' := 4) Try.underlying83 rfl Try.sizeOf3 rfl es rfl) (nd_of rfl) rfl ?_
  refine x_val (r_load h 0 rfl Try.isAgg3 es gc4) (nd_of rfl) rfl ?_
  refine x_val (r_assign es) (nd_of rfl) rfl ?_
  refine xw_nil ?_
  refine hK3 _ _ ?_
  refine xc_gen (fun g hg => ?_)
  have s0 := (hg 0).trans (en rfl (en rfl (en rfl (en rfl (en rfl s0)))))
  have s1 := (hg 1).trans (en rfl (en rfl (en rfl (en rfl (en rfl s1)))))
  have s4 := (hg 4).trans (en rfl (en rfl (en rfl (en rfl (en rfl s4)))))
  have s5 := (hg 5).trans (en rfl (en rfl (en rfl (en rfl (en rfl s5)))))
  have s6 := (hg 6).trans (en rfl (en rfl (en rfl (en rfl (en rfl s6)))))
  have s7 := (hg 7).trans es
  clear hg
  refine xc_block ?_
  obtain ⟨G4, hG4⟩ : ∃ g0 : Nat → Value, g0 = g := ⟨_, rfl⟩
  have zG4_0 : G4 0 = _ := (congrFun hG4 0).trans s0
  refine xc_loop (fun m f w => (m = 0 ∧ f 1 = .int .i64 i ∧ f 4 = xZ ∧ SatL E w (TC bt ba t.root :: Ar ba pl fr :: R)) ∧ (f 0 = G4 0)) (0) ⟨⟨rfl, s1, s4, h⟩, congrFun hG4.symm 0⟩ ?_
  rintro m g w ⟨⟨hm, s1, s4, h⟩, y0⟩
  have s0 := y0.trans zG4_0
  refine xc_seq (fun K hK5 => ?_)
  refine xc_seq (fun K hK6 => ?_)
  refine xc_region ?_
  refine x_val (r_move s1) (nd_of rfl) rfl ?_
  refine x_val (r_geq es ec (decide_eq_false (by omega))) (nd_of rfl) rfl ?_
  refine x_val (r_move es) (nd_of rfl) rfl ?_
  refine x_pass (d := 20) rfl rfl es rfl ?_
  refine x_pass (d := 20) rfl rfl (en rfl es) rfl ?_
  refine x_val (r_pick_f (en rfl (en rfl es)) ec) (nd_of rfl) rfl ?_
  refine xw_nil ?_
  refine hK6 _ _ ?_
  refine xc_gen (fun g hg => ?_)
  have s0 := (hg 0).trans (en rfl (en rfl (en rfl (en rfl (en rfl (en rfl s0))))))
  have s1 := (hg 1).trans (en rfl (en rfl (en rfl (en rfl (en rfl (en rfl s1))))))
  have s4 := (hg 4).trans (en rfl (en rfl (en rfl (en rfl (en rfl (en rfl s4))))))
  have s23 := (hg 23).trans es
  clear hg
  refine xc_cond s23 (fun hc => by cases hc) (fun _ => ?_)
  refine xc_exit ?_
  refine hK2 _ _ ?_
  refine xc_seq (fun K hK7 => ?_)
  refine xc_region ?_
  refine x_val (r_move s4) (nd_of rfl) rfl ?_
  refine x_val (r_assign es) (nd_of rfl) rfl ?_
  refine x_val (r_assign ec) (nd_of rfl) rfl ?_
  refine x_val (r_assign ec) (nd_of rfl) rfl ?_
  refine xw_nil ?_
  refine hK7 _ _ ?_
  refine xc_gen (fun g hg => ?_)
  have s0 := (hg 0).trans (en rfl (en rfl (en rfl (en rfl s0))))
  have s1 := (hg 1).trans (en rfl (en rfl (en rfl (en rfl s1))))
  have s4 := (hg 4).trans (en rfl (en rfl es))
  have s5 := (hg 5).trans (en rfl es)
  have s6 := (hg 6).trans es
  have s23 := (hg 23).trans (en rfl (en rfl (en rfl (en rfl s23))))
  clear hg
  refine xc_ret ?_
  refine bodyR_3 rfl s4 s5 s6 ?_
  exact ⟨rfl, SatL.closeTree ht h⟩
theorem find_t {i : Nat} (hi : i ≤ 9223372036854775807) (h : SatL E w (TreeB bt ba xs B :: R)) : Calls Try.prog 32 #[pT bt, .int .i64 (i : Int)] w (Ret fun v w' => v = findV (findL xs i) ∧ SatL E w' (TreeB bt ba xs B :: R)) := by
  obtain ⟨pl, fr, t, ht, h⟩ := h.openTree
  have hxs := ht.xsE
  have hbt : Bd t.xs := hxs ▸ ht.bd
  refine calls_x Try.func32 rfl Try.ntmps32 rfl ?_
  refine xc_gen (fun g hg => ?_)
  have s0 := (hg 0).trans arg0
  have s1 := (hg 1).trans arg1
  clear hg
  refine xc_seq (fun K hK1 => ?_)
  refine xc_region ?_
  refine x_val (r_assign ec) (nd_of rfl) rfl ?_
  refine x_val (r_assign ec) (nd_of rfl) rfl ?_
  refine x_val (r_assign ec) (nd_of rfl) rfl ?_
  refine xw_nil ?_
  refine hK1 _ _ ?_
  refine xc_gen (fun g hg => ?_)
  have s0 := (hg 0).trans (en rfl (en rfl (en rfl s0)))
  have s1 := (hg 1).trans (en rfl (en rfl (en rfl s1)))
  have s4 := (hg 4).trans (en rfl (en rfl es))
  have s5 := (hg 5).trans (en rfl es)
  have s6 := (hg 6).trans es
  clear hg
  refine xc_seq (fun K hK2 => ?_)
  refine xc_seq (fun K hK3 => ?_)
  refine xc_region ?_
  refine x_val (r_move s0) (nd_of rfl) rfl ?_
  refine x_val (r_nilCheck es) (nd_of rfl) rfl ?_
  refine x_val (r_fieldAddr (o' := 4) Try.underlying83 rfl Try.sizeOf3 rfl es rfl) (nd_of rfl) rfl ?_
  refine x_val (r_load h 0 rfl Try.isAgg3 es gc4) (nd_of rfl) rfl ?_
  refine x_val (r_assign es) (nd_of rfl) rfl ?_
  refine xw_nil ?_
  refine hK3 _ _ ?_
  refine xc_gen (fun g hg => ?_)
  have s0 := (hg 0).trans (en rfl (en rfl (en rfl (en rfl (en rfl s0)))))
  have s1 := (hg 1).trans (en rfl (en rfl (en rfl (en rfl (en rfl s1)))))
  have s4 := (hg 4).trans (en rfl (en rfl (en rfl (en rfl (en rfl s4)))))
  have s5 := (hg 5).trans (en rfl (en rfl (en rfl (en rfl (en rfl s5)))))
  have s6 := (hg 6).trans (en rfl (en rfl (en rfl (en rfl (en rfl s6)))))
  have s7 := (hg 7).trans es
  clear hg
  refine xc_block ?_
  obtain ⟨G4, hG4⟩ : ∃ g0 : Nat → Value, g0 = g := ⟨_, rfl⟩
  have zG4_0 : G4 0 = _ := (congrFun hG4 0).trans s0
  refine xc_loop (fun m f w => (∃ (s : Tr) (k : Nat), m = s.n ∧ k ≤ 9223372036854775807 ∧ Has pl s ∧ Bd s.xs ∧ findL s.xs k = findL xs i ∧ f 1 = .int .i64 (k : Int) ∧ f 7 = .int .i64 s.root ∧ f 4 = xZ ∧ SatL E w (TC bt ba t.root :: Ar ba pl fr :: R)) ∧ (f 0 = G4 0)) (t.n) ⟨⟨t, i, rfl, hi, ht.has, hbt, by rw [hxs], s1, s7, s4, h⟩, congrFun hG4.symm 0⟩ ?_
  rintro m g w ⟨⟨s, k, hm, hk, hs, hbs, hfe, s1, s7, s4, h⟩, y0⟩
  have s0 := y0.trans zG4_0
  obtain rfl | ⟨n0, a, x, c, rfl⟩ : s = .nil ∨ ∃ k l x r, s = .node k l x r := by cases s with | nil => exact .inl rfl | node k l x r => exact .inr ⟨_, _, _, _, rfl⟩
  ·
    skip
    refine xc_seq (fun K hK5 => ?_)
    refine xc_seq (fun K hK6 => ?_)
    refine xc_region ?_
    refine x_val (r_move s1) (nd_of rfl) rfl ?_
    refine x_val (r_geq es ec (decide_eq_true (by omega))) (nd_of rfl) rfl ?_
    refine x_val (r_move es) (nd_of rfl) rfl ?_
    refine x_take (d := 20) rfl rfl es ?_
    refine x_val (r_move (en rfl (en rfl (en rfl s7)))) (nd_of rfl) rfl ?_
    refine x_take (d := 20) rfl rfl (en rfl es) ?_
    refine x_val (r_neq es ec (decide_eq_false (by (simp [Tr.root])))) (nd_of rfl) rfl ?_
    refine x_val (r_pick_t (en rfl (en rfl es)) es) (nd_of rfl) rfl ?_
    refine xw_nil ?_
    refine hK6 _ _ ?_
    refine xc_gen (fun g hg => ?_)
    have s0 := (hg 0).trans (en rfl (en rfl (en rfl (en rfl (en rfl (en rfl s0))))))
    have s1 := (hg 1).trans (en rfl (en rfl (en rfl (en rfl (en rfl (en rfl s1))))))
    have s4 := (hg 4).trans (en rfl (en rfl (en rfl (en rfl (en rfl (en rfl s4))))))
    have s7 := (hg 7).trans (en rfl (en rfl (en rfl (en rfl (en rfl (en rfl s7))))))
    have s23 := (hg 23).trans es
    clear hg
    refine xc_cond s23 (fun hc => by cases hc) (fun _ => ?_)
    refine xc_exit ?_
    refine hK2 _ _ ?_
    refine xc_seq (fun K hK7 => ?_)
    refine xc_region ?_
    refine x_val (r_move s4) (nd_of rfl) rfl ?_
    refine x_val (r_assign es) (nd_of rfl) rfl ?_
    refine x_val (r_assign ec) (nd_of rfl) rfl ?_
    refine x_val (r_assign ec) (nd_of rfl) rfl ?_
    refine xw_nil ?_
    refine hK7 _ _ ?_
    refine xc_gen (fun g hg => ?_)
    have s0 := (hg 0).trans (en rfl (en rfl (en rfl (en rfl s0))))
    have s1 := (hg 1).trans (en rfl (en rfl (en rfl (en rfl s1))))
    have s4 := (hg 4).trans (en rfl (en rfl es))
    have s5 := (hg 5).trans (en rfl es)
    have s6 := (hg 6).trans es
    have s7 := (hg 7).trans (en rfl (en rfl (en rfl (en rfl s7))))
    have s23 := (hg 23).trans (en rfl (en rfl (en rfl (en rfl s23))))
    clear hg
    refine xc_ret ?_
    refine bodyR_3 rfl s4 s5 s6 ?_
    exact ⟨by rw [← hfe]; rfl, SatL.closeTree ht h⟩
  ·
    skip
    refine xc_seq (fun K hK8 => ?_)
    refine xc_seq (fun K hK9 => ?_)
    have hox := hs.2.1.cells
    have hb0 := hbs
    simp only [Tr.xs, Bd, List.length_append, List.length_cons, sz_app, mks_app, sz, mks] at hb0
    simp only [Tr.xs] at hfe hbs
    rw [find_app] at hfe
    simp only [Tr.n] at hm
    refine xc_region ?_
    refine x_val (r_move s1) (nd_of rfl) rfl ?_
    refine x_val (r_geq es ec (decide_eq_true (by omega))) (nd_of rfl) rfl ?_
    refine x_val (r_move es) (nd_of rfl) rfl ?_
    refine x_take (d := 20) rfl rfl es ?_
    refine x_val (r_move (en rfl (en rfl (en rfl s7)))) (nd_of rfl) rfl ?_
    refine x_take (d := 20) rfl rfl (en rfl es) ?_
    refine x_val (r_neq es ec (decide_eq_true (by (simp only [Tr.root]; omega)))) (nd_of rfl) rfl ?_
    refine x_val (r_pick_t (en rfl (en rfl es)) es) (nd_of rfl) rfl ?_
    refine xw_nil ?_
    refine hK9 _ _ ?_
    refine xc_gen (fun g hg => ?_)
    have s0 := (hg 0).trans (en rfl (en rfl (en rfl (en rfl (en rfl (en rfl s0))))))
    have s1 := (hg 1).trans (en rfl (en rfl (en rfl (en rfl (en rfl (en rfl s1))))))
    have s4 := (hg 4).trans (en rfl (en rfl (en rfl (en rfl (en rfl (en rfl s4))))))
    have s7 := (hg 7).trans (en rfl (en rfl (en rfl (en rfl (en rfl (en rfl s7))))))
    have s23 := (hg 23).trans es
    clear hg
    refine xc_cond s23 (fun _ => ?_) (fun hc => by cases hc)
    refine xc_skip ?_
    refine hK8 _ _ ?_
    refine xc_block ?_
    refine xc_seq (fun K hK10 => ?_)
    refine xc_region ?_
    refine x_val (r_move s0) (nd_of rfl) rfl ?_
    refine x_val (r_move (en rfl s7)) (nd_of rfl) rfl ?_
    have h := h.f1
    have h := h.f1
    refine x_enter (r_call Try.call54 (.cons (en rfl es) (.cons es .nil))) (nd_of rfl) rfl (at_t hs.1 h) ?_
    rintro _ w ⟨rfl, h⟩
    refine x_declA h Try.zeroValue90 Try.sizeOf90 rfl (en rfl es) (by first | assumption | exact Ok.node (by assumption) | exact xOk.cells (by assumption) | exact ChOk.ok (by assumption)) rfl ?_
    intro b8 w h
    refine xw_nil ?_
    refine hK10 _ _ ?_
    refine xc_gen (fun g hg => ?_)
    have s0 := (hg 0).trans (en rfl (en rfl (en rfl (en rfl s0))))
    have s1 := (hg 1).trans (en rfl (en rfl (en rfl (en rfl s1))))
    have s4 := (hg 4).trans (en rfl (en rfl (en rfl (en rfl s4))))
    have s7 := (hg 7).trans (en rfl (en rfl (en rfl (en rfl s7))))
    have s8 := (hg 8).trans es
    have s23 := (hg 23).trans (en rfl (en rfl (en rfl (en rfl s23))))
    clear hg
    refine xc_seq (fun K hK11 => ?_)
    refine xc_region ?_
    refine x_val (r_move s0) (nd_of rfl) rfl ?_
    refine x_val (r_fieldAddr (o' := 1) Try.underlying90 rfl Try.sizeOf3 rfl (en rfl s8) rfl) (nd_of rfl) rfl ?_
    refine x_val (r_load h 0 rfl Try.isAgg3 es (nd0 ‹_›)) (nd_of rfl) rfl ?_
    have h := h.f2
    have h := h.f2
    refine x_enter (r_call Try.call53 (.cons (en rfl (en rfl es)) (.cons es .nil))) (nd_of rfl) rfl (totals_t hs.2.2.1 h) ?_
    rintro _ w ⟨rfl, h⟩
    refine x_val (r_move es) (nd_of rfl) rfl ?_
    refine x_val (r_extract es gc0) (nd_of rfl) rfl ?_
    refine x_val (r_extract (en rfl es) gc1) (nd_of rfl) rfl ?_
    refine x_val (r_extract (en rfl (en rfl es)) gc2) (nd_of rfl) rfl ?_
    refine x_val (r_assign (en rfl (en rfl es))) (nd_of rfl) rfl ?_
    refine x_val (r_assign (en rfl (en rfl es))) (nd_of rfl) rfl ?_
    refine x_val (r_assign (en rfl (en rfl es))) (nd_of rfl) rfl ?_
    refine xw_nil ?_
    refine hK11 _ _ ?_
    refine xc_gen (fun g hg => ?_)
    have s0 := (hg 0).trans (en rfl (en rfl (en rfl (en rfl (en rfl (en rfl (en rfl (en rfl (en rfl (en rfl (en rfl s0)))))))))))
    have s1 := (hg 1).trans (en rfl (en rfl (en rfl (en rfl (en rfl (en rfl (en rfl (en rfl (en rfl (en rfl (en rfl s1)))))))))))
    have s4 := (hg 4).trans (en rfl (en rfl (en rfl (en rfl (en rfl (en rfl (en rfl (en rfl (en rfl (en rfl (en rfl s4)))))))))))
    have s7 := (hg 7).trans (en rfl (en rfl (en rfl (en rfl (en rfl (en rfl (en rfl (en rfl (en rfl (en rfl (en rfl s7)))))))))))
    have s8 := (hg 8).trans (en rfl (en rfl (en rfl (en rfl (en rfl (en rfl (en rfl (en rfl (en rfl (en rfl (en rfl s8)))))))))))
    have s10 := (hg 10).trans (en rfl es)
    have s23 := (hg 23).trans (en rfl (en rfl (en rfl (en rfl (en rfl (en rfl (en rfl (en rfl (en rfl (en rfl (en rfl s23)))))))))))
    clear hg
    refine xc_seq (fun K hK12 => ?_)
    refine xc_plan 13 [(0, 2), (1, 2), (2, 2), (3, 2), (4, 1), (5, 2), (6, 1), (7, 0), (8, 2), (9, 2), (10, 2), (11, 2), (12, 2)] (by kernel_rfl) rfl (by kernel_rfl) h ?_
    have h := h.drew
    refine xp_read (i := 0) rfl (fun W => r_move s0) rfl (fun _ _ _ hh => by first | exact bodyR_np hh | exact bodyY_np hh | exact hh) ?_
    refine xp_read (i := 1) rfl (fun W => r_nilCheck es) rfl (fun _ _ _ hh => by first | exact bodyR_np hh | exact bodyY_np hh | exact hh) ?_
    refine xp_read (i := 2) rfl (fun W => r_fieldAddr (o' := 0) Try.underlying83 rfl Try.sizeOf78 rfl es rfl) rfl (fun _ _ _ hh => by first | exact bodyR_np hh | exact bodyY_np hh | exact hh) ?_
    refine xp_read (i := 3) rfl (fun W => r_fieldAddr (o' := 0) Try.underlying78 rfl Try.sizeOf74 rfl es rfl) rfl (fun _ _ _ hh => by first | exact bodyR_np hh | exact bodyY_np hh | exact hh) ?_
    refine xp_load (i := 4) rfl (fun W hW => r_load hW 0 rfl Try.isAgg74 es gc0) rfl (fun _ _ _ hh => by first | exact bodyR_np hh | exact bodyY_np hh | exact hh) ?_
    refine xp_read (i := 5) rfl (fun W => r_fieldAddr (o' := 0) Try.underlying90 rfl Try.sizeOf38 rfl (en rfl (en rfl (en rfl (en rfl (en rfl s8))))) rfl) rfl (fun _ _ _ hh => by first | exact bodyR_np hh | exact bodyY_np hh | exact hh) ?_
    refine xp_load (i := 6) rfl (fun W hW => r_load hW 2 rfl Try.isAgg38 es ndx0) rfl (fun _ _ _ hh => by first | exact bodyR_np hh | exact bodyY_np hh | exact hh) ?_
    refine xp_enter (i := 7) rfl (r_callv Try.call37 (en rfl (en rfl es)) (.cons es .nil)) rfl (measure_ok hs.2.1 h) ?_
    rintro _ w ⟨rfl, h⟩
    refine ⟨(fun _ => h), ?_⟩
    refine xp_read (i := 8) rfl (fun W => r_move es) rfl (fun _ _ _ hh => by first | exact bodyR_np hh | exact bodyY_np hh | exact hh) ?_
    refine xp_read (i := 9) rfl (fun W => r_extract es gc0) rfl (fun _ _ _ hh => by first | exact bodyR_np hh | exact bodyY_np hh | exact hh) ?_
    refine xp_read (i := 10) rfl (fun W => r_extract (en rfl es) gc1) rfl (fun _ _ _ hh => by first | exact bodyR_np hh | exact bodyY_np hh | exact hh) ?_
    refine xp_read (i := 11) rfl (fun W => r_assign (en rfl es)) rfl (fun _ _ _ hh => by first | exact bodyR_np hh | exact bodyY_np hh | exact hh) ?_
    refine xp_read (i := 12) rfl (fun W => r_assign (en rfl es)) rfl (fun _ _ _ hh => by first | exact bodyR_np hh | exact bodyY_np hh | exact hh) ?_
    refine xp_nil ?_
    refine hK12 _ _ ?_
    refine xc_gen (fun g hg => ?_)
    have s0 := (hg 0).trans (en rfl (en rfl (en rfl (en rfl (en rfl (en rfl (en rfl (en rfl (en rfl (en rfl (en rfl (en rfl (en rfl s0)))))))))))))
    have s1 := (hg 1).trans (en rfl (en rfl (en rfl (en rfl (en rfl (en rfl (en rfl (en rfl (en rfl (en rfl (en rfl (en rfl (en rfl s1)))))))))))))
    have s4 := (hg 4).trans (en rfl (en rfl (en rfl (en rfl (en rfl (en rfl (en rfl (en rfl (en rfl (en rfl (en rfl (en rfl (en rfl s4)))))))))))))
    have s7 := (hg 7).trans (en rfl (en rfl (en rfl (en rfl (en rfl (en rfl (en rfl (en rfl (en rfl (en rfl (en rfl (en rfl (en rfl s7)))))))))))))
    have s8 := (hg 8).trans (en rfl (en rfl (en rfl (en rfl (en rfl (en rfl (en rfl (en rfl (en rfl (en rfl (en rfl (en rfl (en rfl s8)))))))))))))
    have s10 := (hg 10).trans (en rfl (en rfl (en rfl (en rfl (en rfl (en rfl (en rfl (en rfl (en rfl (en rfl (en rfl (en rfl (en rfl s10)))))))))))))
    have s12 := (hg 12).trans (en rfl es)
    have s23 := (hg 23).trans (en rfl (en rfl (en rfl (en rfl (en rfl (en rfl (en rfl (en rfl (en rfl (en rfl (en rfl (en rfl (en rfl s23)))))))))))))
    clear hg
    refine xc_block ?_
    refine xc_seq (fun K hK13 => ?_)
    refine xc_region ?_
    refine x_val (r_move s1) (nd_of rfl) rfl ?_
    refine x_val (r_move (en rfl s10)) (nd_of rfl) rfl ?_
    refine x_val (r_lss (en rfl es) es rfl) (nd_of rfl) rfl ?_
    refine x_val (r_assign es) (nd_of rfl) rfl ?_
    refine xw_nil ?_
    refine hK13 _ _ ?_
    refine xc_gen (fun g hg => ?_)
    have s0 := (hg 0).trans (en rfl (en rfl (en rfl (en rfl s0))))
    have s1 := (hg 1).trans (en rfl (en rfl (en rfl (en rfl s1))))
    have s4 := (hg 4).trans (en rfl (en rfl (en rfl (en rfl s4))))
    have s7 := (hg 7).trans (en rfl (en rfl (en rfl (en rfl s7))))
    have s8 := (hg 8).trans (en rfl (en rfl (en rfl (en rfl s8))))
    have s10 := (hg 10).trans (en rfl (en rfl (en rfl (en rfl s10))))
    have s12 := (hg 12).trans (en rfl (en rfl (en rfl (en rfl s12))))
    have s23 := (hg 23).trans (en rfl (en rfl (en rfl (en rfl s23))))
    have s53 := (hg 53).trans es
    clear hg
    refine xc_cond s53 (fun hc => ?_) (fun hc => ?_)
    ·
      have hd := of_decide_eq_true hc
      rw [if_pos (by omega)] at hfe
      refine xc_region ?_
      refine x_val (r_fieldAddr (o' := 1) Try.underlying90 rfl Try.sizeOf3 rfl s8 rfl) (nd_of rfl) rfl ?_
      refine x_val (r_load h 2 rfl Try.isAgg3 es (nd0 ‹_›)) (nd_of rfl) rfl ?_
      refine x_val (r_assign es) (nd_of rfl) rfl ?_
      refine xw_nil ?_
      have h := h.f1
      have h := h.f1
      have h := h.f2
      exact ⟨a.n, by omega, ⟨a, k, rfl, hk, hs.2.2.1, hbs.left, hfe, (en rfl (en rfl (en rfl s1))), es, (en rfl (en rfl (en rfl s4))), h.drop⟩, ((en rfl (en rfl (en rfl s0)))).trans zG4_0.symm⟩
    ·
      refine xc_seq (fun K hK14 => ?_)
      have hd := of_decide_eq_false hc
      rw [if_neg (by omega)] at hfe
      simp only [findL] at hfe
      refine xc_region ?_
      refine x_val (r_move s1) (nd_of rfl) rfl ?_
      refine x_val (r_move (en rfl s10)) (nd_of rfl) rfl ?_
      refine x_val (r_move (en rfl (en rfl s12))) (nd_of rfl) rfl ?_
      refine x_val (r_add (en rfl es) es rfl (by unfold I64; omega)) (nd_of rfl) rfl ?_
      refine x_val (r_lss (en rfl (en rfl (en rfl es))) es rfl) (nd_of rfl) rfl ?_
      refine x_val (r_assign es) (nd_of rfl) rfl ?_
      refine xw_nil ?_
      refine hK14 _ _ ?_
      refine xc_gen (fun g hg => ?_)
      have s0 := (hg 0).trans (en rfl (en rfl (en rfl (en rfl (en rfl (en rfl s0))))))
      have s1 := (hg 1).trans (en rfl (en rfl (en rfl (en rfl (en rfl (en rfl s1))))))
      have s4 := (hg 4).trans (en rfl (en rfl (en rfl (en rfl (en rfl (en rfl s4))))))
      have s7 := (hg 7).trans (en rfl (en rfl (en rfl (en rfl (en rfl (en rfl s7))))))
      have s8 := (hg 8).trans (en rfl (en rfl (en rfl (en rfl (en rfl (en rfl s8))))))
      have s10 := (hg 10).trans (en rfl (en rfl (en rfl (en rfl (en rfl (en rfl s10))))))
      have s12 := (hg 12).trans (en rfl (en rfl (en rfl (en rfl (en rfl (en rfl s12))))))
      have s23 := (hg 23).trans (en rfl (en rfl (en rfl (en rfl (en rfl (en rfl s23))))))
      have s53 := (hg 53).trans (en rfl (en rfl (en rfl (en rfl (en rfl (en rfl s53))))))
      have s59 := (hg 59).trans es
      clear hg
      refine xc_cond s59 (fun hc => ?_) (fun hc => ?_)
      ·
        refine xc_seq (fun K hK15 => ?_)
        have hd2 := of_decide_eq_true hc
        rw [if_pos (by omega)] at hfe
        refine xc_region ?_
        refine x_val (r_fieldAddr (o' := 0) Try.underlying90 rfl Try.sizeOf38 rfl s8 rfl) (nd_of rfl) rfl ?_
        refine x_val (r_load h 2 rfl Try.isAgg38 es ndx0) (nd_of rfl) rfl ?_
        refine x_val (r_move (en rfl (en rfl s1))) (nd_of rfl) rfl ?_
        refine x_val (r_move (en rfl (en rfl (en rfl s10)))) (nd_of rfl) rfl ?_
        refine x_val (r_sub (en rfl es) es (show _ = (((k - sz a.xs : Nat) : Int) : Int) from by omega) (by unfold I64; omega)) (nd_of rfl) rfl ?_
        refine x_val (r_assign (en rfl (en rfl (en rfl es)))) (nd_of rfl) rfl ?_
        refine x_val (r_assign (en rfl es)) (nd_of rfl) rfl ?_
        refine x_val (r_assign ec) (nd_of rfl) rfl ?_
        refine xw_nil ?_
        refine hK15 _ _ ?_
        refine xc_gen (fun g hg => ?_)
        have s0 := (hg 0).trans (en rfl (en rfl (en rfl (en rfl (en rfl (en rfl (en rfl (en rfl s0))))))))
        have s1 := (hg 1).trans (en rfl (en rfl (en rfl (en rfl (en rfl (en rfl (en rfl (en rfl s1))))))))
        have s4 := (hg 4).trans (en rfl (en rfl es))
        have s5 := (hg 5).trans (en rfl es)
        have s6 := (hg 6).trans es
        have s7 := (hg 7).trans (en rfl (en rfl (en rfl (en rfl (en rfl (en rfl (en rfl (en rfl s7))))))))
        have s8 := (hg 8).trans (en rfl (en rfl (en rfl (en rfl (en rfl (en rfl (en rfl (en rfl s8))))))))
        have s10 := (hg 10).trans (en rfl (en rfl (en rfl (en rfl (en rfl (en rfl (en rfl (en rfl s10))))))))
        have s12 := (hg 12).trans (en rfl (en rfl (en rfl (en rfl (en rfl (en rfl (en rfl (en rfl s12))))))))
        have s23 := (hg 23).trans (en rfl (en rfl (en rfl (en rfl (en rfl (en rfl (en rfl (en rfl s23))))))))
        have s53 := (hg 53).trans (en rfl (en rfl (en rfl (en rfl (en rfl (en rfl (en rfl (en rfl s53))))))))
        have s59 := (hg 59).trans (en rfl (en rfl (en rfl (en rfl (en rfl (en rfl (en rfl (en rfl s59))))))))
        clear hg
        refine xc_ret ?_
        refine bodyR_3 rfl s4 s5 s6 ?_
        have h := h.f1
        have h := h.f1
        have h := h.f2
        exact ⟨by rw [← hfe]; rfl, SatL.closeTree ht h.drop⟩
      ·
        refine xc_seq (fun K hK16 => ?_)
        have hd2 := of_decide_eq_false hc
        rw [if_neg (by omega)] at hfe
        refine xc_region ?_
        refine x_val (r_move s1) (nd_of rfl) rfl ?_
        refine x_val (r_move (en rfl s10)) (nd_of rfl) rfl ?_
        refine x_val (r_move (en rfl (en rfl s12))) (nd_of rfl) rfl ?_
        refine x_val (r_add (en rfl es) es (show _ = ((sz a.xs : Int) + xS x : Int) from by rfl) (by unfold I64; omega)) (nd_of rfl) rfl ?_
        refine x_val (r_sub (en rfl (en rfl (en rfl es))) es (show _ = (((k - sz a.xs - xS x : Nat) : Int) : Int) from by omega) (by unfold I64; omega)) (nd_of rfl) rfl ?_
        refine x_val (r_assign es) (nd_of rfl) rfl ?_
        refine xw_nil ?_
        refine hK16 _ _ ?_
        refine xc_gen (fun g hg => ?_)
        have s0 := (hg 0).trans (en rfl (en rfl (en rfl (en rfl (en rfl (en rfl s0))))))
        have s1 := (hg 1).trans es
        have s4 := (hg 4).trans (en rfl (en rfl (en rfl (en rfl (en rfl (en rfl s4))))))
        have s7 := (hg 7).trans (en rfl (en rfl (en rfl (en rfl (en rfl (en rfl s7))))))
        have s8 := (hg 8).trans (en rfl (en rfl (en rfl (en rfl (en rfl (en rfl s8))))))
        have s10 := (hg 10).trans (en rfl (en rfl (en rfl (en rfl (en rfl (en rfl s10))))))
        have s12 := (hg 12).trans (en rfl (en rfl (en rfl (en rfl (en rfl (en rfl s12))))))
        have s23 := (hg 23).trans (en rfl (en rfl (en rfl (en rfl (en rfl (en rfl s23))))))
        have s53 := (hg 53).trans (en rfl (en rfl (en rfl (en rfl (en rfl (en rfl s53))))))
        have s59 := (hg 59).trans (en rfl (en rfl (en rfl (en rfl (en rfl (en rfl s59))))))
        clear hg
        refine xc_region ?_
        refine x_val (r_fieldAddr (o' := 2) Try.underlying90 rfl Try.sizeOf3 rfl s8 rfl) (nd_of rfl) rfl ?_
        refine x_val (r_load h 2 rfl Try.isAgg3 es (nd1 ‹_›)) (nd_of rfl) rfl ?_
        refine x_val (r_assign es) (nd_of rfl) rfl ?_
        refine xw_nil ?_
        have h := h.f1
        have h := h.f1
        have h := h.f2
        exact ⟨c.n, by omega, ⟨c, k - sz a.xs - xS x, rfl, by omega, hs.2.2.2, hbs.right.tail, hfe, (en rfl (en rfl (en rfl s1))), es, (en rfl (en rfl (en rfl s4))), h.drop⟩, ((en rfl (en rfl (en rfl s0)))).trans zG4_0.symm⟩
theorem find_none {i : Nat} (he : findL xs i = none) (hi : i ≤ 9223372036854775807) (h : SatL E w (TreeB bt ba xs B :: R)) : Calls Try.prog 32 #[pT bt, .int .i64 (i : Int)] w (Ret fun v w' => v = .tuple #[xZ, .int .i64 0, .bool false] ∧ SatL E w' (TreeB bt ba xs B :: R)) := by
  have h1 := find_t hi h
  rw [he] at h1
  exact h1
theorem find_some {i k : Nat} {x : X} (he : findL xs i = some (x, k)) (hi : i ≤ 9223372036854775807) (h : SatL E w (TreeB bt ba xs B :: R)) : Calls Try.prog 32 #[pT bt, .int .i64 (i : Int)] w (Ret fun v w' => v = .tuple #[xV x, .int .i64 (k : Int), .bool true] ∧ SatL E w' (TreeB bt ba xs B :: R)) := by
  have h1 := find_t hi h
  rw [he] at h1
  exact h1
end
end Go.Proofs.Ytonnijghdlakfaa
