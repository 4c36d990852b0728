/-
The chunks' functions: what each computes.
-/
import Derived.Test.YtmfkhfmidnojhaaH0
import Derived.Test.YtmfkhfmidnojhaaRows
namespace Go.Proofs.Ytmfkhfmidnojhaa
open Go Go.RowKit
section
variable {E : Env} {R : List SProp} {w : World} {l m zs : List Int} {v : Value} {r : Int}
theorem zC : ∀ w, (zeroValue 58).run Try.prog w = .ok (.agg (chC [])) w := fun _ => by kernel_rfl
theorem Reads.slice {k : IntKind} (hv : Reads E R v k zs) (h : SatL E w R) : ∃ a cap, v = .slice a zs.length cap ∧ zs.length ≤ cap ∧ cap ≤ maxLen := by
  obtain ⟨a, cap, h1, h2, h3, _⟩ := hv w h
  exact ⟨a, cap, h1, h2, h3⟩
theorem Reads.get {k : IntKind} {a : Option Addr} {n cap i : Nat} (hv : Reads E R (.slice a n cap) k zs) (h : SatL E w R) (hi : zs[i]? = some r) : ∃ a', a = some a' ∧ w.cell? (a'.add i) = some (.int k r) := by
  obtain ⟨a2, cap2, h1, _, _, h4⟩ := hv w h
  cases h1
  exact h4 i r hi

theorem Reads.up {k : IntKind} {A : SProp} (hv : Reads E R v k zs) : Reads E (A :: R) v k zs := fun w h => hv w h.drop
theorem code_ok (h : SatL E w R) : Calls Try.prog 66 #[.int .i32 r] w (Ret fun u w' => u = .bool (decide (rune r)) ∧ SatL E w' R) := by
  by_cases h1 : 0 ≤ r
  · by_cases h2 : r ≤ 1114111
    · by_cases h3 : r < 55296
      · skip
        refine calls_x Try.func66 rfl Try.ntmps66 rfl ?_
        refine xc_gen (fun g hg => ?_)
        have s0 := (hg 0).trans arg0
        clear hg
        refine xc_seq (fun K hK1 => ?_)
        refine xc_region ?_
        refine x_val (r_assign ec) (nd_of rfl) rfl ?_
        refine xw_nil ?_
        refine hK1 _ _ ?_
        refine xc_gen (fun g hg => ?_)
        have s0 := (hg 0).trans (en rfl s0)
        have s2 := (hg 2).trans es
        clear hg
        refine xc_seq (fun K hK2 => ?_)
        refine xc_region ?_
        refine x_val (r_move s0) (nd_of rfl) rfl ?_
        refine x_val (r_geq es ec (decide_eq_true (by omega))) (nd_of rfl) rfl ?_
        refine x_val (r_move es) (nd_of rfl) rfl ?_
        refine x_take (d := 5) rfl rfl es ?_
        refine x_val (r_move (en rfl (en rfl (en rfl s0)))) (nd_of rfl) rfl ?_
        refine x_take (d := 5) rfl rfl (en rfl es) ?_
        refine x_val (r_leq es ec (decide_eq_true (by omega))) (nd_of rfl) rfl ?_
        refine x_val (r_pick_t (en rfl (en rfl es)) es) (nd_of rfl) rfl ?_
        refine x_val (r_move es) (nd_of rfl) rfl ?_
        refine x_take (d := 9) rfl rfl es ?_
        refine x_val (r_move (en rfl (en rfl (en rfl (en rfl (en rfl (en rfl (en rfl s0)))))))) (nd_of rfl) rfl ?_
        refine x_take (d := 9) rfl rfl (en rfl es) ?_
        refine x_val (r_lss es ec (decide_eq_true (by omega))) (nd_of rfl) rfl ?_
        refine x_take (d := 9) rfl rfl (en rfl (en rfl es)) ?_
        refine x_val (r_move es) (nd_of rfl) rfl ?_
        refine x_pass (d := 12) rfl rfl es rfl ?_
        refine x_pass (d := 12) rfl rfl (en rfl es) rfl ?_
        refine x_take (d := 9) rfl rfl (en rfl (en rfl (en rfl (en rfl (en rfl es))))) ?_
        refine x_val (r_pick_t (en rfl (en rfl es)) ec) (nd_of rfl) rfl ?_
        refine x_val (r_pick_t (en rfl (en rfl (en rfl (en rfl (en rfl (en rfl es)))))) es) (nd_of rfl) rfl ?_
        refine x_val (r_assign es) (nd_of rfl) rfl ?_
        refine xw_nil ?_
        refine hK2 _ _ ?_
        refine xc_gen (fun g hg => ?_)
        have s0 := (hg 0).trans (en rfl (en rfl (en rfl (en rfl (en rfl (en rfl (en rfl (en rfl (en rfl (en rfl (en rfl (en rfl (en rfl (en rfl (en rfl s0)))))))))))))))
        have s2 := (hg 2).trans es
        clear hg
        refine xc_ret ?_
        refine bodyR_1 rfl s2 ?_
        exact ⟨by rw [decide_eq_true (show rune r from ⟨h1, h2, .inl h3⟩)], h⟩
      · by_cases h4 : 57343 < r
        · skip
          refine calls_x Try.func66 rfl Try.ntmps66 rfl ?_
          refine xc_gen (fun g hg => ?_)
          have s0 := (hg 0).trans arg0
          clear hg
          refine xc_seq (fun K hK1 => ?_)
          refine xc_region ?_
          refine x_val (r_assign ec) (nd_of rfl) rfl ?_
          refine xw_nil ?_
          refine hK1 _ _ ?_
          refine xc_gen (fun g hg => ?_)
          have s0 := (hg 0).trans (en rfl s0)
          have s2 := (hg 2).trans es
          clear hg
          refine xc_seq (fun K hK2 => ?_)
          refine xc_region ?_
          refine x_val (r_move s0) (nd_of rfl) rfl ?_
          refine x_val (r_geq es ec (decide_eq_true (by omega))) (nd_of rfl) rfl ?_
          refine x_val (r_move es) (nd_of rfl) rfl ?_
          refine x_take (d := 5) rfl rfl es ?_
          refine x_val (r_move (en rfl (en rfl (en rfl s0)))) (nd_of rfl) rfl ?_
          refine x_take (d := 5) rfl rfl (en rfl es) ?_
          refine x_val (r_leq es ec (decide_eq_true (by omega))) (nd_of rfl) rfl ?_
          refine x_val (r_pick_t (en rfl (en rfl es)) es) (nd_of rfl) rfl ?_
          refine x_val (r_move es) (nd_of rfl) rfl ?_
          refine x_take (d := 9) rfl rfl es ?_
          refine x_val (r_move (en rfl (en rfl (en rfl (en rfl (en rfl (en rfl (en rfl s0)))))))) (nd_of rfl) rfl ?_
          refine x_take (d := 9) rfl rfl (en rfl es) ?_
          refine x_val (r_lss es ec (decide_eq_false (by omega))) (nd_of rfl) rfl ?_
          refine x_take (d := 9) rfl rfl (en rfl (en rfl es)) ?_
          refine x_val (r_move es) (nd_of rfl) rfl ?_
          refine x_take (d := 12) rfl rfl es ?_
          refine x_val (r_move (en rfl (en rfl (en rfl (en rfl (en rfl (en rfl (en rfl (en rfl (en rfl (en rfl s0))))))))))) (nd_of rfl) rfl ?_
          refine x_take (d := 12) rfl rfl (en rfl es) ?_
          refine x_val (r_gtr es ec (decide_eq_true (by omega))) (nd_of rfl) rfl ?_
          refine x_take (d := 9) rfl rfl (en rfl (en rfl (en rfl (en rfl (en rfl es))))) ?_
          refine x_val (r_pick_f (en rfl (en rfl es)) es) (nd_of rfl) rfl ?_
          refine x_val (r_pick_t (en rfl (en rfl (en rfl (en rfl (en rfl (en rfl es)))))) es) (nd_of rfl) rfl ?_
          refine x_val (r_assign es) (nd_of rfl) rfl ?_
          refine xw_nil ?_
          refine hK2 _ _ ?_
          refine xc_gen (fun g hg => ?_)
          have s0 := (hg 0).trans (en rfl (en rfl (en rfl (en rfl (en rfl (en rfl (en rfl (en rfl (en rfl (en rfl (en rfl (en rfl (en rfl (en rfl (en rfl s0)))))))))))))))
          have s2 := (hg 2).trans es
          clear hg
          refine xc_ret ?_
          refine bodyR_1 rfl s2 ?_
          exact ⟨by rw [decide_eq_true (show rune r from ⟨h1, h2, .inr h4⟩)], h⟩
        · skip
          refine calls_x Try.func66 rfl Try.ntmps66 rfl ?_
          refine xc_gen (fun g hg => ?_)
          have s0 := (hg 0).trans arg0
          clear hg
          refine xc_seq (fun K hK1 => ?_)
          refine xc_region ?_
          refine x_val (r_assign ec) (nd_of rfl) rfl ?_
          refine xw_nil ?_
          refine hK1 _ _ ?_
          refine xc_gen (fun g hg => ?_)
          have s0 := (hg 0).trans (en rfl s0)
          have s2 := (hg 2).trans es
          clear hg
          refine xc_seq (fun K hK2 => ?_)
          refine xc_region ?_
          refine x_val (r_move s0) (nd_of rfl) rfl ?_
          refine x_val (r_geq es ec (decide_eq_true (by omega))) (nd_of rfl) rfl ?_
          refine x_val (r_move es) (nd_of rfl) rfl ?_
          refine x_take (d := 5) rfl rfl es ?_
          refine x_val (r_move (en rfl (en rfl (en rfl s0)))) (nd_of rfl) rfl ?_
          refine x_take (d := 5) rfl rfl (en rfl es) ?_
          refine x_val (r_leq es ec (decide_eq_true (by omega))) (nd_of rfl) rfl ?_
          refine x_val (r_pick_t (en rfl (en rfl es)) es) (nd_of rfl) rfl ?_
          refine x_val (r_move es) (nd_of rfl) rfl ?_
          refine x_take (d := 9) rfl rfl es ?_
          refine x_val (r_move (en rfl (en rfl (en rfl (en rfl (en rfl (en rfl (en rfl s0)))))))) (nd_of rfl) rfl ?_
          refine x_take (d := 9) rfl rfl (en rfl es) ?_
          refine x_val (r_lss es ec (decide_eq_false (by omega))) (nd_of rfl) rfl ?_
          refine x_take (d := 9) rfl rfl (en rfl (en rfl es)) ?_
          refine x_val (r_move es) (nd_of rfl) rfl ?_
          refine x_take (d := 12) rfl rfl es ?_
          refine x_val (r_move (en rfl (en rfl (en rfl (en rfl (en rfl (en rfl (en rfl (en rfl (en rfl (en rfl s0))))))))))) (nd_of rfl) rfl ?_
          refine x_take (d := 12) rfl rfl (en rfl es) ?_
          refine x_val (r_gtr es ec (decide_eq_false (by omega))) (nd_of rfl) rfl ?_
          refine x_take (d := 9) rfl rfl (en rfl (en rfl (en rfl (en rfl (en rfl es))))) ?_
          refine x_val (r_pick_f (en rfl (en rfl es)) es) (nd_of rfl) rfl ?_
          refine x_val (r_pick_t (en rfl (en rfl (en rfl (en rfl (en rfl (en rfl es)))))) es) (nd_of rfl) rfl ?_
          refine x_val (r_assign es) (nd_of rfl) rfl ?_
          refine xw_nil ?_
          refine hK2 _ _ ?_
          refine xc_gen (fun g hg => ?_)
          have s0 := (hg 0).trans (en rfl (en rfl (en rfl (en rfl (en rfl (en rfl (en rfl (en rfl (en rfl (en rfl (en rfl (en rfl (en rfl (en rfl (en rfl s0)))))))))))))))
          have s2 := (hg 2).trans es
          clear hg
          refine xc_ret ?_
          refine bodyR_1 rfl s2 ?_
          exact ⟨by rw [decide_eq_false (show ¬ rune r from fun h => by have := h.2.2; omega)], h⟩
    · skip
      refine calls_x Try.func66 rfl Try.ntmps66 rfl ?_
      refine xc_gen (fun g hg => ?_)
      have s0 := (hg 0).trans arg0
      clear hg
      refine xc_seq (fun K hK1 => ?_)
      refine xc_region ?_
      refine x_val (r_assign ec) (nd_of rfl) rfl ?_
      refine xw_nil ?_
      refine hK1 _ _ ?_
      refine xc_gen (fun g hg => ?_)
      have s0 := (hg 0).trans (en rfl s0)
      have s2 := (hg 2).trans es
      clear hg
      refine xc_seq (fun K hK2 => ?_)
      refine xc_region ?_
      refine x_val (r_move s0) (nd_of rfl) rfl ?_
      refine x_val (r_geq es ec (decide_eq_true (by omega))) (nd_of rfl) rfl ?_
      refine x_val (r_move es) (nd_of rfl) rfl ?_
      refine x_take (d := 5) rfl rfl es ?_
      refine x_val (r_move (en rfl (en rfl (en rfl s0)))) (nd_of rfl) rfl ?_
      refine x_take (d := 5) rfl rfl (en rfl es) ?_
      refine x_val (r_leq es ec (decide_eq_false (by omega))) (nd_of rfl) rfl ?_
      refine x_val (r_pick_t (en rfl (en rfl es)) es) (nd_of rfl) rfl ?_
      refine x_val (r_move es) (nd_of rfl) rfl ?_
      refine x_pass (d := 9) rfl rfl es rfl ?_
      refine x_pass (d := 9) rfl rfl (en rfl es) rfl ?_
      refine x_pass (d := 9) rfl rfl (en rfl (en rfl es)) rfl ?_
      refine x_pass0 (d := 12) rfl rfl es rfl ?_
      refine x_pass0 (d := 12) rfl rfl (en rfl es) rfl ?_
      refine x_pass (d := 9) rfl rfl (en rfl (en rfl (en rfl (en rfl (en rfl es))))) rfl ?_
      refine x_val (r_pick_f (en rfl (en rfl (en rfl (en rfl (en rfl (en rfl es)))))) ec) (nd_of rfl) rfl ?_
      refine x_val (r_assign es) (nd_of rfl) rfl ?_
      refine xw_nil ?_
      refine hK2 _ _ ?_
      refine xc_gen (fun g hg => ?_)
      have s0 := (hg 0).trans (en rfl (en rfl (en rfl (en rfl (en rfl (en rfl (en rfl (en rfl (en rfl (en rfl (en rfl (en rfl (en rfl (en rfl (en rfl s0)))))))))))))))
      have s2 := (hg 2).trans es
      clear hg
      refine xc_ret ?_
      refine bodyR_1 rfl s2 ?_
      exact ⟨by rw [decide_eq_false (show ¬ rune r from fun h => by have := h.2.1; omega)], h⟩
  · skip
    refine calls_x Try.func66 rfl Try.ntmps66 rfl ?_
    refine xc_gen (fun g hg => ?_)
    have s0 := (hg 0).trans arg0
    clear hg
    refine xc_seq (fun K hK1 => ?_)
    refine xc_region ?_
    refine x_val (r_assign ec) (nd_of rfl) rfl ?_
    refine xw_nil ?_
    refine hK1 _ _ ?_
    refine xc_gen (fun g hg => ?_)
    have s0 := (hg 0).trans (en rfl s0)
    have s2 := (hg 2).trans es
    clear hg
    refine xc_seq (fun K hK2 => ?_)
    refine xc_region ?_
    refine x_val (r_move s0) (nd_of rfl) rfl ?_
    refine x_val (r_geq es ec (decide_eq_false (by omega))) (nd_of rfl) rfl ?_
    refine x_val (r_move es) (nd_of rfl) rfl ?_
    refine x_pass (d := 5) rfl rfl es rfl ?_
    refine x_pass (d := 5) rfl rfl (en rfl es) rfl ?_
    refine x_val (r_pick_f (en rfl (en rfl es)) ec) (nd_of rfl) rfl ?_
    refine x_val (r_move es) (nd_of rfl) rfl ?_
    refine x_pass (d := 9) rfl rfl es rfl ?_
    refine x_pass (d := 9) rfl rfl (en rfl es) rfl ?_
    refine x_pass (d := 9) rfl rfl (en rfl (en rfl es)) rfl ?_
    refine x_pass0 (d := 12) rfl rfl es rfl ?_
    refine x_pass0 (d := 12) rfl rfl (en rfl es) rfl ?_
    refine x_pass (d := 9) rfl rfl (en rfl (en rfl (en rfl (en rfl (en rfl es))))) rfl ?_
    refine x_val (r_pick_f (en rfl (en rfl (en rfl (en rfl (en rfl (en rfl es)))))) ec) (nd_of rfl) rfl ?_
    refine x_val (r_assign es) (nd_of rfl) rfl ?_
    refine xw_nil ?_
    refine hK2 _ _ ?_
    refine xc_gen (fun g hg => ?_)
    have s0 := (hg 0).trans (en rfl (en rfl (en rfl (en rfl (en rfl (en rfl (en rfl (en rfl (en rfl (en rfl (en rfl (en rfl (en rfl (en rfl (en rfl s0)))))))))))))))
    have s2 := (hg 2).trans es
    clear hg
    refine xc_ret ?_
    refine bodyR_1 rfl s2 ?_
    exact ⟨by rw [decide_eq_false (show ¬ rune r from fun h => by have := h.1; omega)], h⟩

theorem ofn1_ok (h : SatL E w R) : Calls Try.prog 65 #[.int .i32 r] w (Ret fun u w' => u = .bool (!decide (rune r)) ∧ SatL E w' R) := by
  refine calls_x Try.func65 rfl Try.ntmps65 rfl ?_
  refine xc_gen (fun g hg => ?_)
  have s0 := (hg 0).trans arg0
  clear hg
  refine xc_seq (fun K hK1 => ?_)
  refine xc_region ?_
  refine x_val (r_assign ec) (nd_of rfl) rfl ?_
  refine xw_nil ?_
  refine hK1 _ _ ?_
  refine xc_gen (fun g hg => ?_)
  have s0 := (hg 0).trans (en rfl s0)
  have s2 := (hg 2).trans es
  clear hg
  refine xc_seq (fun K hK2 => ?_)
  refine xc_region ?_
  refine x_val (r_move s0) (nd_of rfl) rfl ?_
  refine x_enter (r_call Try.call66 (.cons es .nil)) (nd_of rfl) rfl (code_ok h) ?_
  rintro _ w ⟨rfl, h⟩
  refine x_val (r_not es rfl) (nd_of rfl) rfl ?_
  refine x_val (r_assign es) (nd_of rfl) rfl ?_
  refine xw_nil ?_
  refine hK2 _ _ ?_
  refine xc_gen (fun g hg => ?_)
  have s0 := (hg 0).trans (en rfl (en rfl (en rfl (en rfl s0))))
  have s2 := (hg 2).trans es
  clear hg
  refine xc_ret ?_
  refine bodyR_1 rfl s2 ?_
  exact ⟨rfl, h⟩

abbrev badF : Value := .func (.func 65) #[] #[]
theorem index_all (hv : Reads E R v .i32 zs) (ha : ∀ r ∈ zs, rune r) (h : SatL E w R) : Calls Try.prog 77 #[v, badF] w (Ret fun u w' => u = .int .i64 (-1) ∧ SatL E w' R) := by
  obtain ⟨a, cap, rfl, hl1, hl2⟩ := hv.slice h
  unfold maxLen at hl2
  refine calls_x Try.func77 rfl Try.ntmps77 rfl ?_
  refine xc_gen (fun g hg => ?_)
  have s0 := (hg 0).trans arg0
  have s1 := (hg 1).trans arg1
  clear hg
  refine xc_seq (fun K hK1 => ?_)
  refine xc_region ?_
  refine x_val (r_assign ec) (nd_of rfl) rfl ?_
  refine xw_nil ?_
  refine hK1 _ _ ?_
  refine xc_gen (fun g hg => ?_)
  have s0 := (hg 0).trans (en rfl s0)
  have s1 := (hg 1).trans (en rfl s1)
  have s4 := (hg 4).trans es
  clear hg
  refine xc_seq (fun K hK2 => ?_)
  refine xc_seq (fun K hK3 => ?_)
  refine xc_region ?_
  refine x_val (r_move s0) (nd_of rfl) rfl ?_
  refine x_val (r_len Try.underlying23 es) (nd_of rfl) rfl ?_
  refine x_val (r_move ec) (nd_of rfl) rfl ?_
  refine xw_nil ?_
  refine hK3 _ _ ?_
  refine xc_gen (fun g hg => ?_)
  have s0 := (hg 0).trans (en rfl (en rfl (en rfl s0)))
  have s1 := (hg 1).trans (en rfl (en rfl (en rfl s1)))
  have s4 := (hg 4).trans (en rfl (en rfl (en rfl s4)))
  have s7 := (hg 7).trans (en rfl es)
  have s8 := (hg 8).trans es
  clear hg
  refine xc_block ?_
  obtain ⟨G4, hG4⟩ : ∃ g0 : Nat → Value, g0 = g := ⟨_, rfl⟩
  have zG4_0 : G4 0 = _ := (congrFun hG4 0).trans s0
  have zG4_1 : G4 1 = _ := (congrFun hG4 1).trans s1
  have zG4_7 : G4 7 = _ := (congrFun hG4 7).trans s7
  refine xc_loop (fun m f w => (∃ k : Nat, m = zs.length - k ∧ k ≤ zs.length ∧ f 8 = .int .i64 (k : Int) ∧ SatL E w R) ∧ (f 0 = G4 0 ∧ f 1 = G4 1 ∧ f 7 = G4 7)) (zs.length) ⟨⟨0, by omega, by omega, s8, h⟩, ⟨congrFun hG4.symm 0, congrFun hG4.symm 1, congrFun hG4.symm 7⟩⟩ ?_
  rintro m g w ⟨⟨k, hm, hk, s8, h⟩, ⟨y0, y1, y7⟩⟩
  have s0 := y0.trans zG4_0
  have s1 := y1.trans zG4_1
  have s7 := y7.trans zG4_7
  refine xc_seq (fun K hK5 => ?_)
  refine xc_region ?_
  refine x_val (r_lss s8 s7 rfl) (nd_of rfl) rfl ?_
  refine xw_nil ?_
  refine hK5 _ _ ?_
  refine xc_gen (fun g hg => ?_)
  have s0 := (hg 0).trans (en rfl s0)
  have s1 := (hg 1).trans (en rfl s1)
  have s7 := (hg 7).trans (en rfl s7)
  have s8 := (hg 8).trans (en rfl s8)
  have s9 := (hg 9).trans es
  clear hg
  refine xc_seq (fun K hK6 => ?_)
  refine xc_cond s9 (fun hc => ?_) (fun hc => ?_)
  ·
    refine xc_skip ?_
    refine hK6 _ _ ?_
    refine xc_seq (fun K hK7 => ?_)
    refine xc_block ?_
    refine xc_seq (fun K hK8 => ?_)
    have hi : k < zs.length := by have := of_decide_eq_true hc; omega
    obtain ⟨r, hr⟩ : ∃ r, zs[k]? = some r := ⟨_, List.getElem?_eq_getElem hi⟩
    obtain ⟨a', rfl, hcell⟩ := hv.get h hr
    refine xc_region ?_
    refine x_val (r_move s8) (nd_of rfl) rfl ?_
    refine x_val (r_assign es) (nd_of rfl) rfl ?_
    refine xw_nil ?_
    refine hK8 _ _ ?_
    refine xc_gen (fun g hg => ?_)
    have s0 := (hg 0).trans (en rfl (en rfl s0))
    have s1 := (hg 1).trans (en rfl (en rfl s1))
    have s5 := (hg 5).trans es
    have s7 := (hg 7).trans (en rfl (en rfl s7))
    have s8 := (hg 8).trans (en rfl (en rfl s8))
    have s9 := (hg 9).trans (en rfl (en rfl s9))
    clear hg
    refine xc_seq (fun K hK9 => ?_)
    refine xc_region ?_
    refine x_val (r_move s1) (nd_of rfl) rfl ?_
    refine x_val (r_move (en rfl s0)) (nd_of rfl) rfl ?_
    refine x_val (r_move (en rfl (en rfl s5))) (nd_of rfl) rfl ?_
    refine x_val (r_index1 Try.underlying23 Try.sizeOf21 (en rfl es) es hi) (nd_of rfl) rfl ?_
    refine x_val (r_loadCell Try.isAgg21 es hcell) (nd_of rfl) rfl ?_
    refine x_enter (r_callv Try.call65 (en rfl (en rfl (en rfl (en rfl es)))) (.cons es .nil)) (nd_of rfl) rfl (ofn1_ok h) ?_
    rintro _ w ⟨rfl, h⟩
    refine xw_nil ?_
    refine hK9 _ _ ?_
    refine xc_gen (fun g hg => ?_)
    have s0 := (hg 0).trans (en rfl (en rfl (en rfl (en rfl (en rfl (en rfl s0))))))
    have s1 := (hg 1).trans (en rfl (en rfl (en rfl (en rfl (en rfl (en rfl s1))))))
    have s5 := (hg 5).trans (en rfl (en rfl (en rfl (en rfl (en rfl (en rfl s5))))))
    have s7 := (hg 7).trans (en rfl (en rfl (en rfl (en rfl (en rfl (en rfl s7))))))
    have s8 := (hg 8).trans (en rfl (en rfl (en rfl (en rfl (en rfl (en rfl s8))))))
    have s9 := (hg 9).trans (en rfl (en rfl (en rfl (en rfl (en rfl (en rfl s9))))))
    have s16 := (hg 16).trans es
    clear hg
    refine xc_cond s16 (fun hc => absurd hc (by simp [ha r (List.mem_of_getElem? hr)])) (fun _ => ?_)
    refine xc_skip ?_
    refine hK7 _ _ ?_
    refine xc_region ?_
    refine x_val (r_add s8 ec (show _ = (((k + 1 : Nat) : Int) : Int) from by omega) (by unfold I64; omega)) (nd_of rfl) rfl ?_
    refine x_val (r_move es) (nd_of rfl) rfl ?_
    refine xw_nil ?_
    exact ⟨zs.length - (k + 1), by omega, ⟨k + 1, rfl, by omega, es, h⟩, ⟨((en rfl (en rfl s0))).trans zG4_0.symm, ((en rfl (en rfl s1))).trans zG4_1.symm, ((en rfl (en rfl s7))).trans zG4_7.symm⟩⟩
  ·
    refine xc_exit ?_
    refine hK2 _ _ ?_
    refine xc_seq (fun K hK10 => ?_)
    refine xc_region ?_
    refine x_val (r_assign ec) (nd_of rfl) rfl ?_
    refine xw_nil ?_
    refine hK10 _ _ ?_
    refine xc_gen (fun g hg => ?_)
    have s0 := (hg 0).trans (en rfl s0)
    have s1 := (hg 1).trans (en rfl s1)
    have s4 := (hg 4).trans es
    have s7 := (hg 7).trans (en rfl s7)
    have s8 := (hg 8).trans (en rfl s8)
    have s9 := (hg 9).trans (en rfl s9)
    clear hg
    refine xc_ret ?_
    refine bodyR_1 rfl s4 ?_
    exact ⟨rfl, h⟩

theorem index_bad (hv : Reads E R v .i32 zs) (hb : ∃ r ∈ zs, ¬ rune r) (h : SatL E w R) : Calls Try.prog 77 #[v, badF] w (Ret fun u w' => (∃ i : Nat, u = .int .i64 (i : Int)) ∧ SatL E w' R) := by
  obtain ⟨a, cap, rfl, hl1, hl2⟩ := hv.slice h
  unfold maxLen at hl2
  refine calls_x Try.func77 rfl Try.ntmps77 rfl ?_
  refine xc_gen (fun g hg => ?_)
  have s0 := (hg 0).trans arg0
  have s1 := (hg 1).trans arg1
  clear hg
  refine xc_seq (fun K hK1 => ?_)
  refine xc_region ?_
  refine x_val (r_assign ec) (nd_of rfl) rfl ?_
  refine xw_nil ?_
  refine hK1 _ _ ?_
  refine xc_gen (fun g hg => ?_)
  have s0 := (hg 0).trans (en rfl s0)
  have s1 := (hg 1).trans (en rfl s1)
  have s4 := (hg 4).trans es
  clear hg
  refine xc_seq (fun K hK2 => ?_)
  refine xc_seq (fun K hK3 => ?_)
  refine xc_region ?_
  refine x_val (r_move s0) (nd_of rfl) rfl ?_
  refine x_val (r_len Try.underlying23 es) (nd_of rfl) rfl ?_
  refine x_val (r_move ec) (nd_of rfl) rfl ?_
  refine xw_nil ?_
  refine hK3 _ _ ?_
  refine xc_gen (fun g hg => ?_)
  have s0 := (hg 0).trans (en rfl (en rfl (en rfl s0)))
  have s1 := (hg 1).trans (en rfl (en rfl (en rfl s1)))
  have s4 := (hg 4).trans (en rfl (en rfl (en rfl s4)))
  have s7 := (hg 7).trans (en rfl es)
  have s8 := (hg 8).trans es
  clear hg
  refine xc_block ?_
  obtain ⟨G4, hG4⟩ : ∃ g0 : Nat → Value, g0 = g := ⟨_, rfl⟩
  have zG4_0 : G4 0 = _ := (congrFun hG4 0).trans s0
  have zG4_1 : G4 1 = _ := (congrFun hG4 1).trans s1
  have zG4_7 : G4 7 = _ := (congrFun hG4 7).trans s7
  refine xc_loop (fun m f w => (∃ k : Nat, m = zs.length - k ∧ k ≤ zs.length ∧ f 8 = .int .i64 (k : Int) ∧ (∀ (i : Nat) r, i < k → zs[i]? = some r → rune r) ∧ SatL E w R) ∧ (f 0 = G4 0 ∧ f 1 = G4 1 ∧ f 7 = G4 7)) (zs.length) ⟨⟨0, by omega, by omega, s8, fun i r hi => by omega, h⟩, ⟨congrFun hG4.symm 0, congrFun hG4.symm 1, congrFun hG4.symm 7⟩⟩ ?_
  rintro m g w ⟨⟨k, hm, hk, s8, hg, h⟩, ⟨y0, y1, y7⟩⟩
  have s0 := y0.trans zG4_0
  have s1 := y1.trans zG4_1
  have s7 := y7.trans zG4_7
  refine xc_seq (fun K hK5 => ?_)
  refine xc_region ?_
  refine x_val (r_lss s8 s7 rfl) (nd_of rfl) rfl ?_
  refine xw_nil ?_
  refine hK5 _ _ ?_
  refine xc_gen (fun g hg => ?_)
  have s0 := (hg 0).trans (en rfl s0)
  have s1 := (hg 1).trans (en rfl s1)
  have s7 := (hg 7).trans (en rfl s7)
  have s8 := (hg 8).trans (en rfl s8)
  have s9 := (hg 9).trans es
  clear hg
  refine xc_seq (fun K hK6 => ?_)
  refine xc_cond s9 (fun hc => ?_) (fun hc => ?_)
  ·
    refine xc_skip ?_
    refine hK6 _ _ ?_
    refine xc_seq (fun K hK7 => ?_)
    refine xc_block ?_
    refine xc_seq (fun K hK8 => ?_)
    have hi : k < zs.length := by have := of_decide_eq_true hc; omega
    obtain ⟨r, hr⟩ : ∃ r, zs[k]? = some r := ⟨_, List.getElem?_eq_getElem hi⟩
    obtain ⟨a', rfl, hcell⟩ := hv.get h hr
    refine xc_region ?_
    refine x_val (r_move s8) (nd_of rfl) rfl ?_
    refine x_val (r_assign es) (nd_of rfl) rfl ?_
    refine xw_nil ?_
    refine hK8 _ _ ?_
    refine xc_gen (fun g hg => ?_)
    have s0 := (hg 0).trans (en rfl (en rfl s0))
    have s1 := (hg 1).trans (en rfl (en rfl s1))
    have s5 := (hg 5).trans es
    have s7 := (hg 7).trans (en rfl (en rfl s7))
    have s8 := (hg 8).trans (en rfl (en rfl s8))
    have s9 := (hg 9).trans (en rfl (en rfl s9))
    clear hg
    refine xc_seq (fun K hK9 => ?_)
    refine xc_region ?_
    refine x_val (r_move s1) (nd_of rfl) rfl ?_
    refine x_val (r_move (en rfl s0)) (nd_of rfl) rfl ?_
    refine x_val (r_move (en rfl (en rfl s5))) (nd_of rfl) rfl ?_
    refine x_val (r_index1 Try.underlying23 Try.sizeOf21 (en rfl es) es hi) (nd_of rfl) rfl ?_
    refine x_val (r_loadCell Try.isAgg21 es hcell) (nd_of rfl) rfl ?_
    refine x_enter (r_callv Try.call65 (en rfl (en rfl (en rfl (en rfl es)))) (.cons es .nil)) (nd_of rfl) rfl (ofn1_ok h) ?_
    rintro _ w ⟨rfl, h⟩
    refine xw_nil ?_
    refine hK9 _ _ ?_
    refine xc_gen (fun g hg => ?_)
    have s0 := (hg 0).trans (en rfl (en rfl (en rfl (en rfl (en rfl (en rfl s0))))))
    have s1 := (hg 1).trans (en rfl (en rfl (en rfl (en rfl (en rfl (en rfl s1))))))
    have s5 := (hg 5).trans (en rfl (en rfl (en rfl (en rfl (en rfl (en rfl s5))))))
    have s7 := (hg 7).trans (en rfl (en rfl (en rfl (en rfl (en rfl (en rfl s7))))))
    have s8 := (hg 8).trans (en rfl (en rfl (en rfl (en rfl (en rfl (en rfl s8))))))
    have s9 := (hg 9).trans (en rfl (en rfl (en rfl (en rfl (en rfl (en rfl s9))))))
    have s16 := (hg 16).trans es
    clear hg
    refine xc_cond s16 (fun hc => ?_) (fun hc => ?_)
    ·
      refine xc_seq (fun K hK10 => ?_)
      refine xc_region ?_
      refine x_val (r_move s5) (nd_of rfl) rfl ?_
      refine x_val (r_assign es) (nd_of rfl) rfl ?_
      refine xw_nil ?_
      refine hK10 _ _ ?_
      refine xc_gen (fun g hg => ?_)
      have s0 := (hg 0).trans (en rfl (en rfl s0))
      have s1 := (hg 1).trans (en rfl (en rfl s1))
      have s4 := (hg 4).trans es
      have s5 := (hg 5).trans (en rfl (en rfl s5))
      have s7 := (hg 7).trans (en rfl (en rfl s7))
      have s8 := (hg 8).trans (en rfl (en rfl s8))
      have s9 := (hg 9).trans (en rfl (en rfl s9))
      have s16 := (hg 16).trans (en rfl (en rfl s16))
      clear hg
      refine xc_ret ?_
      refine bodyR_1 rfl s4 ?_
      exact ⟨⟨k, rfl⟩, h⟩
    ·
      refine xc_skip ?_
      refine hK7 _ _ ?_
      have hru : rune r := by simpa using hc
      refine xc_region ?_
      refine x_val (r_add s8 ec (show _ = (((k + 1 : Nat) : Int) : Int) from by omega) (by unfold I64; omega)) (nd_of rfl) rfl ?_
      refine x_val (r_move es) (nd_of rfl) rfl ?_
      refine xw_nil ?_
      exact ⟨zs.length - (k + 1), by omega, ⟨k + 1, rfl, by omega, es, fun i r' hi' hr' => by rcases Nat.lt_or_ge i k with h1 | h1; exact hg i r' h1 hr'; obtain rfl : i = k := (by omega); rw [hr] at hr'; cases hr'; exact hru, h⟩, ⟨((en rfl (en rfl s0))).trans zG4_0.symm, ((en rfl (en rfl s1))).trans zG4_1.symm, ((en rfl (en rfl s7))).trans zG4_7.symm⟩⟩
  ·
    obtain ⟨r, hr, hnr⟩ := hb
    obtain ⟨i, hi, he⟩ := List.mem_iff_getElem.1 hr
    have hkl : ¬ k < zs.length := by have := of_decide_eq_false hc; omega
    exact absurd (hg i r (by omega) (by rw [List.getElem?_eq_getElem hi, he])) hnr
end
end Go.Proofs.Ytmfkhfmidnojhaa
