/-
The reference's functions of chapter 09: Code, Of, Newlines; and 'is'.
-/
import Derived.Test.YtimieinmphhmmaaK2
import Derived.Test.YtimieinmphhmmaaK3
namespace Go.Proofs.Ytimieinmphhmmaa
open Go Go.RowKit
def nlsT (l : List Int) (n : Nat) : List Nat := (List.range n).filter fun i => decide (l[i]? = some 10)
def i64s (l : List Nat) : List Value := l.map fun (i : Nat) => Value.int .i64 (i : Int)
theorem ok_int {a : Int} : Ok 1 #[Value.int .i64 a] := ⟨rfl, by simp [Value.oneCell']⟩
theorem nlsT_succ {l : List Int} {n : Nat} : nlsT l (n + 1) = nlsT l n ++ (if l[n]? = some 10 then [n] else []) := by
  rw [nlsT, List.range_succ, List.filter_append]
  by_cases h : l[n]? = some 10 <;> simp [h, nlsT]
theorem nlsT_len {l : List Int} : ∀ n, n ≤ l.length → (nlsT l n).length = (l.take n).count 10
  | 0, _ => by simp [nlsT]
  | n + 1, h => by
    have hr : l[n]? = some l[n] := List.getElem?_eq_getElem (by omega)
    rw [nlsT_succ, List.length_append, nlsT_len n (by omega), count_step hr, hr]
    by_cases h1 : l[n] = 10 <;> simp [h1]
theorem nlsT_get {l : List Int} : ∀ n, n ≤ l.length → ∀ k, k < (nlsT l n).length → ∃ i : Nat, (nlsT l n)[k]? = some i ∧ l[i]? = some 10 ∧ (l.take i).count 10 = k
  | 0, _, k, h => by simp [nlsT] at h
  | n + 1, h, k, hk => by
    rw [nlsT_succ] at hk ⊢
    by_cases h1 : k < (nlsT l n).length
    · obtain ⟨i, h2, h3, h4⟩ := nlsT_get n (by omega) k h1
      exact ⟨i, by rw [List.getElem?_append_left h1]; exact h2, h3, h4⟩
    · by_cases h2 : l[n]? = some 10
      · rw [if_pos h2, List.length_append, List.length_singleton] at hk
        have hkk : k = (nlsT l n).length := by omega
        refine ⟨n, ?_, h2, ?_⟩
        · rw [if_pos h2, hkk, List.getElem?_append_right (Nat.le_refl _), Nat.sub_self]; rfl
        · rw [hkk, nlsT_len n (by omega)]
      · rw [if_neg h2, List.append_nil] at hk
        exact absurd hk h1
theorem nls_get {l : List Int} {k : Nat} (hk : k < (nlsT l l.length).length) : ∃ i : Nat, (nlsT l l.length)[k]? = some i ∧ nlAt l k = some i := by
  obtain ⟨i, h1, h2, h3⟩ := nlsT_get l.length (Nat.le_refl _) k hk
  rw [nlsT_len _ (Nat.le_refl _), List.take_length] at hk
  obtain ⟨j, h4, h5, h6⟩ := nlAt_some l k hk
  have e : i = j := by
    rcases Nat.lt_trichotomy i j with h | h | h
    · have h7 := count_mono (l := l) (show i + 1 ≤ j from h)
      rw [count_step h2, if_pos rfl] at h7; omega
    · exact h
    · have h7 := count_mono (l := l) (show j + 1 ≤ i from h)
      rw [count_step h5, if_pos rfl] at h7; omega
  exact ⟨i, h1, e ▸ h4⟩
theorem nlAt_neg : ∀ (l : List Int) (k : Int), k < 0 → nlAt l k = none
  | [], _, _ => rfl
  | r :: l, k, h => by
    by_cases hr : r = 10
    · rw [nlAt, if_pos hr, if_neg (by omega), nlAt_neg l (k - 1) (by omega)]; rfl
    · rw [nlAt, if_neg hr, nlAt_neg l k h]; rfl
section
variable {E : Env} {R L : List SProp} {w : World} {l zs ys xs : List Int} {v u t : Value} {r : Int}
theorem rowReadsK {e : TypeId} {k : IntKind} : Reads E (Row e 1 v zs.length (zs.map fun r => Value.int k r) :: R) v k zs := fun w h => by
  rcases Nat.eq_zero_or_pos zs.length with h1 | h1
  · obtain ⟨a, cap, rfl, h2, h3⟩ := h.rowVal
    refine ⟨a, cap, rfl, h2, h3, fun i r hi => ?_⟩
    have := (List.getElem?_eq_some_iff.1 hi).1
    omega
  · obtain ⟨g, cap, cur, hr, h2⟩ := h.openRow h1
    obtain rfl := hr.val
    refine ⟨_, cap, rfl, hr.le, hr.capm, fun i r hi => ⟨_, rfl, ?_⟩⟩
    rw [add_pt, Nat.zero_add]
    exact h2.cell 0 rfl (hr.get (by simp [hi]))

theorem refCode_ok (h : SatL E w R) : Calls Try.prog 25 #[.int .i32 r] w (Ret fun u w' => u = .bool (decide (rune r)) ∧ SatL E w' R) := by
  by_cases h1 : r < 0
  · skip
    refine calls_x Try.func25 rfl Try.ntmps25 rfl ?_
    refine xc_gen (fun g hg => ?_)
    have s0 := (hg 0).trans arg0
    clear hg
    refine xc_seq (fun K hK1 => ?_)
    refine xc_region ?_
    refine x_val (r_assign ec) (nd_of rfl) rfl ?_
    refine xw_nil ?_
    refine hK1 _ _ ?_
    refine xc_gen (fun g hg => ?_)
    have s0 := (hg 0).trans (en rfl s0)
    have s2 := (hg 2).trans es
    clear hg
    refine xc_seq (fun K hK2 => ?_)
    refine xc_seq (fun K hK3 => ?_)
    refine xc_region ?_
    refine x_val (r_move s0) (nd_of rfl) rfl ?_
    refine x_val (r_lss es ec (decide_eq_true (by omega))) (nd_of rfl) rfl ?_
    refine x_val (r_move es) (nd_of rfl) rfl ?_
    refine x_pass (d := 5) rfl rfl es rfl ?_
    refine x_pass (d := 5) rfl rfl (en rfl es) rfl ?_
    refine x_val (r_pick_t (en rfl (en rfl es)) ec) (nd_of rfl) rfl ?_
    refine xw_nil ?_
    refine hK3 _ _ ?_
    refine xc_gen (fun g hg => ?_)
    have s0 := (hg 0).trans (en rfl (en rfl (en rfl (en rfl (en rfl (en rfl s0))))))
    have s2 := (hg 2).trans (en rfl (en rfl (en rfl (en rfl (en rfl (en rfl s2))))))
    have s8 := (hg 8).trans es
    clear hg
    refine xc_cond s8 (fun _ => ?_) (fun hc => by cases hc)
    refine xc_seq (fun K hK4 => ?_)
    refine xc_region ?_
    refine x_val (r_assign ec) (nd_of rfl) rfl ?_
    refine xw_nil ?_
    refine hK4 _ _ ?_
    refine xc_gen (fun g hg => ?_)
    have s0 := (hg 0).trans (en rfl s0)
    have s2 := (hg 2).trans es
    have s8 := (hg 8).trans (en rfl s8)
    clear hg
    refine xc_ret ?_
    refine bodyR_1 rfl s2 ?_
    exact ⟨by rw [decide_eq_false (show ¬ rune r from fun h => by have := h.1; omega)], h⟩
  · by_cases h2 : 1114111 < r
    · skip
      refine calls_x Try.func25 rfl Try.ntmps25 rfl ?_
      refine xc_gen (fun g hg => ?_)
      have s0 := (hg 0).trans arg0
      clear hg
      refine xc_seq (fun K hK1 => ?_)
      refine xc_region ?_
      refine x_val (r_assign ec) (nd_of rfl) rfl ?_
      refine xw_nil ?_
      refine hK1 _ _ ?_
      refine xc_gen (fun g hg => ?_)
      have s0 := (hg 0).trans (en rfl s0)
      have s2 := (hg 2).trans es
      clear hg
      refine xc_seq (fun K hK2 => ?_)
      refine xc_seq (fun K hK3 => ?_)
      refine xc_region ?_
      refine x_val (r_move s0) (nd_of rfl) rfl ?_
      refine x_val (r_lss es ec (decide_eq_false (by omega))) (nd_of rfl) rfl ?_
      refine x_val (r_move es) (nd_of rfl) rfl ?_
      refine x_take (d := 5) rfl rfl es ?_
      refine x_val (r_move (en rfl (en rfl (en rfl s0)))) (nd_of rfl) rfl ?_
      refine x_take (d := 5) rfl rfl (en rfl es) ?_
      refine x_val (r_gtr es ec (decide_eq_true (by omega))) (nd_of rfl) rfl ?_
      refine x_val (r_pick_f (en rfl (en rfl es)) es) (nd_of rfl) rfl ?_
      refine xw_nil ?_
      refine hK3 _ _ ?_
      refine xc_gen (fun g hg => ?_)
      have s0 := (hg 0).trans (en rfl (en rfl (en rfl (en rfl (en rfl (en rfl s0))))))
      have s2 := (hg 2).trans (en rfl (en rfl (en rfl (en rfl (en rfl (en rfl s2))))))
      have s8 := (hg 8).trans es
      clear hg
      refine xc_cond s8 (fun _ => ?_) (fun hc => by cases hc)
      refine xc_seq (fun K hK4 => ?_)
      refine xc_region ?_
      refine x_val (r_assign ec) (nd_of rfl) rfl ?_
      refine xw_nil ?_
      refine hK4 _ _ ?_
      refine xc_gen (fun g hg => ?_)
      have s0 := (hg 0).trans (en rfl s0)
      have s2 := (hg 2).trans es
      have s8 := (hg 8).trans (en rfl s8)
      clear hg
      refine xc_ret ?_
      refine bodyR_1 rfl s2 ?_
      exact ⟨by rw [decide_eq_false (show ¬ rune r from fun h => by have := h.2.1; omega)], h⟩
    · by_cases h3 : r < 55296
      · skip
        refine calls_x Try.func25 rfl Try.ntmps25 rfl ?_
        refine xc_gen (fun g hg => ?_)
        have s0 := (hg 0).trans arg0
        clear hg
        refine xc_seq (fun K hK1 => ?_)
        refine xc_region ?_
        refine x_val (r_assign ec) (nd_of rfl) rfl ?_
        refine xw_nil ?_
        refine hK1 _ _ ?_
        refine xc_gen (fun g hg => ?_)
        have s0 := (hg 0).trans (en rfl s0)
        have s2 := (hg 2).trans es
        clear hg
        refine xc_seq (fun K hK2 => ?_)
        refine xc_seq (fun K hK3 => ?_)
        refine xc_region ?_
        refine x_val (r_move s0) (nd_of rfl) rfl ?_
        refine x_val (r_lss es ec (decide_eq_false (by omega))) (nd_of rfl) rfl ?_
        refine x_val (r_move es) (nd_of rfl) rfl ?_
        refine x_take (d := 5) rfl rfl es ?_
        refine x_val (r_move (en rfl (en rfl (en rfl s0)))) (nd_of rfl) rfl ?_
        refine x_take (d := 5) rfl rfl (en rfl es) ?_
        refine x_val (r_gtr es ec (decide_eq_false (by omega))) (nd_of rfl) rfl ?_
        refine x_val (r_pick_f (en rfl (en rfl es)) es) (nd_of rfl) rfl ?_
        refine xw_nil ?_
        refine hK3 _ _ ?_
        refine xc_gen (fun g hg => ?_)
        have s0 := (hg 0).trans (en rfl (en rfl (en rfl (en rfl (en rfl (en rfl s0))))))
        have s2 := (hg 2).trans (en rfl (en rfl (en rfl (en rfl (en rfl (en rfl s2))))))
        have s8 := (hg 8).trans es
        clear hg
        refine xc_cond s8 (fun hc => by cases hc) (fun _ => ?_)
        refine xc_skip ?_
        refine hK2 _ _ ?_
        refine xc_seq (fun K hK4 => ?_)
        refine xc_region ?_
        refine x_val (r_move s0) (nd_of rfl) rfl ?_
        refine x_val (r_lss es ec (decide_eq_true (by omega))) (nd_of rfl) rfl ?_
        refine x_val (r_move es) (nd_of rfl) rfl ?_
        refine x_pass (d := 11) rfl rfl es rfl ?_
        refine x_pass (d := 11) rfl rfl (en rfl es) rfl ?_
        refine x_val (r_pick_t (en rfl (en rfl es)) ec) (nd_of rfl) rfl ?_
        refine x_val (r_assign es) (nd_of rfl) rfl ?_
        refine xw_nil ?_
        refine hK4 _ _ ?_
        refine xc_gen (fun g hg => ?_)
        have s0 := (hg 0).trans (en rfl (en rfl (en rfl (en rfl (en rfl (en rfl (en rfl s0)))))))
        have s2 := (hg 2).trans es
        have s8 := (hg 8).trans (en rfl (en rfl (en rfl (en rfl (en rfl (en rfl (en rfl s8)))))))
        clear hg
        refine xc_ret ?_
        refine bodyR_1 rfl s2 ?_
        exact ⟨by rw [decide_eq_true (show rune r from ⟨by omega, by omega, .inl h3⟩)], h⟩
      · by_cases h4 : 57343 < r
        · skip
          refine calls_x Try.func25 rfl Try.ntmps25 rfl ?_
          refine xc_gen (fun g hg => ?_)
          have s0 := (hg 0).trans arg0
          clear hg
          refine xc_seq (fun K hK1 => ?_)
          refine xc_region ?_
          refine x_val (r_assign ec) (nd_of rfl) rfl ?_
          refine xw_nil ?_
          refine hK1 _ _ ?_
          refine xc_gen (fun g hg => ?_)
          have s0 := (hg 0).trans (en rfl s0)
          have s2 := (hg 2).trans es
          clear hg
          refine xc_seq (fun K hK2 => ?_)
          refine xc_seq (fun K hK3 => ?_)
          refine xc_region ?_
          refine x_val (r_move s0) (nd_of rfl) rfl ?_
          refine x_val (r_lss es ec (decide_eq_false (by omega))) (nd_of rfl) rfl ?_
          refine x_val (r_move es) (nd_of rfl) rfl ?_
          refine x_take (d := 5) rfl rfl es ?_
          refine x_val (r_move (en rfl (en rfl (en rfl s0)))) (nd_of rfl) rfl ?_
          refine x_take (d := 5) rfl rfl (en rfl es) ?_
          refine x_val (r_gtr es ec (decide_eq_false (by omega))) (nd_of rfl) rfl ?_
          refine x_val (r_pick_f (en rfl (en rfl es)) es) (nd_of rfl) rfl ?_
          refine xw_nil ?_
          refine hK3 _ _ ?_
          refine xc_gen (fun g hg => ?_)
          have s0 := (hg 0).trans (en rfl (en rfl (en rfl (en rfl (en rfl (en rfl s0))))))
          have s2 := (hg 2).trans (en rfl (en rfl (en rfl (en rfl (en rfl (en rfl s2))))))
          have s8 := (hg 8).trans es
          clear hg
          refine xc_cond s8 (fun hc => by cases hc) (fun _ => ?_)
          refine xc_skip ?_
          refine hK2 _ _ ?_
          refine xc_seq (fun K hK4 => ?_)
          refine xc_region ?_
          refine x_val (r_move s0) (nd_of rfl) rfl ?_
          refine x_val (r_lss es ec (decide_eq_false (by omega))) (nd_of rfl) rfl ?_
          refine x_val (r_move es) (nd_of rfl) rfl ?_
          refine x_take (d := 11) rfl rfl es ?_
          refine x_val (r_move (en rfl (en rfl (en rfl s0)))) (nd_of rfl) rfl ?_
          refine x_take (d := 11) rfl rfl (en rfl es) ?_
          refine x_val (r_gtr es ec (decide_eq_true (by omega))) (nd_of rfl) rfl ?_
          refine x_val (r_pick_f (en rfl (en rfl es)) es) (nd_of rfl) rfl ?_
          refine x_val (r_assign es) (nd_of rfl) rfl ?_
          refine xw_nil ?_
          refine hK4 _ _ ?_
          refine xc_gen (fun g hg => ?_)
          have s0 := (hg 0).trans (en rfl (en rfl (en rfl (en rfl (en rfl (en rfl (en rfl s0)))))))
          have s2 := (hg 2).trans es
          have s8 := (hg 8).trans (en rfl (en rfl (en rfl (en rfl (en rfl (en rfl (en rfl s8)))))))
          clear hg
          refine xc_ret ?_
          refine bodyR_1 rfl s2 ?_
          exact ⟨by rw [decide_eq_true (show rune r from ⟨by omega, by omega, .inr h4⟩)], h⟩
        · skip
          refine calls_x Try.func25 rfl Try.ntmps25 rfl ?_
          refine xc_gen (fun g hg => ?_)
          have s0 := (hg 0).trans arg0
          clear hg
          refine xc_seq (fun K hK1 => ?_)
          refine xc_region ?_
          refine x_val (r_assign ec) (nd_of rfl) rfl ?_
          refine xw_nil ?_
          refine hK1 _ _ ?_
          refine xc_gen (fun g hg => ?_)
          have s0 := (hg 0).trans (en rfl s0)
          have s2 := (hg 2).trans es
          clear hg
          refine xc_seq (fun K hK2 => ?_)
          refine xc_seq (fun K hK3 => ?_)
          refine xc_region ?_
          refine x_val (r_move s0) (nd_of rfl) rfl ?_
          refine x_val (r_lss es ec (decide_eq_false (by omega))) (nd_of rfl) rfl ?_
          refine x_val (r_move es) (nd_of rfl) rfl ?_
          refine x_take (d := 5) rfl rfl es ?_
          refine x_val (r_move (en rfl (en rfl (en rfl s0)))) (nd_of rfl) rfl ?_
          refine x_take (d := 5) rfl rfl (en rfl es) ?_
          refine x_val (r_gtr es ec (decide_eq_false (by omega))) (nd_of rfl) rfl ?_
          refine x_val (r_pick_f (en rfl (en rfl es)) es) (nd_of rfl) rfl ?_
          refine xw_nil ?_
          refine hK3 _ _ ?_
          refine xc_gen (fun g hg => ?_)
          have s0 := (hg 0).trans (en rfl (en rfl (en rfl (en rfl (en rfl (en rfl s0))))))
          have s2 := (hg 2).trans (en rfl (en rfl (en rfl (en rfl (en rfl (en rfl s2))))))
          have s8 := (hg 8).trans es
          clear hg
          refine xc_cond s8 (fun hc => by cases hc) (fun _ => ?_)
          refine xc_skip ?_
          refine hK2 _ _ ?_
          refine xc_seq (fun K hK4 => ?_)
          refine xc_region ?_
          refine x_val (r_move s0) (nd_of rfl) rfl ?_
          refine x_val (r_lss es ec (decide_eq_false (by omega))) (nd_of rfl) rfl ?_
          refine x_val (r_move es) (nd_of rfl) rfl ?_
          refine x_take (d := 11) rfl rfl es ?_
          refine x_val (r_move (en rfl (en rfl (en rfl s0)))) (nd_of rfl) rfl ?_
          refine x_take (d := 11) rfl rfl (en rfl es) ?_
          refine x_val (r_gtr es ec (decide_eq_false (by omega))) (nd_of rfl) rfl ?_
          refine x_val (r_pick_f (en rfl (en rfl es)) es) (nd_of rfl) rfl ?_
          refine x_val (r_assign es) (nd_of rfl) rfl ?_
          refine xw_nil ?_
          refine hK4 _ _ ?_
          refine xc_gen (fun g hg => ?_)
          have s0 := (hg 0).trans (en rfl (en rfl (en rfl (en rfl (en rfl (en rfl (en rfl s0)))))))
          have s2 := (hg 2).trans es
          have s8 := (hg 8).trans (en rfl (en rfl (en rfl (en rfl (en rfl (en rfl (en rfl s8)))))))
          clear hg
          refine xc_ret ?_
          refine bodyR_1 rfl s2 ?_
          exact ⟨by rw [decide_eq_false (show ¬ rune r from fun h => by have := h.2.2; omega)], h⟩

theorem refOf_bad (hv : Reads E R v .i32 zs) (hb : ∃ r ∈ zs, ¬ rune r) (hz : zs.length ≤ 1000000) (h : SatL E w R) : Calls Try.prog 11 #[v] w (Ret fun u w' => u = .int .i64 3 ∧ SatL E w' R) := by
  obtain ⟨a, cap, rfl, hl1, hl2⟩ := hv.slice h
  refine calls_x Try.func11 rfl Try.ntmps11 rfl ?_
  refine xc_gen (fun g hg => ?_)
  have s0 := (hg 0).trans arg0
  clear hg
  refine xc_seq (fun K hK1 => ?_)
  refine xc_region ?_
  refine x_val (r_assign ec) (nd_of rfl) rfl ?_
  refine xw_nil ?_
  refine hK1 _ _ ?_
  refine xc_gen (fun g hg => ?_)
  have s0 := (hg 0).trans (en rfl s0)
  have s2 := (hg 2).trans es
  clear hg
  refine xc_seq (fun K hK2 => ?_)
  refine xc_seq (fun K hK3 => ?_)
  refine xc_region ?_
  refine x_val (r_assign ec) (nd_of rfl) rfl ?_
  refine xw_nil ?_
  refine hK3 _ _ ?_
  refine xc_gen (fun g hg => ?_)
  have s0 := (hg 0).trans (en rfl s0)
  have s2 := (hg 2).trans (en rfl s2)
  have s3 := (hg 3).trans es
  clear hg
  refine xc_block ?_
  obtain ⟨G4, hG4⟩ : ∃ g0 : Nat → Value, g0 = g := ⟨_, rfl⟩
  have z0 : G4 0 = _ := (congrFun hG4 0).trans s0
  refine xc_loop (fun m f w => (∃ k : Nat, m = zs.length - k ∧ k ≤ zs.length ∧ f 3 = .int .i64 (k : Int) ∧ (∀ (i : Nat) r, i < k → zs[i]? = some r → rune r) ∧ SatL E w R) ∧ (f 0 = G4 0)) (zs.length) ⟨⟨0, by omega, by omega, s3, fun i r hi => by omega, h⟩, congrFun hG4.symm 0⟩ ?_
  rintro m g w ⟨⟨k, hm, hk, s3, hg, h⟩, y0⟩
  have s0 := y0.trans z0
  refine xc_seq (fun K hK5 => ?_)
  refine xc_seq (fun K hK6 => ?_)
  refine xc_region ?_
  refine x_val (r_move s3) (nd_of rfl) rfl ?_
  refine x_val (r_move (en rfl s0)) (nd_of rfl) rfl ?_
  refine x_val (r_len Try.underlying22 es) (nd_of rfl) rfl ?_
  refine x_val (r_lss (en rfl (en rfl es)) es rfl) (nd_of rfl) rfl ?_
  refine xw_nil ?_
  refine hK6 _ _ ?_
  refine xc_gen (fun g hg => ?_)
  have s0 := (hg 0).trans (en rfl (en rfl (en rfl (en rfl s0))))
  have s3 := (hg 3).trans (en rfl (en rfl (en rfl (en rfl s3))))
  have s7 := (hg 7).trans es
  clear hg
  refine xc_cond s7 (fun hc => ?_) (fun hc => ?_)
  ·
    refine xc_skip ?_
    refine hK5 _ _ ?_
    refine xc_seq (fun K hK7 => ?_)
    refine xc_block ?_
    refine xc_seq (fun K hK8 => ?_)
    have hi : k < zs.length := by have := of_decide_eq_true hc; omega
    obtain ⟨r, hr⟩ : ∃ r, zs[k]? = some r := ⟨_, List.getElem?_eq_getElem hi⟩
    obtain ⟨a', rfl, hcell⟩ := hv.get h hr
    refine xc_region ?_
    refine x_val (r_move s0) (nd_of rfl) rfl ?_
    refine x_val (r_move (en rfl s3)) (nd_of rfl) rfl ?_
    refine x_val (r_index1 Try.underlying22 Try.sizeOf21 (en rfl es) es hi) (nd_of rfl) rfl ?_
    refine x_val (r_loadCell Try.isAgg21 es hcell) (nd_of rfl) rfl ?_
    refine x_enter (r_call Try.call25 (.cons es .nil)) (nd_of rfl) rfl (refCode_ok h) ?_
    rintro _ w ⟨rfl, h⟩
    refine x_val (r_not es rfl) (nd_of rfl) rfl ?_
    refine xw_nil ?_
    refine hK8 _ _ ?_
    refine xc_gen (fun g hg => ?_)
    have s0 := (hg 0).trans (en rfl (en rfl (en rfl (en rfl (en rfl (en rfl s0))))))
    have s3 := (hg 3).trans (en rfl (en rfl (en rfl (en rfl (en rfl (en rfl s3))))))
    have s7 := (hg 7).trans (en rfl (en rfl (en rfl (en rfl (en rfl (en rfl s7))))))
    have s15 := (hg 15).trans es
    clear hg
    refine xc_cond s15 (fun hc => ?_) (fun hc => ?_)
    ·
      refine xc_seq (fun K hK9 => ?_)
      refine xc_region ?_
      refine x_val (r_assign ec) (nd_of rfl) rfl ?_
      refine xw_nil ?_
      refine hK9 _ _ ?_
      refine xc_gen (fun g hg => ?_)
      have s0 := (hg 0).trans (en rfl s0)
      have s2 := (hg 2).trans es
      have s3 := (hg 3).trans (en rfl s3)
      have s7 := (hg 7).trans (en rfl s7)
      have s15 := (hg 15).trans (en rfl s15)
      clear hg
      refine xc_ret ?_
      refine bodyR_1 rfl s2 ?_
      exact ⟨rfl, h⟩
    ·
      refine xc_skip ?_
      refine hK7 _ _ ?_
      have hru : rune r := by simpa using hc
      refine xc_region ?_
      refine x_val (r_move s3) (nd_of rfl) rfl ?_
      refine x_val (r_add es ec (show _ = (((k + 1 : Nat) : Int) : Int) from by omega) (by unfold I64; omega)) (nd_of rfl) rfl ?_
      refine x_val (r_assign es) (nd_of rfl) rfl ?_
      refine xw_nil ?_
      exact ⟨zs.length - (k + 1), by omega, ⟨k + 1, rfl, by omega, es, fun i r' hi' hr' => by rcases Nat.lt_or_ge i k with h1 | h1; exact hg i r' h1 hr'; obtain rfl : i = k := (by omega); rw [hr] at hr'; cases hr'; exact hru, h⟩, ((en rfl (en rfl (en rfl s0)))).trans z0.symm⟩
  ·
    obtain ⟨r, hr, hnr⟩ := hb
    obtain ⟨i, hi, he⟩ := List.mem_iff_getElem.1 hr
    have hkl : ¬ k < zs.length := by have := of_decide_eq_false hc; omega
    exact absurd (hg i r (by omega) (by rw [List.getElem?_eq_getElem hi, he])) hnr
theorem refOf_all {ee : Int} (hv : Reads E R v .i32 zs) (ha : ∀ r ∈ zs, rune r) (hz : zs.length ≤ 1000000) (he : ee = if 32 < zs.length then 8 else 0) (h : SatL E w R) : Calls Try.prog 11 #[v] w (Ret fun u w' => u = .int .i64 ee ∧ SatL E w' R) := by
  obtain ⟨a, cap, rfl, hl1, hl2⟩ := hv.slice h
  refine calls_x Try.func11 rfl Try.ntmps11 rfl ?_
  refine xc_gen (fun g hg => ?_)
  have s0 := (hg 0).trans arg0
  clear hg
  refine xc_seq (fun K hK1 => ?_)
  refine xc_region ?_
  refine x_val (r_assign ec) (nd_of rfl) rfl ?_
  refine xw_nil ?_
  refine hK1 _ _ ?_
  refine xc_gen (fun g hg => ?_)
  have s0 := (hg 0).trans (en rfl s0)
  have s2 := (hg 2).trans es
  clear hg
  refine xc_seq (fun K hK2 => ?_)
  refine xc_seq (fun K hK3 => ?_)
  refine xc_region ?_
  refine x_val (r_assign ec) (nd_of rfl) rfl ?_
  refine xw_nil ?_
  refine hK3 _ _ ?_
  refine xc_gen (fun g hg => ?_)
  have s0 := (hg 0).trans (en rfl s0)
  have s2 := (hg 2).trans (en rfl s2)
  have s3 := (hg 3).trans es
  clear hg
  refine xc_block ?_
  obtain ⟨G4, hG4⟩ : ∃ g0 : Nat → Value, g0 = g := ⟨_, rfl⟩
  have z0 : G4 0 = _ := (congrFun hG4 0).trans s0
  refine xc_loop (fun m f w => (∃ k : Nat, m = zs.length - k ∧ k ≤ zs.length ∧ f 3 = .int .i64 (k : Int) ∧ SatL E w R) ∧ (f 0 = G4 0)) (zs.length) ⟨⟨0, by omega, by omega, s3, h⟩, congrFun hG4.symm 0⟩ ?_
  rintro m g w ⟨⟨k, hm, hk, s3, h⟩, y0⟩
  have s0 := y0.trans z0
  refine xc_seq (fun K hK5 => ?_)
  refine xc_seq (fun K hK6 => ?_)
  refine xc_region ?_
  refine x_val (r_move s3) (nd_of rfl) rfl ?_
  refine x_val (r_move (en rfl s0)) (nd_of rfl) rfl ?_
  refine x_val (r_len Try.underlying22 es) (nd_of rfl) rfl ?_
  refine x_val (r_lss (en rfl (en rfl es)) es rfl) (nd_of rfl) rfl ?_
  refine xw_nil ?_
  refine hK6 _ _ ?_
  refine xc_gen (fun g hg => ?_)
  have s0 := (hg 0).trans (en rfl (en rfl (en rfl (en rfl s0))))
  have s3 := (hg 3).trans (en rfl (en rfl (en rfl (en rfl s3))))
  have s7 := (hg 7).trans es
  clear hg
  refine xc_cond s7 (fun hc => ?_) (fun hc => ?_)
  ·
    refine xc_skip ?_
    refine hK5 _ _ ?_
    refine xc_seq (fun K hK7 => ?_)
    refine xc_block ?_
    refine xc_seq (fun K hK8 => ?_)
    have hi : k < zs.length := by have := of_decide_eq_true hc; omega
    obtain ⟨r, hr⟩ : ∃ r, zs[k]? = some r := ⟨_, List.getElem?_eq_getElem hi⟩
    obtain ⟨a', rfl, hcell⟩ := hv.get h hr
    refine xc_region ?_
    refine x_val (r_move s0) (nd_of rfl) rfl ?_
    refine x_val (r_move (en rfl s3)) (nd_of rfl) rfl ?_
    refine x_val (r_index1 Try.underlying22 Try.sizeOf21 (en rfl es) es hi) (nd_of rfl) rfl ?_
    refine x_val (r_loadCell Try.isAgg21 es hcell) (nd_of rfl) rfl ?_
    refine x_enter (r_call Try.call25 (.cons es .nil)) (nd_of rfl) rfl (refCode_ok h) ?_
    rintro _ w ⟨rfl, h⟩
    refine x_val (r_not es rfl) (nd_of rfl) rfl ?_
    refine xw_nil ?_
    refine hK8 _ _ ?_
    refine xc_gen (fun g hg => ?_)
    have s0 := (hg 0).trans (en rfl (en rfl (en rfl (en rfl (en rfl (en rfl s0))))))
    have s3 := (hg 3).trans (en rfl (en rfl (en rfl (en rfl (en rfl (en rfl s3))))))
    have s7 := (hg 7).trans (en rfl (en rfl (en rfl (en rfl (en rfl (en rfl s7))))))
    have s15 := (hg 15).trans es
    clear hg
    refine xc_cond s15 (fun hc => absurd hc (by simp [ha r (List.mem_of_getElem? hr)])) (fun _ => ?_)
    refine xc_skip ?_
    refine hK7 _ _ ?_
    refine xc_region ?_
    refine x_val (r_move s3) (nd_of rfl) rfl ?_
    refine x_val (r_add es ec (show _ = (((k + 1 : Nat) : Int) : Int) from by omega) (by unfold I64; omega)) (nd_of rfl) rfl ?_
    refine x_val (r_assign es) (nd_of rfl) rfl ?_
    refine xw_nil ?_
    exact ⟨zs.length - (k + 1), by omega, ⟨k + 1, rfl, by omega, es, h⟩, ((en rfl (en rfl (en rfl s0)))).trans z0.symm⟩
  ·
    refine xc_exit ?_
    refine hK2 _ _ ?_
    refine xc_seq (fun K hK9 => ?_)
    refine xc_seq (fun K hK10 => ?_)
    refine xc_region ?_
    refine x_val (r_move s0) (nd_of rfl) rfl ?_
    refine x_val (r_len Try.underlying22 es) (nd_of rfl) rfl ?_
    refine x_val (r_gtr es ec rfl) (nd_of rfl) rfl ?_
    refine xw_nil ?_
    refine hK10 _ _ ?_
    refine xc_gen (fun g hg => ?_)
    have s0 := (hg 0).trans (en rfl (en rfl (en rfl s0)))
    have s3 := (hg 3).trans (en rfl (en rfl (en rfl s3)))
    have s7 := (hg 7).trans (en rfl (en rfl (en rfl s7)))
    have s18 := (hg 18).trans es
    clear hg
    refine xc_cond s18 (fun hc => ?_) (fun hc => ?_)
    ·
      refine xc_seq (fun K hK11 => ?_)
      rw [if_pos (by have := of_decide_eq_true hc; omega)] at he
      refine xc_region ?_
      refine x_val (r_assign ec) (nd_of rfl) rfl ?_
      refine xw_nil ?_
      refine hK11 _ _ ?_
      refine xc_gen (fun g hg => ?_)
      have s0 := (hg 0).trans (en rfl s0)
      have s2 := (hg 2).trans es
      have s3 := (hg 3).trans (en rfl s3)
      have s7 := (hg 7).trans (en rfl s7)
      have s18 := (hg 18).trans (en rfl s18)
      clear hg
      refine xc_ret ?_
      refine bodyR_1 rfl s2 ?_
      exact ⟨by rw [he], h⟩
    ·
      refine xc_skip ?_
      refine hK9 _ _ ?_
      refine xc_seq (fun K hK12 => ?_)
      rw [if_neg (by have := of_decide_eq_false hc; omega)] at he
      refine xc_region ?_
      refine x_val (r_assign ec) (nd_of rfl) rfl ?_
      refine xw_nil ?_
      refine hK12 _ _ ?_
      refine xc_gen (fun g hg => ?_)
      have s0 := (hg 0).trans (en rfl s0)
      have s2 := (hg 2).trans es
      have s3 := (hg 3).trans (en rfl s3)
      have s7 := (hg 7).trans (en rfl s7)
      have s18 := (hg 18).trans (en rfl s18)
      clear hg
      refine xc_ret ?_
      refine bodyR_1 rfl s2 ?_
      exact ⟨by rw [he], h⟩
theorem refNl_ok (hv : Reads E R v .i32 zs) (hz : zs.length ≤ 1000000) (h : SatL E w R) : Calls Try.prog 26 #[v] w (Ret fun u w' => SatL E w' (Row 3 1 u (nlsT zs zs.length).length (i64s (nlsT zs zs.length)) :: R)) := by
  obtain ⟨a, cap, rfl, hl1, hl2⟩ := hv.slice h
  refine calls_x Try.func26 rfl Try.ntmps26 rfl ?_
  refine xc_gen (fun g hg => ?_)
  have s0 := (hg 0).trans arg0
  clear hg
  have h := h.rowNil (e := 3) (sz := 1)
  refine xc_seq (fun K hK1 => ?_)
  refine xc_region ?_
  refine x_val (r_assign ec) (nd_of rfl) rfl ?_
  refine xw_nil ?_
  refine hK1 _ _ ?_
  refine xc_gen (fun g hg => ?_)
  have s0 := (hg 0).trans (en rfl s0)
  have s2 := (hg 2).trans es
  clear hg
  refine xc_seq (fun K hK2 => ?_)
  refine xc_region ?_
  refine x_val (r_assign ec) (nd_of rfl) rfl ?_
  refine xw_nil ?_
  refine hK2 _ _ ?_
  refine xc_gen (fun g hg => ?_)
  have s0 := (hg 0).trans (en rfl s0)
  have s2 := (hg 2).trans (en rfl s2)
  have s3 := (hg 3).trans es
  clear hg
  refine xc_seq (fun K hK3 => ?_)
  refine xc_seq (fun K hK4 => ?_)
  refine xc_region ?_
  refine x_val (r_assign ec) (nd_of rfl) rfl ?_
  refine xw_nil ?_
  refine hK4 _ _ ?_
  refine xc_gen (fun g hg => ?_)
  have s0 := (hg 0).trans (en rfl s0)
  have s2 := (hg 2).trans (en rfl s2)
  have s3 := (hg 3).trans (en rfl s3)
  have s4 := (hg 4).trans es
  clear hg
  refine xc_block ?_
  obtain ⟨G5, hG5⟩ : ∃ g0 : Nat → Value, g0 = g := ⟨_, rfl⟩
  have z0 : G5 0 = _ := (congrFun hG5 0).trans s0
  have z2 : G5 2 = _ := (congrFun hG5 2).trans s2
  refine xc_loop (fun m f w => (∃ (k : Nat) (o : Value), m = zs.length - k ∧ k ≤ zs.length ∧ f 4 = .int .i64 (k : Int) ∧ f 3 = o ∧ SatL E w (Row 3 1 o (nlsT zs k).length (i64s (nlsT zs k)) :: R)) ∧ (f 0 = G5 0 ∧ f 2 = G5 2)) (zs.length) ⟨⟨0, _, by omega, by omega, s4, s3, h⟩, ⟨congrFun hG5.symm 0, congrFun hG5.symm 2⟩⟩ ?_
  rintro m g w ⟨⟨k, o, hm, hk, s4, s3, h⟩, ⟨y0, y2⟩⟩
  have s0 := y0.trans z0
  have s2 := y2.trans z2
  refine xc_seq (fun K hK6 => ?_)
  refine xc_seq (fun K hK7 => ?_)
  refine xc_region ?_
  refine x_val (r_move s4) (nd_of rfl) rfl ?_
  refine x_val (r_move (en rfl s0)) (nd_of rfl) rfl ?_
  refine x_val (r_len Try.underlying22 es) (nd_of rfl) rfl ?_
  refine x_val (r_lss (en rfl (en rfl es)) es rfl) (nd_of rfl) rfl ?_
  refine xw_nil ?_
  refine hK7 _ _ ?_
  refine xc_gen (fun g hg => ?_)
  have s0 := (hg 0).trans (en rfl (en rfl (en rfl (en rfl s0))))
  have s2 := (hg 2).trans (en rfl (en rfl (en rfl (en rfl s2))))
  have s3 := (hg 3).trans (en rfl (en rfl (en rfl (en rfl s3))))
  have s4 := (hg 4).trans (en rfl (en rfl (en rfl (en rfl s4))))
  have s8 := (hg 8).trans es
  clear hg
  refine xc_cond s8 (fun hc => ?_) (fun hc => ?_)
  ·
    refine xc_skip ?_
    refine hK6 _ _ ?_
    refine xc_seq (fun K hK8 => ?_)
    refine xc_block ?_
    refine xc_seq (fun K hK9 => ?_)
    have hi : k < zs.length := by have := of_decide_eq_true hc; omega
    obtain ⟨r, hr⟩ : ∃ r, zs[k]? = some r := ⟨_, List.getElem?_eq_getElem hi⟩
    obtain ⟨a', rfl, hcell⟩ := hv.get h.drop hr
    have hst := nlsT_succ (l := zs) (n := k)
    have hln := nlsT_len (l := zs) k hk
    have hln2 : (zs.take k).count 10 ≤ 1000000 := Nat.le_trans List.count_le_length (by rw [List.length_take]; omega)
    refine xc_region ?_
    refine x_val (r_move s0) (nd_of rfl) rfl ?_
    refine x_val (r_move (en rfl s4)) (nd_of rfl) rfl ?_
    refine x_val (r_index1 Try.underlying22 Try.sizeOf21 (en rfl es) es hi) (nd_of rfl) rfl ?_
    refine x_val (r_loadCell Try.isAgg21 es hcell) (nd_of rfl) rfl ?_
    refine x_val (r_eql es ec rfl) (nd_of rfl) rfl ?_
    refine xw_nil ?_
    refine hK9 _ _ ?_
    refine xc_gen (fun g hg => ?_)
    have s0 := (hg 0).trans (en rfl (en rfl (en rfl (en rfl (en rfl s0)))))
    have s2 := (hg 2).trans (en rfl (en rfl (en rfl (en rfl (en rfl s2)))))
    have s3 := (hg 3).trans (en rfl (en rfl (en rfl (en rfl (en rfl s3)))))
    have s4 := (hg 4).trans (en rfl (en rfl (en rfl (en rfl (en rfl s4)))))
    have s8 := (hg 8).trans (en rfl (en rfl (en rfl (en rfl (en rfl s8)))))
    have s15 := (hg 15).trans es
    clear hg
    refine xc_cond s15 (fun hc => ?_) (fun hc => ?_)
    ·
      have h10 : r = 10 := of_decide_eq_true hc
      rw [if_pos (by rw [hr, h10])] at hst
      refine xc_region ?_
      refine x_val (r_move s3) (nd_of rfl) rfl ?_
      refine x_val (r_move (en rfl s4)) (nd_of rfl) rfl ?_
      refine x_bslice (c := #[.int .i64 (k : Int)]) h Try.underlying49 Try.sizeOf3 Try.zeroValue3 rfl rfl es rfl ok_int rfl ?_; intro bn w h; have h := h.f1
      refine x_append (bytes := 8) h Try.underlying49 (by kernel_rfl) (en rfl (en rfl es)) es ok_int (by omega) (by omega) rfl ?_; intro o2 w h; have h := h.f1.drop
      have h : SatL E w (Row 3 1 o2 (nlsT zs (k + 1)).length (i64s (nlsT zs (k + 1))) :: R) := by rw [hst, List.length_append, i64s, List.map_append]; exact h
      refine x_val (r_assign es) (nd_of rfl) rfl ?_
      refine xw_nil ?_
      refine hK8 _ _ ?_
      refine xc_gen (fun g hg => ?_)
      have s0 := (hg 0).trans (en rfl (en rfl (en rfl (en rfl (en rfl s0)))))
      have s2 := (hg 2).trans (en rfl (en rfl (en rfl (en rfl (en rfl s2)))))
      have s3 := (hg 3).trans es
      have s4 := (hg 4).trans (en rfl (en rfl (en rfl (en rfl (en rfl s4)))))
      have s8 := (hg 8).trans (en rfl (en rfl (en rfl (en rfl (en rfl s8)))))
      have s15 := (hg 15).trans (en rfl (en rfl (en rfl (en rfl (en rfl s15)))))
      clear hg
      refine xc_region ?_
      refine x_val (r_move s4) (nd_of rfl) rfl ?_
      refine x_val (r_add es ec (show _ = (((k + 1 : Nat) : Int) : Int) from by omega) (by unfold I64; omega)) (nd_of rfl) rfl ?_
      refine x_val (r_assign es) (nd_of rfl) rfl ?_
      refine xw_nil ?_
      exact ⟨zs.length - (k + 1), by omega, ⟨k + 1, _, rfl, by omega, es, (en rfl (en rfl (en rfl s3))), h⟩, ⟨((en rfl (en rfl (en rfl s0)))).trans z0.symm, ((en rfl (en rfl (en rfl s2)))).trans z2.symm⟩⟩
    ·
      refine xc_skip ?_
      refine hK8 _ _ ?_
      have h10 : ¬ r = 10 := of_decide_eq_false hc
      rw [if_neg (by rw [hr]; simpa using h10), List.append_nil] at hst
      rw [← hst] at h
      refine xc_region ?_
      refine x_val (r_move s4) (nd_of rfl) rfl ?_
      refine x_val (r_add es ec (show _ = (((k + 1 : Nat) : Int) : Int) from by omega) (by unfold I64; omega)) (nd_of rfl) rfl ?_
      refine x_val (r_assign es) (nd_of rfl) rfl ?_
      refine xw_nil ?_
      exact ⟨zs.length - (k + 1), by omega, ⟨k + 1, _, rfl, by omega, es, (en rfl (en rfl (en rfl s3))), h⟩, ⟨((en rfl (en rfl (en rfl s0)))).trans z0.symm, ((en rfl (en rfl (en rfl s2)))).trans z2.symm⟩⟩
  ·
    refine xc_exit ?_
    refine hK3 _ _ ?_
    refine xc_seq (fun K hK10 => ?_)
    obtain rfl : k = zs.length := by have := of_decide_eq_false hc; omega
    refine xc_region ?_
    refine x_val (r_move s3) (nd_of rfl) rfl ?_
    refine x_val (r_assign es) (nd_of rfl) rfl ?_
    refine xw_nil ?_
    refine hK10 _ _ ?_
    refine xc_gen (fun g hg => ?_)
    have s0 := (hg 0).trans (en rfl (en rfl s0))
    have s2 := (hg 2).trans es
    have s3 := (hg 3).trans (en rfl (en rfl s3))
    have s4 := (hg 4).trans (en rfl (en rfl s4))
    have s8 := (hg 8).trans (en rfl (en rfl s8))
    clear hg
    refine xc_ret ?_
    refine bodyR_1 rfl s2 ?_
    exact h
end
end Go.Proofs.Ytimieinmphhmmaa
