/-
Ahead and Mark: newlines ahead of a place; the place of a newline.
-/
import Derived.Test.YtmfkhfmidnojhaaT14
namespace Go.Proofs.Ytmfkhfmidnojhaa
open Go Go.RowKit
theorem sz_txt : ∀ xs : List X, sz xs = xs.flatten.length
  | [] => rfl
  | x :: l => by rw [List.flatten_cons, List.length_append, ← sz_txt l]; rfl
theorem mks_txt : ∀ xs : List X, mks xs = xs.flatten.count 10
  | [] => rfl
  | x :: l => by rw [List.flatten_cons, List.count_append, ← mks_txt l]; rfl
section
variable {A x C : List Int} {k : Nat}
theorem cnt_mid1 (h : k ≤ A.length) : ((A ++ (x ++ C)).take k).count 10 = (A.take k).count 10 := by rw [List.take_append_of_le_length h]
theorem cnt_mid2 (h : A.length ≤ k) (h2 : k ≤ A.length + x.length) : ((A ++ (x ++ C)).take k).count 10 = A.count 10 + (x.take (k - A.length)).count 10 := by
  rw [List.take_append, List.take_of_length_le h, List.count_append, List.take_append_of_le_length (by omega)]
theorem cnt_mid3 (h : A.length + x.length ≤ k) : ((A ++ (x ++ C)).take k).count 10 = A.count 10 + x.count 10 + (C.take (k - A.length - x.length)).count 10 := by
  rw [List.take_append, List.take_of_length_le (by omega), List.count_append, List.take_append, List.take_of_length_le (by omega), List.count_append]
  omega
theorem nlAt_app : ∀ (a b : List Int) (k : Int), 0 ≤ k → nlAt (a ++ b) k = if k < (a.count 10 : Int) then nlAt a k else (nlAt b (k - (a.count 10 : Int))).map (· + a.length)
  | [], b, k, h => by
    rw [List.nil_append, if_neg (by simp; omega)]
    simp
  | r :: a, b, k, h => by
    have ih := nlAt_app a b
    simp only [List.cons_append, nlAt]
    by_cases h10 : r = 10
    · subst h10
      simp only [if_true, List.count_cons_self]
      by_cases h0 : k = 0
      · rw [if_pos h0, if_pos h0, if_pos (by omega)]
      · rw [if_neg h0, if_neg h0, ih (k - 1) (by omega)]
        by_cases hk : k - 1 < (a.count 10 : Int)
        · rw [if_pos hk, if_pos (by omega)]
        · rw [if_neg hk, if_neg (by omega), show k - 1 - (a.count 10 : Int) = k - ((a.count 10 + 1 : Nat) : Int) by omega]
          cases nlAt b (k - ((a.count 10 + 1 : Nat) : Int)) <;> simp; omega
    · rw [if_neg h10, List.count_cons_of_ne h10, ih k h]
      by_cases hk : k < (a.count 10 : Int)
      · rw [if_pos hk, if_pos hk, if_neg h10]
      · rw [if_neg hk, if_neg hk]
        cases nlAt b (k - (a.count 10 : Int)) <;> simp; omega
theorem nlAt_lt : ∀ {l : List Int} {k : Int} {p : Nat}, nlAt l k = some p → p < l.length
  | [], _, _, h => by simp [nlAt] at h
  | r :: l, k, p, h => by
    simp only [nlAt] at h
    split at h
    · split at h
      · cases h; simp
      · cases h2 : nlAt l (k - 1) with
        | none => rw [h2] at h; cases h
        | some q => rw [h2] at h; have := nlAt_lt h2; simp at h; simp; omega
    · cases h2 : nlAt l k with
      | none => rw [h2] at h; cases h
      | some q => rw [h2] at h; have := nlAt_lt h2; simp at h; simp; omega
theorem nlAt_some : ∀ {l : List Int} {k : Int}, 0 ≤ k → k < (l.count 10 : Int) → ∃ p, nlAt l k = some p
  | [], k, h0, h1 => by simp at h1; omega
  | r :: l, k, h0, h1 => by
    simp only [nlAt]
    by_cases h10 : r = 10
    · rw [if_pos h10]
      by_cases hk : k = 0
      · exact ⟨0, by rw [if_pos hk]⟩
      · subst h10
        rw [List.count_cons_self] at h1
        obtain ⟨p, hp⟩ := nlAt_some (l := l) (k := k - 1) (by omega) (by omega)
        exact ⟨p + 1, by rw [if_neg hk, hp]; rfl⟩
    · rw [List.count_cons_of_ne h10] at h1
      obtain ⟨p, hp⟩ := nlAt_some (l := l) (k := k) h0 h1
      exact ⟨p + 1, by rw [if_neg h10, hp]; rfl⟩
end
section
variable {E : Env} {R : List SProp} {w : World} {bt ba B : Nat} {xs l : List X}
theorem ahead_t {i V : Nat} (hi : i ≤ 1000000000000) (hV : (xs.flatten.take i).count 10 = V) (h : SatL E w (TreeB bt ba xs B :: R)) : Calls Try.prog 35 #[pT bt, .int .i64 (i : Int), .func (.func 36) #[] #[]] w (Ret fun v w' => v = .int .i64 (V : Int) ∧ SatL E w' (TreeB bt ba xs B :: R)) := by
  obtain ⟨pl, fr, t, ht, h⟩ := h.openTree
  have hxs := ht.xsE
  have hbt : Bd t.xs := hxs ▸ ht.bd
  have hVB : V ≤ 1000000000000 := by
    have h1 : (xs.flatten.take i).count 10 ≤ xs.flatten.count 10 := (List.take_sublist _ _).count_le 10
    have h2 := ht.bd.2.2
    rw [mks_txt] at h2
    omega
  refine calls_x Try.func35 rfl Try.ntmps35 rfl ?_
  refine xc_gen (fun g hg => ?_)
  have s0 := (hg 0).trans arg0
  have s1 := (hg 1).trans arg1
  have s2 := (hg 2).trans arg2
  clear hg
  refine xc_seq (fun K hK1 => ?_)
  refine xc_region ?_
  refine x_val (r_assign ec) (nd_of rfl) rfl ?_
  refine xw_nil ?_
  refine hK1 _ _ ?_
  refine xc_gen (fun g hg => ?_)
  have s0 := (hg 0).trans (en rfl s0)
  have s1 := (hg 1).trans (en rfl s1)
  have s2 := (hg 2).trans (en rfl s2)
  have s6 := (hg 6).trans es
  clear hg
  refine xc_seq (fun K hK2 => ?_)
  refine xc_seq (fun K hK3 => ?_)
  refine xc_region ?_
  refine x_val (r_move s0) (nd_of rfl) rfl ?_
  refine x_val (r_nilCheck es) (nd_of rfl) rfl ?_
  refine x_val (r_fieldAddr (o' := 4) Try.underlying93 rfl Try.sizeOf3 rfl es rfl) (nd_of rfl) rfl ?_
  refine x_val (r_load h 0 rfl Try.isAgg3 es gc4) (nd_of rfl) rfl ?_
  refine x_val (r_assign es) (nd_of rfl) rfl ?_
  refine xw_nil ?_
  refine hK3 _ _ ?_
  refine xc_gen (fun g hg => ?_)
  have s0 := (hg 0).trans (en rfl (en rfl (en rfl (en rfl (en rfl s0)))))
  have s1 := (hg 1).trans (en rfl (en rfl (en rfl (en rfl (en rfl s1)))))
  have s2 := (hg 2).trans (en rfl (en rfl (en rfl (en rfl (en rfl s2)))))
  have s6 := (hg 6).trans (en rfl (en rfl (en rfl (en rfl (en rfl s6)))))
  have s7 := (hg 7).trans es
  clear hg
  refine xc_block ?_
  obtain ⟨G4, hG4⟩ : ∃ g0 : Nat → Value, g0 = g := ⟨_, rfl⟩
  have zG4_0 : G4 0 = _ := (congrFun hG4 0).trans s0
  have zG4_2 : G4 2 = _ := (congrFun hG4 2).trans s2
  refine xc_loop (fun m f w => (∃ (s : Tr) (k mv : Nat), m = s.n ∧ k ≤ 1000000000000 ∧ Has pl s ∧ Bd s.xs ∧ mv + (s.xs.flatten.take k).count 10 = V ∧ f 1 = .int .i64 (k : Int) ∧ f 6 = .int .i64 (mv : Int) ∧ f 7 = .int .i64 s.root ∧ SatL E w (TC bt ba t.root :: Ar ba pl fr :: R)) ∧ (f 0 = G4 0 ∧ f 2 = G4 2)) (t.n) ⟨⟨t, i, 0, rfl, hi, ht.has, hbt, by rw [hxs, hV, Nat.zero_add], s1, s6, s7, h⟩, ⟨congrFun hG4.symm 0, congrFun hG4.symm 2⟩⟩ ?_
  rintro m g w ⟨⟨s, k, mv, hm, hk, hs, hbs, hfe, s1, s6, s7, h⟩, ⟨y0, y2⟩⟩
  have s0 := y0.trans zG4_0
  have s2 := y2.trans zG4_2
  obtain rfl | ⟨n0, a, x, c, rfl⟩ : s = .nil ∨ ∃ k l x r, s = .node k l x r := by cases s with | nil => exact .inl rfl | node k l x r => exact .inr ⟨_, _, _, _, rfl⟩
  ·
    skip
    refine xc_seq (fun K hK5 => ?_)
    refine xc_seq (fun K hK6 => ?_)
    refine xc_region ?_
    refine x_val (r_move s7) (nd_of rfl) rfl ?_
    refine x_val (r_neq es ec (decide_eq_false (by (simp [Tr.root])))) (nd_of rfl) rfl ?_
    refine xw_nil ?_
    refine hK6 _ _ ?_
    refine xc_gen (fun g hg => ?_)
    have s0 := (hg 0).trans (en rfl (en rfl s0))
    have s1 := (hg 1).trans (en rfl (en rfl s1))
    have s2 := (hg 2).trans (en rfl (en rfl s2))
    have s6 := (hg 6).trans (en rfl (en rfl s6))
    have s7 := (hg 7).trans (en rfl (en rfl s7))
    have s19 := (hg 19).trans es
    clear hg
    refine xc_cond s19 (fun hc => by cases hc) (fun _ => ?_)
    refine xc_exit ?_
    refine hK2 _ _ ?_
    refine xc_seq (fun K hK7 => ?_)
    have hmv : mv = V := by simpa [Tr.xs] using hfe
    refine xc_region ?_
    refine x_val (r_move s6) (nd_of rfl) rfl ?_
    refine x_val (r_assign es) (nd_of rfl) rfl ?_
    refine xw_nil ?_
    refine hK7 _ _ ?_
    refine xc_gen (fun g hg => ?_)
    have s0 := (hg 0).trans (en rfl (en rfl s0))
    have s1 := (hg 1).trans (en rfl (en rfl s1))
    have s2 := (hg 2).trans (en rfl (en rfl s2))
    have s6 := (hg 6).trans es
    have s7 := (hg 7).trans (en rfl (en rfl s7))
    have s19 := (hg 19).trans (en rfl (en rfl s19))
    clear hg
    refine xc_ret ?_
    refine bodyR_1 rfl s6 ?_
    exact ⟨by rw [hmv], SatL.closeTree ht h⟩
  ·
    skip
    refine xc_seq (fun K hK8 => ?_)
    refine xc_seq (fun K hK9 => ?_)
    have hox := hs.2.1.cells
    have hb0 := hbs
    simp only [Tr.xs, Bd, List.length_append, List.length_cons, sz_app, mks_app, sz, mks] at hb0
    simp only [Tr.xs, List.flatten_append, List.flatten_cons] at hfe hbs
    simp only [Tr.n] at hm
    have ha := sz_txt a.xs
    have hma := mks_txt a.xs
    have hxl : xS x = x.length := rfl
    have hxm : xM x = x.count 10 := rfl
    refine xc_region ?_
    refine x_val (r_move s7) (nd_of rfl) rfl ?_
    refine x_val (r_neq es ec (decide_eq_true (by (simp only [Tr.root]; omega)))) (nd_of rfl) rfl ?_
    refine xw_nil ?_
    refine hK9 _ _ ?_
    refine xc_gen (fun g hg => ?_)
    have s0 := (hg 0).trans (en rfl (en rfl s0))
    have s1 := (hg 1).trans (en rfl (en rfl s1))
    have s2 := (hg 2).trans (en rfl (en rfl s2))
    have s6 := (hg 6).trans (en rfl (en rfl s6))
    have s7 := (hg 7).trans (en rfl (en rfl s7))
    have s19 := (hg 19).trans es
    clear hg
    refine xc_cond s19 (fun _ => ?_) (fun hc => by cases hc)
    refine xc_skip ?_
    refine hK8 _ _ ?_
    refine xc_block ?_
    refine xc_seq (fun K hK10 => ?_)
    refine xc_region ?_
    refine x_val (r_move s0) (nd_of rfl) rfl ?_
    refine x_val (r_move (en rfl s7)) (nd_of rfl) rfl ?_
    have h := h.f1
    have h := h.f1
    refine x_enter (r_call Try.call71 (.cons (en rfl es) (.cons es .nil))) (nd_of rfl) rfl (at_t hs.1 h) ?_
    rintro _ w ⟨rfl, h⟩
    refine x_declA h Try.zeroValue103 Try.sizeOf103 rfl (en rfl es) (by first | assumption | exact Ok.node (by assumption) | exact xOk.cells (by assumption) | exact ChOk.ok (by assumption)) rfl ?_
    intro b8 w h
    refine xw_nil ?_
    refine hK10 _ _ ?_
    refine xc_gen (fun g hg => ?_)
    have s0 := (hg 0).trans (en rfl (en rfl (en rfl (en rfl s0))))
    have s1 := (hg 1).trans (en rfl (en rfl (en rfl (en rfl s1))))
    have s2 := (hg 2).trans (en rfl (en rfl (en rfl (en rfl s2))))
    have s6 := (hg 6).trans (en rfl (en rfl (en rfl (en rfl s6))))
    have s7 := (hg 7).trans (en rfl (en rfl (en rfl (en rfl s7))))
    have s8 := (hg 8).trans es
    have s19 := (hg 19).trans (en rfl (en rfl (en rfl (en rfl s19))))
    clear hg
    refine xc_seq (fun K hK11 => ?_)
    refine xc_region ?_
    refine x_val (r_move s0) (nd_of rfl) rfl ?_
    refine x_val (r_fieldAddr (o' := 33) Try.underlying103 rfl Try.sizeOf3 rfl (en rfl s8) rfl) (nd_of rfl) rfl ?_
    refine x_val (r_load h 0 rfl Try.isAgg3 es (nd0 ‹_›)) (nd_of rfl) rfl ?_
    have h := h.f2
    have h := h.f2
    refine x_enter (r_call Try.call53 (.cons (en rfl (en rfl es)) (.cons es .nil))) (nd_of rfl) rfl (totals_t hs.2.2.1 h) ?_
    rintro _ w ⟨rfl, h⟩
    refine x_val (r_move es) (nd_of rfl) rfl ?_
    refine x_val (r_extract es gc0) (nd_of rfl) rfl ?_
    refine x_val (r_extract (en rfl es) gc1) (nd_of rfl) rfl ?_
    refine x_val (r_extract (en rfl (en rfl es)) gc2) (nd_of rfl) rfl ?_
    refine x_val (r_assign (en rfl (en rfl es))) (nd_of rfl) rfl ?_
    refine x_val (r_assign (en rfl (en rfl es))) (nd_of rfl) rfl ?_
    refine x_val (r_assign (en rfl (en rfl es))) (nd_of rfl) rfl ?_
    refine xw_nil ?_
    refine hK11 _ _ ?_
    refine xc_gen (fun g hg => ?_)
    have s0 := (hg 0).trans (en rfl (en rfl (en rfl (en rfl (en rfl (en rfl (en rfl (en rfl (en rfl (en rfl (en rfl s0)))))))))))
    have s1 := (hg 1).trans (en rfl (en rfl (en rfl (en rfl (en rfl (en rfl (en rfl (en rfl (en rfl (en rfl (en rfl s1)))))))))))
    have s2 := (hg 2).trans (en rfl (en rfl (en rfl (en rfl (en rfl (en rfl (en rfl (en rfl (en rfl (en rfl (en rfl s2)))))))))))
    have s6 := (hg 6).trans (en rfl (en rfl (en rfl (en rfl (en rfl (en rfl (en rfl (en rfl (en rfl (en rfl (en rfl s6)))))))))))
    have s7 := (hg 7).trans (en rfl (en rfl (en rfl (en rfl (en rfl (en rfl (en rfl (en rfl (en rfl (en rfl (en rfl s7)))))))))))
    have s8 := (hg 8).trans (en rfl (en rfl (en rfl (en rfl (en rfl (en rfl (en rfl (en rfl (en rfl (en rfl (en rfl s8)))))))))))
    have s10 := (hg 10).trans (en rfl es)
    have s11 := (hg 11).trans es
    have s19 := (hg 19).trans (en rfl (en rfl (en rfl (en rfl (en rfl (en rfl (en rfl (en rfl (en rfl (en rfl (en rfl s19)))))))))))
    clear hg
    refine xc_seq (fun K hK12 => ?_)
    refine xc_plan 13 [(0, 2), (1, 2), (2, 2), (3, 2), (4, 1), (5, 2), (6, 1), (7, 0), (8, 2), (9, 2), (10, 2), (11, 2), (12, 2)] (by kernel_rfl) rfl (by kernel_rfl) h ?_
    have h := h.drew
    refine xp_read (i := 0) rfl (fun W => r_move s0) rfl (fun _ _ _ hh => by first | exact bodyR_np hh | exact bodyY_np hh | exact hh) ?_
    refine xp_read (i := 1) rfl (fun W => r_nilCheck es) rfl (fun _ _ _ hh => by first | exact bodyR_np hh | exact bodyY_np hh | exact hh) ?_
    refine xp_read (i := 2) rfl (fun W => r_fieldAddr (o' := 0) Try.underlying93 rfl Try.sizeOf88 rfl es rfl) rfl (fun _ _ _ hh => by first | exact bodyR_np hh | exact bodyY_np hh | exact hh) ?_
    refine xp_read (i := 3) rfl (fun W => r_fieldAddr (o' := 0) Try.underlying88 rfl Try.sizeOf81 rfl es rfl) rfl (fun _ _ _ hh => by first | exact bodyR_np hh | exact bodyY_np hh | exact hh) ?_
    refine xp_load (i := 4) rfl (fun W hW => r_load hW 0 rfl Try.isAgg81 es gc0) rfl (fun _ _ _ hh => by first | exact bodyR_np hh | exact bodyY_np hh | exact hh) ?_
    refine xp_read (i := 5) rfl (fun W => r_fieldAddr (o' := 0) Try.underlying103 rfl Try.sizeOf58 rfl (en rfl (en rfl (en rfl (en rfl (en rfl s8))))) rfl) rfl (fun _ _ _ hh => by first | exact bodyR_np hh | exact bodyY_np hh | exact hh) ?_
    refine xp_load (i := 6) rfl (fun W hW => r_loadAgg hW 2 rfl Try.isAgg58 Try.sizeOf58 es (ndle ‹_›) (ndx ‹_›)) rfl (fun _ _ _ hh => by first | exact bodyR_np hh | exact bodyY_np hh | exact hh) ?_
    refine xp_enter (i := 7) rfl (r_callv Try.call46 (en rfl (en rfl es)) (.cons es .nil)) rfl (measure_ok hs.2.1 h) ?_
    rintro _ w ⟨rfl, h⟩
    refine ⟨(fun _ => h), ?_⟩
    refine xp_read (i := 8) rfl (fun W => r_move es) rfl (fun _ _ _ hh => by first | exact bodyR_np hh | exact bodyY_np hh | exact hh) ?_
    refine xp_read (i := 9) rfl (fun W => r_extract es gc0) rfl (fun _ _ _ hh => by first | exact bodyR_np hh | exact bodyY_np hh | exact hh) ?_
    refine xp_read (i := 10) rfl (fun W => r_extract (en rfl es) gc1) rfl (fun _ _ _ hh => by first | exact bodyR_np hh | exact bodyY_np hh | exact hh) ?_
    refine xp_read (i := 11) rfl (fun W => r_assign (en rfl es)) rfl (fun _ _ _ hh => by first | exact bodyR_np hh | exact bodyY_np hh | exact hh) ?_
    refine xp_read (i := 12) rfl (fun W => r_assign (en rfl es)) rfl (fun _ _ _ hh => by first | exact bodyR_np hh | exact bodyY_np hh | exact hh) ?_
    refine xp_nil ?_
    refine hK12 _ _ ?_
    refine xc_gen (fun g hg => ?_)
    have s0 := (hg 0).trans (en rfl (en rfl (en rfl (en rfl (en rfl (en rfl (en rfl (en rfl (en rfl (en rfl (en rfl (en rfl (en rfl s0)))))))))))))
    have s1 := (hg 1).trans (en rfl (en rfl (en rfl (en rfl (en rfl (en rfl (en rfl (en rfl (en rfl (en rfl (en rfl (en rfl (en rfl s1)))))))))))))
    have s2 := (hg 2).trans (en rfl (en rfl (en rfl (en rfl (en rfl (en rfl (en rfl (en rfl (en rfl (en rfl (en rfl (en rfl (en rfl s2)))))))))))))
    have s6 := (hg 6).trans (en rfl (en rfl (en rfl (en rfl (en rfl (en rfl (en rfl (en rfl (en rfl (en rfl (en rfl (en rfl (en rfl s6)))))))))))))
    have s7 := (hg 7).trans (en rfl (en rfl (en rfl (en rfl (en rfl (en rfl (en rfl (en rfl (en rfl (en rfl (en rfl (en rfl (en rfl s7)))))))))))))
    have s8 := (hg 8).trans (en rfl (en rfl (en rfl (en rfl (en rfl (en rfl (en rfl (en rfl (en rfl (en rfl (en rfl (en rfl (en rfl s8)))))))))))))
    have s10 := (hg 10).trans (en rfl (en rfl (en rfl (en rfl (en rfl (en rfl (en rfl (en rfl (en rfl (en rfl (en rfl (en rfl (en rfl s10)))))))))))))
    have s11 := (hg 11).trans (en rfl (en rfl (en rfl (en rfl (en rfl (en rfl (en rfl (en rfl (en rfl (en rfl (en rfl (en rfl (en rfl s11)))))))))))))
    have s12 := (hg 12).trans (en rfl es)
    have s13 := (hg 13).trans es
    have s19 := (hg 19).trans (en rfl (en rfl (en rfl (en rfl (en rfl (en rfl (en rfl (en rfl (en rfl (en rfl (en rfl (en rfl (en rfl s19)))))))))))))
    clear hg
    refine xc_block ?_
    refine xc_seq (fun K hK13 => ?_)
    refine xc_region ?_
    refine x_val (r_move s1) (nd_of rfl) rfl ?_
    refine x_val (r_move (en rfl s10)) (nd_of rfl) rfl ?_
    refine x_val (r_leq (en rfl es) es rfl) (nd_of rfl) rfl ?_
    refine x_val (r_assign es) (nd_of rfl) rfl ?_
    refine xw_nil ?_
    refine hK13 _ _ ?_
    refine xc_gen (fun g hg => ?_)
    have s0 := (hg 0).trans (en rfl (en rfl (en rfl (en rfl s0))))
    have s1 := (hg 1).trans (en rfl (en rfl (en rfl (en rfl s1))))
    have s2 := (hg 2).trans (en rfl (en rfl (en rfl (en rfl s2))))
    have s6 := (hg 6).trans (en rfl (en rfl (en rfl (en rfl s6))))
    have s7 := (hg 7).trans (en rfl (en rfl (en rfl (en rfl s7))))
    have s8 := (hg 8).trans (en rfl (en rfl (en rfl (en rfl s8))))
    have s10 := (hg 10).trans (en rfl (en rfl (en rfl (en rfl s10))))
    have s11 := (hg 11).trans (en rfl (en rfl (en rfl (en rfl s11))))
    have s12 := (hg 12).trans (en rfl (en rfl (en rfl (en rfl s12))))
    have s13 := (hg 13).trans (en rfl (en rfl (en rfl (en rfl s13))))
    have s19 := (hg 19).trans (en rfl (en rfl (en rfl (en rfl s19))))
    have s54 := (hg 54).trans es
    clear hg
    refine xc_cond s54 (fun hc => ?_) (fun hc => ?_)
    ·
      have hd := of_decide_eq_true hc
      rw [cnt_mid1 (by omega)] at hfe
      refine xc_region ?_
      refine x_val (r_fieldAddr (o' := 33) Try.underlying103 rfl Try.sizeOf3 rfl s8 rfl) (nd_of rfl) rfl ?_
      refine x_val (r_load h 2 rfl Try.isAgg3 es (nd0 ‹_›)) (nd_of rfl) rfl ?_
      refine x_val (r_assign es) (nd_of rfl) rfl ?_
      refine xw_nil ?_
      have h := h.f1
      have h := h.f1
      have h := h.f2
      exact ⟨a.n, by omega, ⟨a, k, mv, rfl, hk, hs.2.2.1, hbs.left, hfe, (en rfl (en rfl (en rfl s1))), (en rfl (en rfl (en rfl s6))), es, h.drop⟩, ⟨((en rfl (en rfl (en rfl s0)))).trans zG4_0.symm, ((en rfl (en rfl (en rfl s2)))).trans zG4_2.symm⟩⟩
    ·
      refine xc_seq (fun K hK14 => ?_)
      have hd := of_decide_eq_false hc
      refine xc_region ?_
      refine x_val (r_move s1) (nd_of rfl) rfl ?_
      refine x_val (r_move (en rfl s10)) (nd_of rfl) rfl ?_
      refine x_val (r_move (en rfl (en rfl s12))) (nd_of rfl) rfl ?_
      refine x_val (r_add (en rfl es) es rfl (by unfold I64; omega)) (nd_of rfl) rfl ?_
      refine x_val (r_lss (en rfl (en rfl (en rfl es))) es rfl) (nd_of rfl) rfl ?_
      refine x_val (r_assign es) (nd_of rfl) rfl ?_
      refine xw_nil ?_
      refine hK14 _ _ ?_
      refine xc_gen (fun g hg => ?_)
      have s0 := (hg 0).trans (en rfl (en rfl (en rfl (en rfl (en rfl (en rfl s0))))))
      have s1 := (hg 1).trans (en rfl (en rfl (en rfl (en rfl (en rfl (en rfl s1))))))
      have s2 := (hg 2).trans (en rfl (en rfl (en rfl (en rfl (en rfl (en rfl s2))))))
      have s6 := (hg 6).trans (en rfl (en rfl (en rfl (en rfl (en rfl (en rfl s6))))))
      have s7 := (hg 7).trans (en rfl (en rfl (en rfl (en rfl (en rfl (en rfl s7))))))
      have s8 := (hg 8).trans (en rfl (en rfl (en rfl (en rfl (en rfl (en rfl s8))))))
      have s10 := (hg 10).trans (en rfl (en rfl (en rfl (en rfl (en rfl (en rfl s10))))))
      have s11 := (hg 11).trans (en rfl (en rfl (en rfl (en rfl (en rfl (en rfl s11))))))
      have s12 := (hg 12).trans (en rfl (en rfl (en rfl (en rfl (en rfl (en rfl s12))))))
      have s13 := (hg 13).trans (en rfl (en rfl (en rfl (en rfl (en rfl (en rfl s13))))))
      have s19 := (hg 19).trans (en rfl (en rfl (en rfl (en rfl (en rfl (en rfl s19))))))
      have s54 := (hg 54).trans (en rfl (en rfl (en rfl (en rfl (en rfl (en rfl s54))))))
      have s60 := (hg 60).trans es
      clear hg
      refine xc_cond s60 (fun hc => ?_) (fun hc => ?_)
      ·
        refine xc_seq (fun K hK15 => ?_)
        have hd2 := of_decide_eq_true hc
        rw [cnt_mid2 (by omega) (by omega), ← hma, ← ha] at hfe
        refine xc_region ?_
        refine x_val (r_move s6) (nd_of rfl) rfl ?_
        refine x_val (r_move (en rfl s11)) (nd_of rfl) rfl ?_
        refine x_val (r_add (en rfl es) es (show _ = ((mv : Int) + mks a.xs : Int) from by rfl) (by unfold I64; omega)) (nd_of rfl) rfl ?_
        refine x_val (r_move (en rfl (en rfl (en rfl s2)))) (nd_of rfl) rfl ?_
        refine x_val (r_fieldAddr (o' := 0) Try.underlying103 rfl Try.sizeOf58 rfl (en rfl (en rfl (en rfl (en rfl s8)))) rfl) (nd_of rfl) rfl ?_
        refine x_val (r_loadAgg h 2 rfl Try.isAgg58 Try.sizeOf58 es (ndle ‹_›) (ndx ‹_›)) (nd_of rfl) rfl ?_
        refine x_val (r_move (en rfl (en rfl (en rfl (en rfl (en rfl (en rfl s1))))))) (nd_of rfl) rfl ?_
        refine x_val (r_move (en rfl (en rfl (en rfl (en rfl (en rfl (en rfl (en rfl s10)))))))) (nd_of rfl) rfl ?_
        refine x_val (r_sub (en rfl es) es (show _ = (((k - sz a.xs : Nat) : Int) : Int) from by omega) (by unfold I64; omega)) (nd_of rfl) rfl ?_
        refine x_enter (r_callv Try.call36 (en rfl (en rfl (en rfl (en rfl (en rfl es))))) (.cons (en rfl (en rfl (en rfl es))) (.cons es .nil))) (nd_of rfl) rfl (ahead_ok hs.2.1 h) ?_
        rintro _ w ⟨rfl, h⟩
        rw [Int.toNat_natCast]
        refine x_val (r_add (en rfl (en rfl (en rfl (en rfl (en rfl (en rfl (en rfl es))))))) es (show _ = ((V : Int) : Int) from by omega) (by unfold I64; omega)) (nd_of rfl) rfl ?_
        refine x_val (r_assign es) (nd_of rfl) rfl ?_
        refine xw_nil ?_
        refine hK15 _ _ ?_
        refine xc_gen (fun g hg => ?_)
        have s0 := (hg 0).trans (en rfl (en rfl (en rfl (en rfl (en rfl (en rfl (en rfl (en rfl (en rfl (en rfl (en rfl (en rfl s0))))))))))))
        have s1 := (hg 1).trans (en rfl (en rfl (en rfl (en rfl (en rfl (en rfl (en rfl (en rfl (en rfl (en rfl (en rfl (en rfl s1))))))))))))
        have s2 := (hg 2).trans (en rfl (en rfl (en rfl (en rfl (en rfl (en rfl (en rfl (en rfl (en rfl (en rfl (en rfl (en rfl s2))))))))))))
        have s6 := (hg 6).trans es
        have s7 := (hg 7).trans (en rfl (en rfl (en rfl (en rfl (en rfl (en rfl (en rfl (en rfl (en rfl (en rfl (en rfl (en rfl s7))))))))))))
        have s8 := (hg 8).trans (en rfl (en rfl (en rfl (en rfl (en rfl (en rfl (en rfl (en rfl (en rfl (en rfl (en rfl (en rfl s8))))))))))))
        have s10 := (hg 10).trans (en rfl (en rfl (en rfl (en rfl (en rfl (en rfl (en rfl (en rfl (en rfl (en rfl (en rfl (en rfl s10))))))))))))
        have s11 := (hg 11).trans (en rfl (en rfl (en rfl (en rfl (en rfl (en rfl (en rfl (en rfl (en rfl (en rfl (en rfl (en rfl s11))))))))))))
        have s12 := (hg 12).trans (en rfl (en rfl (en rfl (en rfl (en rfl (en rfl (en rfl (en rfl (en rfl (en rfl (en rfl (en rfl s12))))))))))))
        have s13 := (hg 13).trans (en rfl (en rfl (en rfl (en rfl (en rfl (en rfl (en rfl (en rfl (en rfl (en rfl (en rfl (en rfl s13))))))))))))
        have s19 := (hg 19).trans (en rfl (en rfl (en rfl (en rfl (en rfl (en rfl (en rfl (en rfl (en rfl (en rfl (en rfl (en rfl s19))))))))))))
        have s54 := (hg 54).trans (en rfl (en rfl (en rfl (en rfl (en rfl (en rfl (en rfl (en rfl (en rfl (en rfl (en rfl (en rfl s54))))))))))))
        have s60 := (hg 60).trans (en rfl (en rfl (en rfl (en rfl (en rfl (en rfl (en rfl (en rfl (en rfl (en rfl (en rfl (en rfl s60))))))))))))
        clear hg
        refine xc_ret ?_
        refine bodyR_1 rfl s6 ?_
        have h := h.f1
        have h := h.f1
        have h := h.f2
        exact ⟨rfl, SatL.closeTree ht h.drop⟩
      ·
        refine xc_seq (fun K hK16 => ?_)
        have hd2 := of_decide_eq_false hc
        rw [cnt_mid3 (by omega), ← hma, ← ha] at hfe
        refine xc_region ?_
        refine x_val (r_move s6) (nd_of rfl) rfl ?_
        refine x_val (r_move (en rfl s11)) (nd_of rfl) rfl ?_
        refine x_val (r_move (en rfl (en rfl s13))) (nd_of rfl) rfl ?_
        refine x_val (r_add (en rfl es) es (show _ = ((mks a.xs : Int) + xM x : Int) from by rfl) (by unfold I64; omega)) (nd_of rfl) rfl ?_
        refine x_val (r_add (en rfl (en rfl (en rfl es))) es (show _ = (((mv + (mks a.xs + xM x) : Nat) : Int) : Int) from by omega) (by unfold I64; omega)) (nd_of rfl) rfl ?_
        refine x_val (r_assign es) (nd_of rfl) rfl ?_
        refine xw_nil ?_
        refine hK16 _ _ ?_
        refine xc_gen (fun g hg => ?_)
        have s0 := (hg 0).trans (en rfl (en rfl (en rfl (en rfl (en rfl (en rfl s0))))))
        have s1 := (hg 1).trans (en rfl (en rfl (en rfl (en rfl (en rfl (en rfl s1))))))
        have s2 := (hg 2).trans (en rfl (en rfl (en rfl (en rfl (en rfl (en rfl s2))))))
        have s6 := (hg 6).trans es
        have s7 := (hg 7).trans (en rfl (en rfl (en rfl (en rfl (en rfl (en rfl s7))))))
        have s8 := (hg 8).trans (en rfl (en rfl (en rfl (en rfl (en rfl (en rfl s8))))))
        have s10 := (hg 10).trans (en rfl (en rfl (en rfl (en rfl (en rfl (en rfl s10))))))
        have s11 := (hg 11).trans (en rfl (en rfl (en rfl (en rfl (en rfl (en rfl s11))))))
        have s12 := (hg 12).trans (en rfl (en rfl (en rfl (en rfl (en rfl (en rfl s12))))))
        have s13 := (hg 13).trans (en rfl (en rfl (en rfl (en rfl (en rfl (en rfl s13))))))
        have s19 := (hg 19).trans (en rfl (en rfl (en rfl (en rfl (en rfl (en rfl s19))))))
        have s54 := (hg 54).trans (en rfl (en rfl (en rfl (en rfl (en rfl (en rfl s54))))))
        have s60 := (hg 60).trans (en rfl (en rfl (en rfl (en rfl (en rfl (en rfl s60))))))
        clear hg
        refine xc_seq (fun K hK17 => ?_)
        refine xc_region ?_
        refine x_val (r_move s1) (nd_of rfl) rfl ?_
        refine x_val (r_move (en rfl s10)) (nd_of rfl) rfl ?_
        refine x_val (r_move (en rfl (en rfl s12))) (nd_of rfl) rfl ?_
        refine x_val (r_add (en rfl es) es (show _ = ((sz a.xs : Int) + xS x : Int) from by rfl) (by unfold I64; omega)) (nd_of rfl) rfl ?_
        refine x_val (r_sub (en rfl (en rfl (en rfl es))) es (show _ = (((k - sz a.xs - xS x : Nat) : Int) : Int) from by omega) (by unfold I64; omega)) (nd_of rfl) rfl ?_
        refine x_val (r_assign es) (nd_of rfl) rfl ?_
        refine xw_nil ?_
        refine hK17 _ _ ?_
        refine xc_gen (fun g hg => ?_)
        have s0 := (hg 0).trans (en rfl (en rfl (en rfl (en rfl (en rfl (en rfl s0))))))
        have s1 := (hg 1).trans es
        have s2 := (hg 2).trans (en rfl (en rfl (en rfl (en rfl (en rfl (en rfl s2))))))
        have s6 := (hg 6).trans (en rfl (en rfl (en rfl (en rfl (en rfl (en rfl s6))))))
        have s7 := (hg 7).trans (en rfl (en rfl (en rfl (en rfl (en rfl (en rfl s7))))))
        have s8 := (hg 8).trans (en rfl (en rfl (en rfl (en rfl (en rfl (en rfl s8))))))
        have s10 := (hg 10).trans (en rfl (en rfl (en rfl (en rfl (en rfl (en rfl s10))))))
        have s11 := (hg 11).trans (en rfl (en rfl (en rfl (en rfl (en rfl (en rfl s11))))))
        have s12 := (hg 12).trans (en rfl (en rfl (en rfl (en rfl (en rfl (en rfl s12))))))
        have s13 := (hg 13).trans (en rfl (en rfl (en rfl (en rfl (en rfl (en rfl s13))))))
        have s19 := (hg 19).trans (en rfl (en rfl (en rfl (en rfl (en rfl (en rfl s19))))))
        have s54 := (hg 54).trans (en rfl (en rfl (en rfl (en rfl (en rfl (en rfl s54))))))
        have s60 := (hg 60).trans (en rfl (en rfl (en rfl (en rfl (en rfl (en rfl s60))))))
        clear hg
        refine xc_region ?_
        refine x_val (r_fieldAddr (o' := 34) Try.underlying103 rfl Try.sizeOf3 rfl s8 rfl) (nd_of rfl) rfl ?_
        refine x_val (r_load h 2 rfl Try.isAgg3 es (nd1 ‹_›)) (nd_of rfl) rfl ?_
        refine x_val (r_assign es) (nd_of rfl) rfl ?_
        refine xw_nil ?_
        have h := h.f1
        have h := h.f1
        have h := h.f2
        exact ⟨c.n, by omega, ⟨c, k - sz a.xs - xS x, mv + (mks a.xs + xM x), rfl, by omega, hs.2.2.2, hbs.right.tail, by rw [hxl, hxm]; omega, (en rfl (en rfl (en rfl s1))), (en rfl (en rfl (en rfl s6))), es, h.drop⟩, ⟨((en rfl (en rfl (en rfl s0)))).trans zG4_0.symm, ((en rfl (en rfl (en rfl s2)))).trans zG4_2.symm⟩⟩
theorem nlAt_one {x : X} {k : Int} {p : Nat} (hx : ChOk x) (hk0 : 0 ≤ k) (hk1 : k ≤ 1000000000000) (hp : nlAt x k = some p) (h : SatL E w R) : Calls Try.prog 39 #[.agg (chC x), .int .i64 k] w (Ret fun v w' => v = .tuple #[.int .i64 (p : Int), .bool true] ∧ SatL E w' R) := by
  have hn := newlineAt_ok hx (show -1000000 ≤ k by omega) hk1 h
  rw [hp] at hn
  exact hn
theorem offn_ok {x : X} {k : Int} {p : Nat} (hx : ChOk x) (hk0 : 0 ≤ k) (hk1 : k ≤ 1000000000000) (hp : nlAt x k = some p) (h : SatL E w R) : Calls Try.prog 38 #[.agg (chC x), .int .i64 k] w (Ret fun v w' => v = .int .i64 (p : Int) ∧ SatL E w' R) := by
  refine calls_x Try.func38 rfl Try.ntmps38 rfl ?_
  refine xc_gen (fun g hg => ?_)
  have s0 := (hg 0).trans arg0
  have s1 := (hg 1).trans arg1
  clear hg
  refine xc_seq (fun K hK1 => ?_)
  refine xc_region ?_
  refine x_boxA h s0 rfl ?_
  intro b2 w h
  refine x_val (r_assign ec) (nd_of rfl) rfl ?_
  refine xw_nil ?_
  refine hK1 _ _ ?_
  refine xc_gen (fun g hg => ?_)
  have s0 := (hg 0).trans (en rfl (en rfl s0))
  have s1 := (hg 1).trans (en rfl (en rfl s1))
  have s2 := (hg 2).trans (en rfl es)
  have s4 := (hg 4).trans es
  clear hg
  refine xc_seq (fun K hK2 => ?_)
  refine xc_region ?_
  refine x_val (r_loadAgg h 0 rfl Try.isAgg58 Try.sizeOf58 s2 (Ok.le (by first | assumption | exact Ok.node (by assumption) | exact xOk.cells (by assumption) | exact ChOk.ok (by assumption))) (ext_full (Ok.size (by first | assumption | exact Ok.node (by assumption) | exact xOk.cells (by assumption) | exact ChOk.ok (by assumption))))) (nd_of rfl) rfl ?_
  refine x_val (r_move (en rfl s1)) (nd_of rfl) rfl ?_
  refine x_enter (r_call Try.call39 (.cons (en rfl es) (.cons es .nil))) (nd_of rfl) rfl (nlAt_one hx hk0 hk1 hp h) ?_
  rintro _ w ⟨rfl, h⟩
  refine x_val (r_move es) (nd_of rfl) rfl ?_
  refine x_val (r_extract es gc0) (nd_of rfl) rfl ?_
  refine x_val (r_extract (en rfl es) gc1) (nd_of rfl) rfl ?_
  refine x_val (r_assign (en rfl es)) (nd_of rfl) rfl ?_
  refine x_val (r_assign (en rfl es)) (nd_of rfl) rfl ?_
  refine xw_nil ?_
  refine hK2 _ _ ?_
  refine xc_gen (fun g hg => ?_)
  have s0 := (hg 0).trans (en rfl (en rfl (en rfl (en rfl (en rfl (en rfl (en rfl (en rfl s0))))))))
  have s1 := (hg 1).trans (en rfl (en rfl (en rfl (en rfl (en rfl (en rfl (en rfl (en rfl s1))))))))
  have s2 := (hg 2).trans (en rfl (en rfl (en rfl (en rfl (en rfl (en rfl (en rfl (en rfl s2))))))))
  have s4 := (hg 4).trans (en rfl (en rfl (en rfl (en rfl (en rfl (en rfl (en rfl (en rfl s4))))))))
  have s5 := (hg 5).trans (en rfl es)
  clear hg
  refine xc_seq (fun K hK3 => ?_)
  refine xc_region ?_
  refine x_val (r_move s5) (nd_of rfl) rfl ?_
  refine x_val (r_assign es) (nd_of rfl) rfl ?_
  refine xw_nil ?_
  refine hK3 _ _ ?_
  refine xc_gen (fun g hg => ?_)
  have s0 := (hg 0).trans (en rfl (en rfl s0))
  have s1 := (hg 1).trans (en rfl (en rfl s1))
  have s2 := (hg 2).trans (en rfl (en rfl s2))
  have s4 := (hg 4).trans es
  have s5 := (hg 5).trans (en rfl (en rfl s5))
  clear hg
  refine xc_ret ?_
  refine bodyR_1 rfl s4 ?_
  exact ⟨rfl, h.drop⟩
theorem mark_t {k0 : Int} {P : Nat} (h0 : 0 ≤ k0) (hk1 : k0 ≤ 1000000000000) (hP : nlAt xs.flatten k0 = some P) (h : SatL E w (TreeB bt ba xs B :: R)) : Calls Try.prog 37 #[pT bt, .int .i64 k0, .func (.func 38) #[] #[]] w (Ret fun v w' => v = .tuple #[.int .i64 (P : Int), .bool true] ∧ SatL E w' (TreeB bt ba xs B :: R)) := by
  obtain ⟨pl, fr, t, ht, h⟩ := h.openTree
  have hxs := ht.xsE
  have hbt : Bd t.xs := hxs ▸ ht.bd
  have hPB : P ≤ 1000000000000 := by
    have h1 := nlAt_lt hP
    have h2 := ht.bd.2.1
    rw [sz_txt] at h2
    omega
  refine calls_x Try.func37 rfl Try.ntmps37 rfl ?_
  refine xc_gen (fun g hg => ?_)
  have s0 := (hg 0).trans arg0
  have s1 := (hg 1).trans arg1
  have s2 := (hg 2).trans arg2
  clear hg
  refine xc_seq (fun K hK1 => ?_)
  refine xc_region ?_
  refine x_val (r_assign ec) (nd_of rfl) rfl ?_
  refine x_val (r_assign ec) (nd_of rfl) rfl ?_
  refine xw_nil ?_
  refine hK1 _ _ ?_
  refine xc_gen (fun g hg => ?_)
  have s0 := (hg 0).trans (en rfl (en rfl s0))
  have s1 := (hg 1).trans (en rfl (en rfl s1))
  have s2 := (hg 2).trans (en rfl (en rfl s2))
  have s6 := (hg 6).trans (en rfl es)
  have s7 := (hg 7).trans es
  clear hg
  refine xc_seq (fun K hK2 => ?_)
  refine xc_seq (fun K hK3 => ?_)
  refine xc_region ?_
  refine x_val (r_move s0) (nd_of rfl) rfl ?_
  refine x_val (r_nilCheck es) (nd_of rfl) rfl ?_
  refine x_val (r_fieldAddr (o' := 4) Try.underlying93 rfl Try.sizeOf3 rfl es rfl) (nd_of rfl) rfl ?_
  refine x_val (r_load h 0 rfl Try.isAgg3 es gc4) (nd_of rfl) rfl ?_
  refine x_val (r_assign es) (nd_of rfl) rfl ?_
  refine xw_nil ?_
  refine hK3 _ _ ?_
  refine xc_gen (fun g hg => ?_)
  have s0 := (hg 0).trans (en rfl (en rfl (en rfl (en rfl (en rfl s0)))))
  have s1 := (hg 1).trans (en rfl (en rfl (en rfl (en rfl (en rfl s1)))))
  have s2 := (hg 2).trans (en rfl (en rfl (en rfl (en rfl (en rfl s2)))))
  have s6 := (hg 6).trans (en rfl (en rfl (en rfl (en rfl (en rfl s6)))))
  have s7 := (hg 7).trans (en rfl (en rfl (en rfl (en rfl (en rfl s7)))))
  have s8 := (hg 8).trans es
  clear hg
  refine xc_block ?_
  obtain ⟨G4, hG4⟩ : ∃ g0 : Nat → Value, g0 = g := ⟨_, rfl⟩
  have zG4_0 : G4 0 = _ := (congrFun hG4 0).trans s0
  have zG4_2 : G4 2 = _ := (congrFun hG4 2).trans s2
  refine xc_loop (fun m f w => (∃ (s : Tr) (k : Int) (av : Nat), m = s.n ∧ 0 ≤ k ∧ k ≤ 1000000000000 ∧ Has pl s ∧ Bd s.xs ∧ (nlAt s.xs.flatten k).map (· + av) = some P ∧ f 1 = .int .i64 k ∧ f 6 = .int .i64 (av : Int) ∧ f 8 = .int .i64 s.root ∧ SatL E w (TC bt ba t.root :: Ar ba pl fr :: R)) ∧ (f 0 = G4 0 ∧ f 2 = G4 2)) (t.n) ⟨⟨t, k0, 0, rfl, h0, hk1, ht.has, hbt, by rw [hxs, hP]; rfl, s1, s6, s8, h⟩, ⟨congrFun hG4.symm 0, congrFun hG4.symm 2⟩⟩ ?_
  rintro m g w ⟨⟨s, k, av, hm, hk0, hk, hs, hbs, hfe, s1, s6, s8, h⟩, ⟨y0, y2⟩⟩
  have s0 := y0.trans zG4_0
  have s2 := y2.trans zG4_2
  refine xc_seq (fun K hK5 => ?_)
  refine xc_seq (fun K hK6 => ?_)
  obtain ⟨n0, a, x, c, rfl⟩ : ∃ k l x r, s = .node k l x r := by cases s with | nil => simp [Tr.xs, nlAt] at hfe | node k l x r => exact ⟨_, _, _, _, rfl⟩
  have hox := hs.2.1.cells
  have hb0 := hbs
  simp only [Tr.xs, Bd, List.length_append, List.length_cons, sz_app, mks_app, sz, mks] at hb0
  simp only [Tr.xs, List.flatten_append, List.flatten_cons] at hfe hbs
  simp only [Tr.n] at hm
  have ha := sz_txt a.xs
  have hma := mks_txt a.xs
  have hxl : xS x = x.length := rfl
  have hxm : xM x = x.count 10 := rfl
  rw [nlAt_app _ _ _ hk0, ← hma, ← ha] at hfe
  refine xc_region ?_
  refine x_val (r_move s1) (nd_of rfl) rfl ?_
  refine x_val (r_geq es ec (decide_eq_true (by omega))) (nd_of rfl) rfl ?_
  refine x_val (r_move es) (nd_of rfl) rfl ?_
  refine x_take (d := 21) rfl rfl es ?_
  refine x_val (r_move (en rfl (en rfl (en rfl s8)))) (nd_of rfl) rfl ?_
  refine x_take (d := 21) rfl rfl (en rfl es) ?_
  refine x_val (r_neq es ec (decide_eq_true (by (simp only [Tr.root]; omega)))) (nd_of rfl) rfl ?_
  refine x_val (r_pick_t (en rfl (en rfl es)) es) (nd_of rfl) rfl ?_
  refine xw_nil ?_
  refine hK6 _ _ ?_
  refine xc_gen (fun g hg => ?_)
  have s0 := (hg 0).trans (en rfl (en rfl (en rfl (en rfl (en rfl (en rfl s0))))))
  have s1 := (hg 1).trans (en rfl (en rfl (en rfl (en rfl (en rfl (en rfl s1))))))
  have s2 := (hg 2).trans (en rfl (en rfl (en rfl (en rfl (en rfl (en rfl s2))))))
  have s6 := (hg 6).trans (en rfl (en rfl (en rfl (en rfl (en rfl (en rfl s6))))))
  have s8 := (hg 8).trans (en rfl (en rfl (en rfl (en rfl (en rfl (en rfl s8))))))
  have s24 := (hg 24).trans es
  clear hg
  refine xc_cond s24 (fun _ => ?_) (fun hc => by cases hc)
  refine xc_skip ?_
  refine hK5 _ _ ?_
  refine xc_block ?_
  refine xc_seq (fun K hK7 => ?_)
  refine xc_region ?_
  refine x_val (r_move s0) (nd_of rfl) rfl ?_
  refine x_val (r_move (en rfl s8)) (nd_of rfl) rfl ?_
  have h := h.f1
  have h := h.f1
  refine x_enter (r_call Try.call71 (.cons (en rfl es) (.cons es .nil))) (nd_of rfl) rfl (at_t hs.1 h) ?_
  rintro _ w ⟨rfl, h⟩
  refine x_declA h Try.zeroValue103 Try.sizeOf103 rfl (en rfl es) (by first | assumption | exact Ok.node (by assumption) | exact xOk.cells (by assumption) | exact ChOk.ok (by assumption)) rfl ?_
  intro b9 w h
  refine xw_nil ?_
  refine hK7 _ _ ?_
  refine xc_gen (fun g hg => ?_)
  have s0 := (hg 0).trans (en rfl (en rfl (en rfl (en rfl s0))))
  have s1 := (hg 1).trans (en rfl (en rfl (en rfl (en rfl s1))))
  have s2 := (hg 2).trans (en rfl (en rfl (en rfl (en rfl s2))))
  have s6 := (hg 6).trans (en rfl (en rfl (en rfl (en rfl s6))))
  have s8 := (hg 8).trans (en rfl (en rfl (en rfl (en rfl s8))))
  have s9 := (hg 9).trans es
  have s24 := (hg 24).trans (en rfl (en rfl (en rfl (en rfl s24))))
  clear hg
  refine xc_seq (fun K hK8 => ?_)
  refine xc_region ?_
  refine x_val (r_move s0) (nd_of rfl) rfl ?_
  refine x_val (r_fieldAddr (o' := 33) Try.underlying103 rfl Try.sizeOf3 rfl (en rfl s9) rfl) (nd_of rfl) rfl ?_
  refine x_val (r_load h 0 rfl Try.isAgg3 es (nd0 ‹_›)) (nd_of rfl) rfl ?_
  have h := h.f2
  have h := h.f2
  refine x_enter (r_call Try.call53 (.cons (en rfl (en rfl es)) (.cons es .nil))) (nd_of rfl) rfl (totals_t hs.2.2.1 h) ?_
  rintro _ w ⟨rfl, h⟩
  refine x_val (r_move es) (nd_of rfl) rfl ?_
  refine x_val (r_extract es gc0) (nd_of rfl) rfl ?_
  refine x_val (r_extract (en rfl es) gc1) (nd_of rfl) rfl ?_
  refine x_val (r_extract (en rfl (en rfl es)) gc2) (nd_of rfl) rfl ?_
  refine x_val (r_assign (en rfl (en rfl es))) (nd_of rfl) rfl ?_
  refine x_val (r_assign (en rfl (en rfl es))) (nd_of rfl) rfl ?_
  refine x_val (r_assign (en rfl (en rfl es))) (nd_of rfl) rfl ?_
  refine xw_nil ?_
  refine hK8 _ _ ?_
  refine xc_gen (fun g hg => ?_)
  have s0 := (hg 0).trans (en rfl (en rfl (en rfl (en rfl (en rfl (en rfl (en rfl (en rfl (en rfl (en rfl (en rfl s0)))))))))))
  have s1 := (hg 1).trans (en rfl (en rfl (en rfl (en rfl (en rfl (en rfl (en rfl (en rfl (en rfl (en rfl (en rfl s1)))))))))))
  have s2 := (hg 2).trans (en rfl (en rfl (en rfl (en rfl (en rfl (en rfl (en rfl (en rfl (en rfl (en rfl (en rfl s2)))))))))))
  have s6 := (hg 6).trans (en rfl (en rfl (en rfl (en rfl (en rfl (en rfl (en rfl (en rfl (en rfl (en rfl (en rfl s6)))))))))))
  have s8 := (hg 8).trans (en rfl (en rfl (en rfl (en rfl (en rfl (en rfl (en rfl (en rfl (en rfl (en rfl (en rfl s8)))))))))))
  have s9 := (hg 9).trans (en rfl (en rfl (en rfl (en rfl (en rfl (en rfl (en rfl (en rfl (en rfl (en rfl (en rfl s9)))))))))))
  have s11 := (hg 11).trans (en rfl es)
  have s12 := (hg 12).trans es
  have s24 := (hg 24).trans (en rfl (en rfl (en rfl (en rfl (en rfl (en rfl (en rfl (en rfl (en rfl (en rfl (en rfl s24)))))))))))
  clear hg
  refine xc_seq (fun K hK9 => ?_)
  refine xc_plan 13 [(0, 2), (1, 2), (2, 2), (3, 2), (4, 1), (5, 2), (6, 1), (7, 0), (8, 2), (9, 2), (10, 2), (11, 2), (12, 2)] (by kernel_rfl) rfl (by kernel_rfl) h ?_
  have h := h.drew
  refine xp_read (i := 0) rfl (fun W => r_move s0) rfl (fun _ _ _ hh => by first | exact bodyR_np hh | exact bodyY_np hh | exact hh) ?_
  refine xp_read (i := 1) rfl (fun W => r_nilCheck es) rfl (fun _ _ _ hh => by first | exact bodyR_np hh | exact bodyY_np hh | exact hh) ?_
  refine xp_read (i := 2) rfl (fun W => r_fieldAddr (o' := 0) Try.underlying93 rfl Try.sizeOf88 rfl es rfl) rfl (fun _ _ _ hh => by first | exact bodyR_np hh | exact bodyY_np hh | exact hh) ?_
  refine xp_read (i := 3) rfl (fun W => r_fieldAddr (o' := 0) Try.underlying88 rfl Try.sizeOf81 rfl es rfl) rfl (fun _ _ _ hh => by first | exact bodyR_np hh | exact bodyY_np hh | exact hh) ?_
  refine xp_load (i := 4) rfl (fun W hW => r_load hW 0 rfl Try.isAgg81 es gc0) rfl (fun _ _ _ hh => by first | exact bodyR_np hh | exact bodyY_np hh | exact hh) ?_
  refine xp_read (i := 5) rfl (fun W => r_fieldAddr (o' := 0) Try.underlying103 rfl Try.sizeOf58 rfl (en rfl (en rfl (en rfl (en rfl (en rfl s9))))) rfl) rfl (fun _ _ _ hh => by first | exact bodyR_np hh | exact bodyY_np hh | exact hh) ?_
  refine xp_load (i := 6) rfl (fun W hW => r_loadAgg hW 2 rfl Try.isAgg58 Try.sizeOf58 es (ndle ‹_›) (ndx ‹_›)) rfl (fun _ _ _ hh => by first | exact bodyR_np hh | exact bodyY_np hh | exact hh) ?_
  refine xp_enter (i := 7) rfl (r_callv Try.call46 (en rfl (en rfl es)) (.cons es .nil)) rfl (measure_ok hs.2.1 h) ?_
  rintro _ w ⟨rfl, h⟩
  refine ⟨(fun _ => h), ?_⟩
  refine xp_read (i := 8) rfl (fun W => r_move es) rfl (fun _ _ _ hh => by first | exact bodyR_np hh | exact bodyY_np hh | exact hh) ?_
  refine xp_read (i := 9) rfl (fun W => r_extract es gc0) rfl (fun _ _ _ hh => by first | exact bodyR_np hh | exact bodyY_np hh | exact hh) ?_
  refine xp_read (i := 10) rfl (fun W => r_extract (en rfl es) gc1) rfl (fun _ _ _ hh => by first | exact bodyR_np hh | exact bodyY_np hh | exact hh) ?_
  refine xp_read (i := 11) rfl (fun W => r_assign (en rfl es)) rfl (fun _ _ _ hh => by first | exact bodyR_np hh | exact bodyY_np hh | exact hh) ?_
  refine xp_read (i := 12) rfl (fun W => r_assign (en rfl es)) rfl (fun _ _ _ hh => by first | exact bodyR_np hh | exact bodyY_np hh | exact hh) ?_
  refine xp_nil ?_
  refine hK9 _ _ ?_
  refine xc_gen (fun g hg => ?_)
  have s0 := (hg 0).trans (en rfl (en rfl (en rfl (en rfl (en rfl (en rfl (en rfl (en rfl (en rfl (en rfl (en rfl (en rfl (en rfl s0)))))))))))))
  have s1 := (hg 1).trans (en rfl (en rfl (en rfl (en rfl (en rfl (en rfl (en rfl (en rfl (en rfl (en rfl (en rfl (en rfl (en rfl s1)))))))))))))
  have s2 := (hg 2).trans (en rfl (en rfl (en rfl (en rfl (en rfl (en rfl (en rfl (en rfl (en rfl (en rfl (en rfl (en rfl (en rfl s2)))))))))))))
  have s6 := (hg 6).trans (en rfl (en rfl (en rfl (en rfl (en rfl (en rfl (en rfl (en rfl (en rfl (en rfl (en rfl (en rfl (en rfl s6)))))))))))))
  have s8 := (hg 8).trans (en rfl (en rfl (en rfl (en rfl (en rfl (en rfl (en rfl (en rfl (en rfl (en rfl (en rfl (en rfl (en rfl s8)))))))))))))
  have s9 := (hg 9).trans (en rfl (en rfl (en rfl (en rfl (en rfl (en rfl (en rfl (en rfl (en rfl (en rfl (en rfl (en rfl (en rfl s9)))))))))))))
  have s11 := (hg 11).trans (en rfl (en rfl (en rfl (en rfl (en rfl (en rfl (en rfl (en rfl (en rfl (en rfl (en rfl (en rfl (en rfl s11)))))))))))))
  have s12 := (hg 12).trans (en rfl (en rfl (en rfl (en rfl (en rfl (en rfl (en rfl (en rfl (en rfl (en rfl (en rfl (en rfl (en rfl s12)))))))))))))
  have s13 := (hg 13).trans (en rfl es)
  have s14 := (hg 14).trans es
  have s24 := (hg 24).trans (en rfl (en rfl (en rfl (en rfl (en rfl (en rfl (en rfl (en rfl (en rfl (en rfl (en rfl (en rfl (en rfl s24)))))))))))))
  clear hg
  refine xc_block ?_
  refine xc_seq (fun K hK10 => ?_)
  refine xc_region ?_
  refine x_val (r_move s1) (nd_of rfl) rfl ?_
  refine x_val (r_move (en rfl s12)) (nd_of rfl) rfl ?_
  refine x_val (r_lss (en rfl es) es rfl) (nd_of rfl) rfl ?_
  refine x_val (r_assign es) (nd_of rfl) rfl ?_
  refine xw_nil ?_
  refine hK10 _ _ ?_
  refine xc_gen (fun g hg => ?_)
  have s0 := (hg 0).trans (en rfl (en rfl (en rfl (en rfl s0))))
  have s1 := (hg 1).trans (en rfl (en rfl (en rfl (en rfl s1))))
  have s2 := (hg 2).trans (en rfl (en rfl (en rfl (en rfl s2))))
  have s6 := (hg 6).trans (en rfl (en rfl (en rfl (en rfl s6))))
  have s8 := (hg 8).trans (en rfl (en rfl (en rfl (en rfl s8))))
  have s9 := (hg 9).trans (en rfl (en rfl (en rfl (en rfl s9))))
  have s11 := (hg 11).trans (en rfl (en rfl (en rfl (en rfl s11))))
  have s12 := (hg 12).trans (en rfl (en rfl (en rfl (en rfl s12))))
  have s13 := (hg 13).trans (en rfl (en rfl (en rfl (en rfl s13))))
  have s14 := (hg 14).trans (en rfl (en rfl (en rfl (en rfl s14))))
  have s24 := (hg 24).trans (en rfl (en rfl (en rfl (en rfl s24))))
  have s59 := (hg 59).trans es
  clear hg
  refine xc_cond s59 (fun hc => ?_) (fun hc => ?_)
  ·
    have hd := of_decide_eq_true hc
    rw [if_pos hd] at hfe
    refine xc_region ?_
    refine x_val (r_fieldAddr (o' := 33) Try.underlying103 rfl Try.sizeOf3 rfl s9 rfl) (nd_of rfl) rfl ?_
    refine x_val (r_load h 2 rfl Try.isAgg3 es (nd0 ‹_›)) (nd_of rfl) rfl ?_
    refine x_val (r_assign es) (nd_of rfl) rfl ?_
    refine xw_nil ?_
    have h := h.f1
    have h := h.f1
    have h := h.f2
    exact ⟨a.n, by omega, ⟨a, k, av, rfl, hk0, hk, hs.2.2.1, hbs.left, hfe, (en rfl (en rfl (en rfl s1))), (en rfl (en rfl (en rfl s6))), es, h.drop⟩, ⟨((en rfl (en rfl (en rfl s0)))).trans zG4_0.symm, ((en rfl (en rfl (en rfl s2)))).trans zG4_2.symm⟩⟩
  ·
    refine xc_seq (fun K hK11 => ?_)
    have hd := of_decide_eq_false hc
    rw [if_neg hd, nlAt_app _ _ _ (by omega), ← hxm, ← hxl] at hfe
    refine xc_region ?_
    refine x_val (r_move s1) (nd_of rfl) rfl ?_
    refine x_val (r_move (en rfl s12)) (nd_of rfl) rfl ?_
    refine x_val (r_move (en rfl (en rfl s14))) (nd_of rfl) rfl ?_
    refine x_val (r_add (en rfl es) es rfl (by unfold I64; omega)) (nd_of rfl) rfl ?_
    refine x_val (r_lss (en rfl (en rfl (en rfl es))) es rfl) (nd_of rfl) rfl ?_
    refine x_val (r_assign es) (nd_of rfl) rfl ?_
    refine xw_nil ?_
    refine hK11 _ _ ?_
    refine xc_gen (fun g hg => ?_)
    have s0 := (hg 0).trans (en rfl (en rfl (en rfl (en rfl (en rfl (en rfl s0))))))
    have s1 := (hg 1).trans (en rfl (en rfl (en rfl (en rfl (en rfl (en rfl s1))))))
    have s2 := (hg 2).trans (en rfl (en rfl (en rfl (en rfl (en rfl (en rfl s2))))))
    have s6 := (hg 6).trans (en rfl (en rfl (en rfl (en rfl (en rfl (en rfl s6))))))
    have s8 := (hg 8).trans (en rfl (en rfl (en rfl (en rfl (en rfl (en rfl s8))))))
    have s9 := (hg 9).trans (en rfl (en rfl (en rfl (en rfl (en rfl (en rfl s9))))))
    have s11 := (hg 11).trans (en rfl (en rfl (en rfl (en rfl (en rfl (en rfl s11))))))
    have s12 := (hg 12).trans (en rfl (en rfl (en rfl (en rfl (en rfl (en rfl s12))))))
    have s13 := (hg 13).trans (en rfl (en rfl (en rfl (en rfl (en rfl (en rfl s13))))))
    have s14 := (hg 14).trans (en rfl (en rfl (en rfl (en rfl (en rfl (en rfl s14))))))
    have s24 := (hg 24).trans (en rfl (en rfl (en rfl (en rfl (en rfl (en rfl s24))))))
    have s59 := (hg 59).trans (en rfl (en rfl (en rfl (en rfl (en rfl (en rfl s59))))))
    have s65 := (hg 65).trans es
    clear hg
    refine xc_cond s65 (fun hc => ?_) (fun hc => ?_)
    ·
      refine xc_seq (fun K hK12 => ?_)
      have hd2 := of_decide_eq_true hc
      rw [if_pos (by omega)] at hfe
      obtain ⟨p, hp⟩ := nlAt_some (l := x) (k := k - (mks a.xs : Int)) (by omega) (by omega)
      rw [hp] at hfe
      simp only [Option.map_some, Option.some.injEq] at hfe
      refine xc_region ?_
      refine x_val (r_move s6) (nd_of rfl) rfl ?_
      refine x_val (r_move (en rfl s11)) (nd_of rfl) rfl ?_
      refine x_val (r_add (en rfl es) es (show _ = ((av : Int) + sz a.xs : Int) from by rfl) (by unfold I64; omega)) (nd_of rfl) rfl ?_
      refine x_val (r_move (en rfl (en rfl (en rfl s2)))) (nd_of rfl) rfl ?_
      refine x_val (r_fieldAddr (o' := 0) Try.underlying103 rfl Try.sizeOf58 rfl (en rfl (en rfl (en rfl (en rfl s9)))) rfl) (nd_of rfl) rfl ?_
      refine x_val (r_loadAgg h 2 rfl Try.isAgg58 Try.sizeOf58 es (ndle ‹_›) (ndx ‹_›)) (nd_of rfl) rfl ?_
      refine x_val (r_move (en rfl (en rfl (en rfl (en rfl (en rfl (en rfl s1))))))) (nd_of rfl) rfl ?_
      refine x_val (r_move (en rfl (en rfl (en rfl (en rfl (en rfl (en rfl (en rfl s12)))))))) (nd_of rfl) rfl ?_
      refine x_val (r_sub (en rfl es) es (show _ = (k - (mks a.xs : Int) : Int) from by rfl) (by unfold I64; omega)) (nd_of rfl) rfl ?_
      refine x_enter (r_callv Try.call38 (en rfl (en rfl (en rfl (en rfl (en rfl es))))) (.cons (en rfl (en rfl (en rfl es))) (.cons es .nil))) (nd_of rfl) rfl (offn_ok hs.2.1 (by omega) (by omega) hp h) ?_
      rintro _ w ⟨rfl, h⟩
      refine x_val (r_add (en rfl (en rfl (en rfl (en rfl (en rfl (en rfl (en rfl es))))))) es (show _ = ((P : Int) : Int) from by omega) (by unfold I64; omega)) (nd_of rfl) rfl ?_
      refine x_val (r_assign es) (nd_of rfl) rfl ?_
      refine x_val (r_assign ec) (nd_of rfl) rfl ?_
      refine xw_nil ?_
      refine hK12 _ _ ?_
      refine xc_gen (fun g hg => ?_)
      have s0 := (hg 0).trans (en rfl (en rfl (en rfl (en rfl (en rfl (en rfl (en rfl (en rfl (en rfl (en rfl (en rfl (en rfl (en rfl s0)))))))))))))
      have s1 := (hg 1).trans (en rfl (en rfl (en rfl (en rfl (en rfl (en rfl (en rfl (en rfl (en rfl (en rfl (en rfl (en rfl (en rfl s1)))))))))))))
      have s2 := (hg 2).trans (en rfl (en rfl (en rfl (en rfl (en rfl (en rfl (en rfl (en rfl (en rfl (en rfl (en rfl (en rfl (en rfl s2)))))))))))))
      have s6 := (hg 6).trans (en rfl es)
      have s7 := (hg 7).trans es
      have s8 := (hg 8).trans (en rfl (en rfl (en rfl (en rfl (en rfl (en rfl (en rfl (en rfl (en rfl (en rfl (en rfl (en rfl (en rfl s8)))))))))))))
      have s9 := (hg 9).trans (en rfl (en rfl (en rfl (en rfl (en rfl (en rfl (en rfl (en rfl (en rfl (en rfl (en rfl (en rfl (en rfl s9)))))))))))))
      have s11 := (hg 11).trans (en rfl (en rfl (en rfl (en rfl (en rfl (en rfl (en rfl (en rfl (en rfl (en rfl (en rfl (en rfl (en rfl s11)))))))))))))
      have s12 := (hg 12).trans (en rfl (en rfl (en rfl (en rfl (en rfl (en rfl (en rfl (en rfl (en rfl (en rfl (en rfl (en rfl (en rfl s12)))))))))))))
      have s13 := (hg 13).trans (en rfl (en rfl (en rfl (en rfl (en rfl (en rfl (en rfl (en rfl (en rfl (en rfl (en rfl (en rfl (en rfl s13)))))))))))))
      have s14 := (hg 14).trans (en rfl (en rfl (en rfl (en rfl (en rfl (en rfl (en rfl (en rfl (en rfl (en rfl (en rfl (en rfl (en rfl s14)))))))))))))
      have s24 := (hg 24).trans (en rfl (en rfl (en rfl (en rfl (en rfl (en rfl (en rfl (en rfl (en rfl (en rfl (en rfl (en rfl (en rfl s24)))))))))))))
      have s59 := (hg 59).trans (en rfl (en rfl (en rfl (en rfl (en rfl (en rfl (en rfl (en rfl (en rfl (en rfl (en rfl (en rfl (en rfl s59)))))))))))))
      have s65 := (hg 65).trans (en rfl (en rfl (en rfl (en rfl (en rfl (en rfl (en rfl (en rfl (en rfl (en rfl (en rfl (en rfl (en rfl s65)))))))))))))
      clear hg
      refine xc_ret ?_
      refine bodyR_2 rfl s6 s7 ?_
      have h := h.f1
      have h := h.f1
      have h := h.f2
      exact ⟨rfl, SatL.closeTree ht h.drop⟩
    ·
      refine xc_seq (fun K hK13 => ?_)
      have hd2 := of_decide_eq_false hc
      rw [if_neg (by omega)] at hfe
      have hfe2 := hfe
      rw [Option.map_map, Option.map_map, Option.map_eq_some_iff] at hfe2
      obtain ⟨p, hp, hpP⟩ := hfe2
      simp only [Function.comp] at hpP
      refine xc_region ?_
      refine x_val (r_move s6) (nd_of rfl) rfl ?_
      refine x_val (r_move (en rfl s11)) (nd_of rfl) rfl ?_
      refine x_val (r_move (en rfl (en rfl s13))) (nd_of rfl) rfl ?_
      refine x_val (r_add (en rfl es) es (show _ = ((sz a.xs : Int) + xS x : Int) from by rfl) (by unfold I64; omega)) (nd_of rfl) rfl ?_
      refine x_val (r_add (en rfl (en rfl (en rfl es))) es (show _ = (((av + (sz a.xs + xS x) : Nat) : Int) : Int) from by omega) (by unfold I64; omega)) (nd_of rfl) rfl ?_
      refine x_val (r_assign es) (nd_of rfl) rfl ?_
      refine xw_nil ?_
      refine hK13 _ _ ?_
      refine xc_gen (fun g hg => ?_)
      have s0 := (hg 0).trans (en rfl (en rfl (en rfl (en rfl (en rfl (en rfl s0))))))
      have s1 := (hg 1).trans (en rfl (en rfl (en rfl (en rfl (en rfl (en rfl s1))))))
      have s2 := (hg 2).trans (en rfl (en rfl (en rfl (en rfl (en rfl (en rfl s2))))))
      have s6 := (hg 6).trans es
      have s8 := (hg 8).trans (en rfl (en rfl (en rfl (en rfl (en rfl (en rfl s8))))))
      have s9 := (hg 9).trans (en rfl (en rfl (en rfl (en rfl (en rfl (en rfl s9))))))
      have s11 := (hg 11).trans (en rfl (en rfl (en rfl (en rfl (en rfl (en rfl s11))))))
      have s12 := (hg 12).trans (en rfl (en rfl (en rfl (en rfl (en rfl (en rfl s12))))))
      have s13 := (hg 13).trans (en rfl (en rfl (en rfl (en rfl (en rfl (en rfl s13))))))
      have s14 := (hg 14).trans (en rfl (en rfl (en rfl (en rfl (en rfl (en rfl s14))))))
      have s24 := (hg 24).trans (en rfl (en rfl (en rfl (en rfl (en rfl (en rfl s24))))))
      have s59 := (hg 59).trans (en rfl (en rfl (en rfl (en rfl (en rfl (en rfl s59))))))
      have s65 := (hg 65).trans (en rfl (en rfl (en rfl (en rfl (en rfl (en rfl s65))))))
      clear hg
      refine xc_seq (fun K hK14 => ?_)
      refine xc_region ?_
      refine x_val (r_move s1) (nd_of rfl) rfl ?_
      refine x_val (r_move (en rfl s12)) (nd_of rfl) rfl ?_
      refine x_val (r_move (en rfl (en rfl s14))) (nd_of rfl) rfl ?_
      refine x_val (r_add (en rfl es) es (show _ = ((mks a.xs : Int) + xM x : Int) from by rfl) (by unfold I64; omega)) (nd_of rfl) rfl ?_
      refine x_val (r_sub (en rfl (en rfl (en rfl es))) es (show _ = (k - (mks a.xs : Int) - (xM x : Int) : Int) from by omega) (by unfold I64; omega)) (nd_of rfl) rfl ?_
      refine x_val (r_assign es) (nd_of rfl) rfl ?_
      refine xw_nil ?_
      refine hK14 _ _ ?_
      refine xc_gen (fun g hg => ?_)
      have s0 := (hg 0).trans (en rfl (en rfl (en rfl (en rfl (en rfl (en rfl s0))))))
      have s1 := (hg 1).trans es
      have s2 := (hg 2).trans (en rfl (en rfl (en rfl (en rfl (en rfl (en rfl s2))))))
      have s6 := (hg 6).trans (en rfl (en rfl (en rfl (en rfl (en rfl (en rfl s6))))))
      have s8 := (hg 8).trans (en rfl (en rfl (en rfl (en rfl (en rfl (en rfl s8))))))
      have s9 := (hg 9).trans (en rfl (en rfl (en rfl (en rfl (en rfl (en rfl s9))))))
      have s11 := (hg 11).trans (en rfl (en rfl (en rfl (en rfl (en rfl (en rfl s11))))))
      have s12 := (hg 12).trans (en rfl (en rfl (en rfl (en rfl (en rfl (en rfl s12))))))
      have s13 := (hg 13).trans (en rfl (en rfl (en rfl (en rfl (en rfl (en rfl s13))))))
      have s14 := (hg 14).trans (en rfl (en rfl (en rfl (en rfl (en rfl (en rfl s14))))))
      have s24 := (hg 24).trans (en rfl (en rfl (en rfl (en rfl (en rfl (en rfl s24))))))
      have s59 := (hg 59).trans (en rfl (en rfl (en rfl (en rfl (en rfl (en rfl s59))))))
      have s65 := (hg 65).trans (en rfl (en rfl (en rfl (en rfl (en rfl (en rfl s65))))))
      clear hg
      refine xc_region ?_
      refine x_val (r_fieldAddr (o' := 34) Try.underlying103 rfl Try.sizeOf3 rfl s9 rfl) (nd_of rfl) rfl ?_
      refine x_val (r_load h 2 rfl Try.isAgg3 es (nd1 ‹_›)) (nd_of rfl) rfl ?_
      refine x_val (r_assign es) (nd_of rfl) rfl ?_
      refine xw_nil ?_
      have h := h.f1
      have h := h.f1
      have h := h.f2
      exact ⟨c.n, by omega, ⟨c, k - (mks a.xs : Int) - (xM x : Int), av + (sz a.xs + xS x), rfl, by omega, by omega, hs.2.2.2, hbs.right.tail, by rw [hp]; simp; omega, (en rfl (en rfl (en rfl s1))), (en rfl (en rfl (en rfl s6))), es, h.drop⟩, ⟨((en rfl (en rfl (en rfl s0)))).trans zG4_0.symm, ((en rfl (en rfl (en rfl s2)))).trans zG4_2.symm⟩⟩
end
end Go.Proofs.Ytmfkhfmidnojhaa
