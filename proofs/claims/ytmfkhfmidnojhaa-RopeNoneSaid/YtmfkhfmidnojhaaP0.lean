/-
The text of a rope's tree: the plain laws.
-/
import Derived.Test.YtmfkhfmidnojhaaS0
import Derived.Test.YtmfkhfmidnojhaaT15
namespace Go.Proofs.Ytmfkhfmidnojhaa
open Go Go.RowKit
theorem txt_split : ∀ (l : List X) (i : Nat), (splitL l i).1.flatten = l.flatten.take i ∧ (splitL l i).2.flatten = l.flatten.drop i
  | [], i => by simp [splitL]
  | x :: l, i => by
    unfold splitL
    split
    · rename_i h; subst h; simp
    · split
      · rename_i h1 h2
        have hle : x.length ≤ i := h2
        obtain ⟨ih1, ih2⟩ := txt_split l (i - x.length)
        constructor
        · show (x :: (splitL l (i - x.length)).1).flatten = _
          rw [List.flatten_cons, List.flatten_cons, List.take_append, List.take_of_length_le hle, ih1]
        · show (splitL l (i - x.length)).2.flatten = _
          rw [List.flatten_cons, List.drop_append, List.drop_eq_nil_of_le hle, List.nil_append, ih2]
      · rename_i h1 h2
        have hlt : i < x.length := by unfold xS at h2; omega
        constructor
        · show [x.take i].flatten = (x ++ l.flatten).take i
          rw [List.take_append_of_le_length (by omega)]; simp
        · show x.drop i ++ l.flatten = (x ++ l.flatten).drop i
          rw [List.drop_append_of_le_length (by omega)]
theorem txt_mstep (out : List X) (x : X) : (mstep out x).flatten = out.flatten ++ x := by
  by_cases h0 : xS x = 0
  · rw [mstep_zero h0]
    have : x = [] := List.eq_nil_of_length_eq_zero h0
    simp [this]
  rcases nil_or_snoc out with rfl | ⟨o, y, rfl⟩
  · rw [mstep_nil h0]; simp
  · by_cases hm : xMelds y x = true
    · rw [mstep_yes h0 hm]
      have e : y.length + x.length ≤ 32 := of_decide_eq_true hm
      simp only [List.flatten_append, List.flatten_cons, List.flatten_nil, xMeld, if_pos e, List.append_nil, List.append_assoc]
    · rw [mstep_no h0 (by simpa using hm)]
      simp
theorem txt_fold : ∀ (l out : List X), (l.foldl mstep out).flatten = out.flatten ++ l.flatten
  | [], out => by simp
  | x :: l, out => by rw [List.foldl_cons, txt_fold l, txt_mstep, List.flatten_cons, List.append_assoc]
theorem txt_meld (l : List X) : (meldL l).flatten = l.flatten := by
  unfold meldL; rw [txt_fold]; simp
theorem drop_last_app {α : Type} (l : List α) : l.dropLast ++ l.getLast?.toList = l := by
  rcases nil_or_snoc l with rfl | ⟨o, y, rfl⟩ <;> simp
theorem head_tail_app {α : Type} (l : List α) : l.head?.toList ++ l.tail = l := by cases l <;> simp
theorem txt_repl {xs l : List X} {i j : Nat} (hij : i ≤ j) : (replL xs i j l).flatten = xs.flatten.take i ++ (l.flatten ++ xs.flatten.drop j) := by
  have h1 := txt_split xs i
  have h2 := txt_split (splitL xs i).2 (j - i)
  unfold replL
  rw [List.flatten_append, List.flatten_append, txt_meld, List.flatten_append, List.flatten_append]
  have e1 : (splitL xs i).1.dropLast.flatten ++ (splitL xs i).1.getLast?.toList.flatten = xs.flatten.take i := by rw [← List.flatten_append, drop_last_app, h1.1]
  have e2 : (splitL (splitL xs i).2 (j - i)).2.head?.toList.flatten ++ (splitL (splitL xs i).2 (j - i)).2.tail.flatten = xs.flatten.drop j := by
    rw [← List.flatten_append, head_tail_app, h2.2, h1.2, List.drop_drop, show i + (j - i) = j by omega]
  rw [← e1, ← e2]
  simp only [List.append_assoc]
theorem partX_txt {x : X} {i j : Nat} (hij : i < j) (hj : j ≤ x.length) : partX x i j = (x.take j).drop i := by
  unfold partX
  have e : (if j < xS x then (xCut x j).1 else x) = x.take j := by
    split
    · rfl
    · rename_i h; rw [List.take_of_length_le (by unfold xS at h; omega)]
  rw [e]
  by_cases h1 : 0 < i
  · rw [if_pos h1]; rfl
  · rw [if_neg h1, show i = 0 by omega, List.drop_zero]
theorem txt_over : ∀ (l : List X) (i j : Nat), (overL l i j).flatten = (l.flatten.take j).drop i
  | [], i, j => by simp [overL]
  | x :: l, i, j => by
    have ih := txt_over l (i - x.length) (j - x.length)
    show (oneL x i j ++ overL l (i - x.length) (j - x.length)).flatten = _
    rw [List.flatten_append, List.flatten_cons, ih, List.take_append, List.drop_append, List.length_take]
    congr 1
    · unfold oneL
      by_cases h : i < min j (xS x)
      · have h' : i < min j x.length := h
        rw [if_pos h, partX_txt h (Nat.min_le_right _ _)]
        simp only [List.flatten_cons, List.flatten_nil, List.append_nil]
        congr 1
        show x.take (min j x.length) = x.take j
        rcases Nat.le_total j x.length with h2 | h2
        · rw [Nat.min_eq_left h2]
        · rw [Nat.min_eq_right h2, List.take_length, List.take_of_length_le h2]
      · have h' : ¬ i < min j x.length := h
        rw [if_neg h, List.flatten_nil, List.drop_eq_nil_of_le (by rw [List.length_take]; omega)]
    · by_cases h : x.length ≤ j
      · rw [show min j x.length = x.length by omega]
      · rw [show j - x.length = 0 by omega]; simp
theorem find_txt : ∀ (l : List X) (k : Nat) {x : X} {o : Nat}, findL l k = some (x, o) → o < x.length ∧ l.flatten[k]? = x[o]? ∧ x ∈ l
  | [], k, x, o, h => by simp [findL] at h
  | y :: l, k, x, o, h => by
    unfold findL at h
    rw [List.flatten_cons]
    split at h
    · rename_i hk
      cases h
      have hk2 : k < y.length := hk
      exact ⟨hk2, by rw [List.getElem?_append_left hk2], by simp⟩
    · rename_i hk
      have hk2 : ¬ k < y.length := hk
      obtain ⟨h1, h2, h3⟩ := find_txt l (k - y.length) h
      exact ⟨h1, by rw [List.getElem?_append_right (by omega)]; exact h2, by simp [h3]⟩
theorem find_none_iff : ∀ (l : List X) (k : Nat), findL l k = none ↔ sz l ≤ k
  | [], k => by simp [findL, sz]
  | x :: l, k => by
    unfold findL
    split
    · rename_i h; simp [sz]; omega
    · rename_i h; rw [find_none_iff l]; simp only [sz]; omega
theorem ps_len : ∀ {l : List X}, Ps l → l.length ≤ l.flatten.length
  | [], _ => Nat.le_refl _
  | x :: l, h => by
    have h1 : 0 < x.length := h x (by simp)
    have h2 := ps_len (l := l) (fun y hy => h y (by simp [hy]))
    rw [List.flatten_cons, List.length_append, List.length_cons]
    omega
theorem over_len : ∀ (l : List X) (i j : Nat), (overL l i j).length ≤ l.length
  | [], _, _ => Nat.le_refl _
  | x :: l, i, j => by
    have := over_len l (i - xS x) (j - xS x)
    simp only [overL, List.length_append, List.length_cons]
    have h1 : (oneL x i j).length ≤ 1 := by unfold oneL; split <;> simp
    omega
/-- a rope: its text, and how many places it may have -/
def Rp (b : Nat) (t : List Int) (B : Nat) : SProp := sex fun xs : List X => star (spure (xs.flatten = t)) (ObjO b xs B)
section
variable {E : Env} {R : List SProp} {w : World} {b bt ba B B' : Nat} {t : List Int} {xs l : List X} {v : Value}
theorem SatL.openRp (h : SatL E w (Rp b t B :: R)) : ∃ xs : List X, xs.flatten = t ∧ SatL E w (ObjO b xs B :: R) := by
  obtain ⟨xs, h⟩ := h.openEx
  obtain ⟨hp, h⟩ := h.open.pure
  exact ⟨xs, hp, h⟩
theorem SatL.closeRp (e : xs.flatten = t) (h : SatL E w (ObjO b xs B :: R)) : SatL E w (Rp b t B :: R) := (h.addPure e).close.closeEx xs
theorem SatL.rpCode (h : SatL E w (Rp b t B :: R)) : ∀ r ∈ t, rune r := by
  obtain ⟨xs, rfl, hh⟩ := h.openRp
  clear h
  have h := hh
  clear hh
  intro r hr
  obtain ⟨x, hx, hr⟩ := List.mem_flatten.1 hr
  exact (h.objFacts.2.2 x hx).ck.code r hr
theorem SatL.objMono (hBB : B ≤ B') (h : SatL E w (ObjO b xs B :: R)) : SatL E w (ObjO b xs B' :: R) := by
  rcases h.openObj with ⟨e, h1⟩ | ⟨bt, ba, h1⟩
  · rw [e]; exact SatL.closeObj0 h1
  · exact SatL.closeObj ((h1.f1.treeMono hBB).f1)
theorem SatL.rpMono (hBB : B ≤ B') (h : SatL E w (Rp b t B :: R)) : SatL E w (Rp b t B' :: R) := by
  obtain ⟨xs, e, h⟩ := h.openRp
  exact SatL.closeRp e (h.objMono hBB)
theorem newR (h : SatL E w R) : Calls Try.prog 9 #[] w (Ret fun v w' => ∃ b, v = pT b ∧ SatL E w' (Rp b [] 0 :: R)) :=
  Calls.ret_mono (new_o h) fun _ _ ⟨b, e, h⟩ => ⟨b, e, SatL.closeRp (xs := []) rfl h⟩
theorem lenR (h : SatL E w (Rp b t B :: R)) : Calls Try.prog 11 #[pT b] w (Ret fun v w' => v = .int .i64 (t.length : Int) ∧ SatL E w' (Rp b t B :: R)) := by
  obtain ⟨xs, rfl, hh⟩ := h.openRp
  clear h
  have h := hh
  clear hh
  exact Calls.ret_mono (len_o h) fun _ _ ⟨e, h⟩ => ⟨by rw [e, sz_txt], SatL.closeRp rfl h⟩
theorem betweenR {i j : Int} (h : SatL E w (Rp b t B :: R)) : Calls Try.prog 27 #[pT b, .int .i64 i, .int .i64 j] w (Ret fun v w' => v = .int .i64 (if isPart t.length i j then 0 else 5) ∧ SatL E w' (Rp b t B :: R)) := by
  obtain ⟨xs, rfl, hh⟩ := h.openRp
  clear h
  have h := hh
  clear hh
  exact Calls.ret_mono (between_o h) fun _ _ ⟨e, h⟩ => ⟨by rw [e, sz_txt], SatL.closeRp rfl h⟩
theorem newlinesR (h : SatL E w (Rp b t B :: R)) : Calls Try.prog 18 #[pT b] w (Ret fun v w' => v = .int .i64 (t.count 10 : Int) ∧ SatL E w' (Rp b t B :: R)) := by
  obtain ⟨xs, rfl, hh⟩ := h.openRp
  clear h
  have h := hh
  clear hh
  rw [← mks_txt]
  refine calls_x Try.func18 rfl Try.ntmps18 rfl ?_
  refine xc_gen (fun g hg => ?_)
  have s0 := (hg 0).trans arg0
  clear hg
  refine xc_seq (fun K hK1 => ?_)
  refine xc_region ?_
  refine x_val (r_assign ec) (nd_of rfl) rfl ?_
  refine xw_nil ?_
  refine hK1 _ _ ?_
  refine xc_gen (fun g hg => ?_)
  have s0 := (hg 0).trans (en rfl s0)
  have s2 := (hg 2).trans es
  clear hg
  refine xc_seq (fun K hK2 => ?_)
  refine xc_seq (fun K hK3 => ?_)
  refine xc_region ?_
  refine x_val (r_move s0) (nd_of rfl) rfl ?_
  refine x_val (r_eqnil Try.underlying24 es ec (r := false) rfl) (nd_of rfl) rfl ?_
  refine xw_nil ?_
  refine hK3 _ _ ?_
  refine xc_gen (fun g hg => ?_)
  have s0 := (hg 0).trans (en rfl (en rfl s0))
  have s2 := (hg 2).trans (en rfl (en rfl s2))
  have s4 := (hg 4).trans es
  clear hg
  refine xc_cond s4 (fun hc => by cases hc) (fun _ => ?_)
  refine xc_skip ?_
  refine hK2 _ _ ?_
  refine xc_seq (fun K hK4 => ?_)
  refine xc_region ?_
  refine x_val (r_move s0) (nd_of rfl) rfl ?_
  refine x_enter (r_call Try.call25 (.cons es .nil)) (nd_of rfl) rfl (tree_o h) ?_
  rintro _ w ⟨bt, ba, rfl, h⟩
  have h := h.f1
  refine x_enter (r_call Try.call34 (.cons es .nil)) (nd_of rfl) rfl (marks_t h) ?_
  rintro _ w ⟨rfl, h⟩
  refine x_val (r_assign es) (nd_of rfl) rfl ?_
  refine xw_nil ?_
  refine hK4 _ _ ?_
  refine xc_gen (fun g hg => ?_)
  have s0 := (hg 0).trans (en rfl (en rfl (en rfl (en rfl s0))))
  have s2 := (hg 2).trans es
  have s4 := (hg 4).trans (en rfl (en rfl (en rfl (en rfl s4))))
  clear hg
  refine xc_ret ?_
  refine bodyR_1 rfl s2 ?_
  exact ⟨rfl, SatL.closeRp rfl (SatL.closeObj h.f1)⟩
theorem deleteR {i j : Int} (hp : isPart t.length i j) (hB : t.length + 4 ≤ B') (hBB : B ≤ B') (hB' : B' ≤ 100000000) (h : SatL E w (Rp b t B :: R)) : Calls Try.prog 12 #[pT b, .int .i64 i, .int .i64 j] w (Ret fun v w' => v = .int .i64 0 ∧ SatL E w' (Rp b (t.take i.toNat ++ t.drop j.toNat) B' :: R)) := by
  obtain ⟨xs, rfl, hh⟩ := h.openRp
  clear h
  have h := hh
  clear hh
  have hpl := ps_len h.objFacts.1
  rw [← sz_txt] at hp
  have hp2 := hp
  obtain ⟨h0, h1, h2⟩ := hp
  obtain ⟨ni, rfl⟩ := Int.eq_ofNat_of_zero_le h0
  obtain ⟨nj, rfl⟩ := Int.eq_ofNat_of_zero_le (Int.le_trans h0 h1)
  have hst := sz_txt xs
  have htr := txt_repl (xs := xs) (l := []) (i := ni) (j := nj) (by omega)
  refine calls_x Try.func12 rfl Try.ntmps12 rfl ?_
  refine xc_gen (fun g hg => ?_)
  have s0 := (hg 0).trans arg0
  have s1 := (hg 1).trans arg1
  have s2 := (hg 2).trans arg2
  clear hg
  refine xc_seq (fun K hK1 => ?_)
  refine xc_region ?_
  refine x_val (r_assign ec) (nd_of rfl) rfl ?_
  refine xw_nil ?_
  refine hK1 _ _ ?_
  refine xc_gen (fun g hg => ?_)
  have s0 := (hg 0).trans (en rfl s0)
  have s1 := (hg 1).trans (en rfl s1)
  have s2 := (hg 2).trans (en rfl s2)
  have s6 := (hg 6).trans es
  clear hg
  refine xc_seq (fun K hK2 => ?_)
  refine xc_seq (fun K hK3 => ?_)
  refine xc_region ?_
  refine x_val (r_move s0) (nd_of rfl) rfl ?_
  refine x_val (r_move (en rfl s1)) (nd_of rfl) rfl ?_
  refine x_val (r_move (en rfl (en rfl s2))) (nd_of rfl) rfl ?_
  refine x_enter (r_call Try.call27 (.cons (en rfl (en rfl es)) (.cons (en rfl es) (.cons es .nil)))) (nd_of rfl) rfl (between_o h) ?_
  rintro _ w ⟨rfl, h⟩
  refine x_val (r_assign es) (nd_of rfl) rfl ?_
  refine xw_nil ?_
  refine hK3 _ _ ?_
  refine xc_gen (fun g hg => ?_)
  have s0 := (hg 0).trans (en rfl (en rfl (en rfl (en rfl (en rfl s0)))))
  have s1 := (hg 1).trans (en rfl (en rfl (en rfl (en rfl (en rfl s1)))))
  have s2 := (hg 2).trans (en rfl (en rfl (en rfl (en rfl (en rfl s2)))))
  have s6 := (hg 6).trans (en rfl (en rfl (en rfl (en rfl (en rfl s6)))))
  have s7 := (hg 7).trans es
  clear hg
  refine xc_seq (fun K hK4 => ?_)
  refine xc_region ?_
  refine x_val (r_move s7) (nd_of rfl) rfl ?_
  refine x_val (r_neq es ec (decide_eq_false (by rw [if_pos hp2]; decide))) (nd_of rfl) rfl ?_
  refine xw_nil ?_
  refine hK4 _ _ ?_
  refine xc_gen (fun g hg => ?_)
  have s0 := (hg 0).trans (en rfl (en rfl s0))
  have s1 := (hg 1).trans (en rfl (en rfl s1))
  have s2 := (hg 2).trans (en rfl (en rfl s2))
  have s6 := (hg 6).trans (en rfl (en rfl s6))
  have s7 := (hg 7).trans (en rfl (en rfl s7))
  have s13 := (hg 13).trans es
  clear hg
  refine xc_cond s13 (fun hc => by cases hc) (fun _ => ?_)
  refine xc_skip ?_
  refine hK2 _ _ ?_
  refine xc_seq (fun K hK5 => ?_)
  refine xc_region ?_
  refine x_val (r_move s0) (nd_of rfl) rfl ?_
  refine x_enter (r_call Try.call25 (.cons es .nil)) (nd_of rfl) rfl (tree_o h) ?_
  rintro _ w ⟨bt, ba, rfl, h⟩
  refine x_val (r_move (en rfl (en rfl s1))) (nd_of rfl) rfl ?_
  refine x_val (r_move (en rfl (en rfl (en rfl s2)))) (nd_of rfl) rfl ?_
  have h := h.f1
  refine x_enter (r_call Try.call28 (.cons (en rfl (en rfl es)) (.cons (en rfl es) (.cons es (.cons ec .nil))))) (nd_of rfl) rfl (replace_t (B' := B') (l := []) slc_nil (by omega) (by omega) (by simp only [List.length_nil]; omega) hBB hB' (by simp only [sz]; omega) h) ?_
  rintro _ w h
  refine xw_nil ?_
  refine hK5 _ _ ?_
  refine xc_gen (fun g hg => ?_)
  have s0 := (hg 0).trans (en rfl (en rfl (en rfl (en rfl (en rfl s0)))))
  have s1 := (hg 1).trans (en rfl (en rfl (en rfl (en rfl (en rfl s1)))))
  have s2 := (hg 2).trans (en rfl (en rfl (en rfl (en rfl (en rfl s2)))))
  have s6 := (hg 6).trans (en rfl (en rfl (en rfl (en rfl (en rfl s6)))))
  have s7 := (hg 7).trans (en rfl (en rfl (en rfl (en rfl (en rfl s7)))))
  have s13 := (hg 13).trans (en rfl (en rfl (en rfl (en rfl (en rfl s13)))))
  clear hg
  refine xc_seq (fun K hK6 => ?_)
  refine xc_region ?_
  refine x_val (r_assign ec) (nd_of rfl) rfl ?_
  refine xw_nil ?_
  refine hK6 _ _ ?_
  refine xc_gen (fun g hg => ?_)
  have s0 := (hg 0).trans (en rfl s0)
  have s1 := (hg 1).trans (en rfl s1)
  have s2 := (hg 2).trans (en rfl s2)
  have s6 := (hg 6).trans es
  have s7 := (hg 7).trans (en rfl s7)
  have s13 := (hg 13).trans (en rfl s13)
  clear hg
  refine xc_ret ?_
  refine bodyR_1 rfl s6 ?_
  exact ⟨rfl, SatL.closeRp (by rw [htr]; rfl) (SatL.closeObj h.f1)⟩
theorem delete_no {i j : Int} (hp : ¬ isPart t.length i j) (h : SatL E w (Rp b t B :: R)) : Calls Try.prog 12 #[pT b, .int .i64 i, .int .i64 j] w (Ret fun v w' => v = .int .i64 5 ∧ SatL E w' (Rp b t B :: R)) := by
  refine calls_x Try.func12 rfl Try.ntmps12 rfl ?_
  refine xc_gen (fun g hg => ?_)
  have s0 := (hg 0).trans arg0
  have s1 := (hg 1).trans arg1
  have s2 := (hg 2).trans arg2
  clear hg
  refine xc_seq (fun K hK1 => ?_)
  refine xc_region ?_
  refine x_val (r_assign ec) (nd_of rfl) rfl ?_
  refine xw_nil ?_
  refine hK1 _ _ ?_
  refine xc_gen (fun g hg => ?_)
  have s0 := (hg 0).trans (en rfl s0)
  have s1 := (hg 1).trans (en rfl s1)
  have s2 := (hg 2).trans (en rfl s2)
  have s6 := (hg 6).trans es
  clear hg
  refine xc_seq (fun K hK2 => ?_)
  refine xc_seq (fun K hK3 => ?_)
  refine xc_region ?_
  refine x_val (r_move s0) (nd_of rfl) rfl ?_
  refine x_val (r_move (en rfl s1)) (nd_of rfl) rfl ?_
  refine x_val (r_move (en rfl (en rfl s2))) (nd_of rfl) rfl ?_
  refine x_enter (r_call Try.call27 (.cons (en rfl (en rfl es)) (.cons (en rfl es) (.cons es .nil)))) (nd_of rfl) rfl (betweenR h) ?_
  rintro _ w ⟨rfl, h⟩
  refine x_val (r_assign es) (nd_of rfl) rfl ?_
  refine xw_nil ?_
  refine hK3 _ _ ?_
  refine xc_gen (fun g hg => ?_)
  have s0 := (hg 0).trans (en rfl (en rfl (en rfl (en rfl (en rfl s0)))))
  have s1 := (hg 1).trans (en rfl (en rfl (en rfl (en rfl (en rfl s1)))))
  have s2 := (hg 2).trans (en rfl (en rfl (en rfl (en rfl (en rfl s2)))))
  have s6 := (hg 6).trans (en rfl (en rfl (en rfl (en rfl (en rfl s6)))))
  have s7 := (hg 7).trans es
  clear hg
  refine xc_seq (fun K hK4 => ?_)
  refine xc_region ?_
  refine x_val (r_move s7) (nd_of rfl) rfl ?_
  refine x_val (r_neq es ec (decide_eq_true (by rw [if_neg hp]; decide))) (nd_of rfl) rfl ?_
  refine xw_nil ?_
  refine hK4 _ _ ?_
  refine xc_gen (fun g hg => ?_)
  have s0 := (hg 0).trans (en rfl (en rfl s0))
  have s1 := (hg 1).trans (en rfl (en rfl s1))
  have s2 := (hg 2).trans (en rfl (en rfl s2))
  have s6 := (hg 6).trans (en rfl (en rfl s6))
  have s7 := (hg 7).trans (en rfl (en rfl s7))
  have s13 := (hg 13).trans es
  clear hg
  refine xc_cond s13 (fun _ => ?_) (fun hc => by cases hc)
  refine xc_seq (fun K hK5 => ?_)
  refine xc_region ?_
  refine x_val (r_move s7) (nd_of rfl) rfl ?_
  refine x_val (r_assign es) (nd_of rfl) rfl ?_
  refine xw_nil ?_
  refine hK5 _ _ ?_
  refine xc_gen (fun g hg => ?_)
  have s0 := (hg 0).trans (en rfl (en rfl s0))
  have s1 := (hg 1).trans (en rfl (en rfl s1))
  have s2 := (hg 2).trans (en rfl (en rfl s2))
  have s6 := (hg 6).trans es
  have s7 := (hg 7).trans (en rfl (en rfl s7))
  have s13 := (hg 13).trans (en rfl (en rfl s13))
  clear hg
  refine xc_ret ?_
  refine bodyR_1 rfl s6 ?_
  exact ⟨by rw [if_neg hp], h⟩
theorem lineOfR {i : Int} {V : Nat} (hp : isPart t.length i i) (hV : (t.take i.toNat).count 10 = V) (h : SatL E w (Rp b t B :: R)) : Calls Try.prog 19 #[pT b, .int .i64 i] w (Ret fun v w' => v = .tuple #[.int .i64 (V : Int), .int .i64 0] ∧ SatL E w' (Rp b t B :: R)) := by
  obtain ⟨xs, rfl, hh⟩ := h.openRp
  clear h
  have h := hh
  clear hh
  have hbd := h.objFacts.2.1.2.1
  rw [← sz_txt] at hp
  have hp2 := hp
  obtain ⟨h0, h1, h2⟩ := hp
  obtain ⟨ni, rfl⟩ := Int.eq_ofNat_of_zero_le h0
  refine calls_x Try.func19 rfl Try.ntmps19 rfl ?_
  refine xc_gen (fun g hg => ?_)
  have s0 := (hg 0).trans arg0
  have s1 := (hg 1).trans arg1
  clear hg
  refine xc_seq (fun K hK1 => ?_)
  refine xc_region ?_
  refine x_val (r_assign ec) (nd_of rfl) rfl ?_
  refine x_val (r_assign ec) (nd_of rfl) rfl ?_
  refine xw_nil ?_
  refine hK1 _ _ ?_
  refine xc_gen (fun g hg => ?_)
  have s0 := (hg 0).trans (en rfl (en rfl s0))
  have s1 := (hg 1).trans (en rfl (en rfl s1))
  have s4 := (hg 4).trans (en rfl es)
  have s5 := (hg 5).trans es
  clear hg
  refine xc_seq (fun K hK2 => ?_)
  refine xc_seq (fun K hK3 => ?_)
  refine xc_region ?_
  refine x_val (r_move s0) (nd_of rfl) rfl ?_
  refine x_val (r_move (en rfl s1)) (nd_of rfl) rfl ?_
  refine x_val (r_move (en rfl (en rfl s1))) (nd_of rfl) rfl ?_
  refine x_enter (r_call Try.call27 (.cons (en rfl (en rfl es)) (.cons (en rfl es) (.cons es .nil)))) (nd_of rfl) rfl (between_o h) ?_
  rintro _ w ⟨rfl, h⟩
  refine x_val (r_assign es) (nd_of rfl) rfl ?_
  refine xw_nil ?_
  refine hK3 _ _ ?_
  refine xc_gen (fun g hg => ?_)
  have s0 := (hg 0).trans (en rfl (en rfl (en rfl (en rfl (en rfl s0)))))
  have s1 := (hg 1).trans (en rfl (en rfl (en rfl (en rfl (en rfl s1)))))
  have s4 := (hg 4).trans (en rfl (en rfl (en rfl (en rfl (en rfl s4)))))
  have s5 := (hg 5).trans (en rfl (en rfl (en rfl (en rfl (en rfl s5)))))
  have s6 := (hg 6).trans es
  clear hg
  refine xc_seq (fun K hK4 => ?_)
  refine xc_region ?_
  refine x_val (r_move s6) (nd_of rfl) rfl ?_
  refine x_val (r_neq es ec (decide_eq_false (by rw [if_pos hp2]; decide))) (nd_of rfl) rfl ?_
  refine xw_nil ?_
  refine hK4 _ _ ?_
  refine xc_gen (fun g hg => ?_)
  have s0 := (hg 0).trans (en rfl (en rfl s0))
  have s1 := (hg 1).trans (en rfl (en rfl s1))
  have s4 := (hg 4).trans (en rfl (en rfl s4))
  have s5 := (hg 5).trans (en rfl (en rfl s5))
  have s6 := (hg 6).trans (en rfl (en rfl s6))
  have s12 := (hg 12).trans es
  clear hg
  refine xc_cond s12 (fun hc => by cases hc) (fun _ => ?_)
  refine xc_skip ?_
  refine hK2 _ _ ?_
  refine xc_seq (fun K hK5 => ?_)
  refine xc_region ?_
  refine x_val (r_move s0) (nd_of rfl) rfl ?_
  refine x_enter (r_call Try.call25 (.cons es .nil)) (nd_of rfl) rfl (tree_o h) ?_
  rintro _ w ⟨bt, ba, rfl, h⟩
  refine x_val (r_move (en rfl (en rfl s1))) (nd_of rfl) rfl ?_
  have h := h.f1
  refine x_enter (r_call Try.call35 (.cons (en rfl es) (.cons es (.cons ef .nil)))) (nd_of rfl) rfl (ahead_t (by omega) hV h) ?_
  rintro _ w ⟨rfl, h⟩
  refine x_val (r_assign es) (nd_of rfl) rfl ?_
  refine x_val (r_assign ec) (nd_of rfl) rfl ?_
  refine xw_nil ?_
  refine hK5 _ _ ?_
  refine xc_gen (fun g hg => ?_)
  have s0 := (hg 0).trans (en rfl (en rfl (en rfl (en rfl (en rfl (en rfl s0))))))
  have s1 := (hg 1).trans (en rfl (en rfl (en rfl (en rfl (en rfl (en rfl s1))))))
  have s4 := (hg 4).trans (en rfl es)
  have s5 := (hg 5).trans es
  have s6 := (hg 6).trans (en rfl (en rfl (en rfl (en rfl (en rfl (en rfl s6))))))
  have s12 := (hg 12).trans (en rfl (en rfl (en rfl (en rfl (en rfl (en rfl s12))))))
  clear hg
  refine xc_ret ?_
  refine bodyR_2 rfl s4 s5 ?_
  exact ⟨rfl, SatL.closeRp rfl (SatL.closeObj h.f1)⟩
theorem lineOf_no {i : Int} (hp : ¬ isPart t.length i i) (h : SatL E w (Rp b t B :: R)) : Calls Try.prog 19 #[pT b, .int .i64 i] w (Ret fun v w' => v = .tuple #[.int .i64 0, .int .i64 5] ∧ SatL E w' (Rp b t B :: R)) := by
  refine calls_x Try.func19 rfl Try.ntmps19 rfl ?_
  refine xc_gen (fun g hg => ?_)
  have s0 := (hg 0).trans arg0
  have s1 := (hg 1).trans arg1
  clear hg
  refine xc_seq (fun K hK1 => ?_)
  refine xc_region ?_
  refine x_val (r_assign ec) (nd_of rfl) rfl ?_
  refine x_val (r_assign ec) (nd_of rfl) rfl ?_
  refine xw_nil ?_
  refine hK1 _ _ ?_
  refine xc_gen (fun g hg => ?_)
  have s0 := (hg 0).trans (en rfl (en rfl s0))
  have s1 := (hg 1).trans (en rfl (en rfl s1))
  have s4 := (hg 4).trans (en rfl es)
  have s5 := (hg 5).trans es
  clear hg
  refine xc_seq (fun K hK2 => ?_)
  refine xc_seq (fun K hK3 => ?_)
  refine xc_region ?_
  refine x_val (r_move s0) (nd_of rfl) rfl ?_
  refine x_val (r_move (en rfl s1)) (nd_of rfl) rfl ?_
  refine x_val (r_move (en rfl (en rfl s1))) (nd_of rfl) rfl ?_
  refine x_enter (r_call Try.call27 (.cons (en rfl (en rfl es)) (.cons (en rfl es) (.cons es .nil)))) (nd_of rfl) rfl (betweenR h) ?_
  rintro _ w ⟨rfl, h⟩
  refine x_val (r_assign es) (nd_of rfl) rfl ?_
  refine xw_nil ?_
  refine hK3 _ _ ?_
  refine xc_gen (fun g hg => ?_)
  have s0 := (hg 0).trans (en rfl (en rfl (en rfl (en rfl (en rfl s0)))))
  have s1 := (hg 1).trans (en rfl (en rfl (en rfl (en rfl (en rfl s1)))))
  have s4 := (hg 4).trans (en rfl (en rfl (en rfl (en rfl (en rfl s4)))))
  have s5 := (hg 5).trans (en rfl (en rfl (en rfl (en rfl (en rfl s5)))))
  have s6 := (hg 6).trans es
  clear hg
  refine xc_seq (fun K hK4 => ?_)
  refine xc_region ?_
  refine x_val (r_move s6) (nd_of rfl) rfl ?_
  refine x_val (r_neq es ec (decide_eq_true (by rw [if_neg hp]; decide))) (nd_of rfl) rfl ?_
  refine xw_nil ?_
  refine hK4 _ _ ?_
  refine xc_gen (fun g hg => ?_)
  have s0 := (hg 0).trans (en rfl (en rfl s0))
  have s1 := (hg 1).trans (en rfl (en rfl s1))
  have s4 := (hg 4).trans (en rfl (en rfl s4))
  have s5 := (hg 5).trans (en rfl (en rfl s5))
  have s6 := (hg 6).trans (en rfl (en rfl s6))
  have s12 := (hg 12).trans es
  clear hg
  refine xc_cond s12 (fun _ => ?_) (fun hc => by cases hc)
  refine xc_seq (fun K hK5 => ?_)
  refine xc_region ?_
  refine x_val (r_move s6) (nd_of rfl) rfl ?_
  refine x_val (r_assign ec) (nd_of rfl) rfl ?_
  refine x_val (r_assign (en rfl es)) (nd_of rfl) rfl ?_
  refine xw_nil ?_
  refine hK5 _ _ ?_
  refine xc_gen (fun g hg => ?_)
  have s0 := (hg 0).trans (en rfl (en rfl (en rfl s0)))
  have s1 := (hg 1).trans (en rfl (en rfl (en rfl s1)))
  have s4 := (hg 4).trans (en rfl es)
  have s5 := (hg 5).trans es
  have s6 := (hg 6).trans (en rfl (en rfl (en rfl s6)))
  have s12 := (hg 12).trans (en rfl (en rfl (en rfl s12)))
  clear hg
  refine xc_ret ?_
  refine bodyR_2 rfl s4 s5 ?_
  exact ⟨by rw [if_neg hp], h⟩
end
end Go.Proofs.Ytmfkhfmidnojhaa
