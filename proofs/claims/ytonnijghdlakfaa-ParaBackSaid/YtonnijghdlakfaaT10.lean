/-
Replace: the walk. A tree as one assertion.
-/
import Derived.Test.YtonnijghdlakfaaT9
namespace Go.Proofs.Ytonnijghdlakfaa
open Go Go.RowKit
theorem mks_le : ∀ l : List X, mks l ≤ sz l
  | [] => Nat.le_refl _
  | x :: l => by have := mks_le l; have := xM_le (x := x); simp only [mks, sz]; omega
theorem Bd.of {l : List X} (h1 : l.length ≤ 1000000000) (h2 : sz l ≤ 1000000000000) : Bd l := ⟨h1, h2, Nat.le_trans (mks_le l) h2⟩
theorem last_sz : ∀ l : List X, sz l.dropLast + sz l.getLast?.toList = sz l := fun l => by
  rcases nil_or_snoc l with rfl | ⟨o, y, rfl⟩
  · rfl
  · simp [sz_app, sz]
theorem head_sz : ∀ l : List X, sz l.head?.toList + sz l.tail = sz l
  | [] => rfl
  | x :: l => by simp [sz]
theorem sz_take : ∀ (l : List X) (k : Nat), sz (l.take k) ≤ sz l
  | [], k => by simp
  | x :: l, 0 => by simp [sz]
  | x :: l, k + 1 => by have := sz_take l k; simp only [List.take_succ_cons, sz]; omega
/-- a whole tree of some things, in at most B places -/
structure TrB (pl : Pl) (fr : List Nat) (t : Tr) (xs : List X) (B : Nat) : Prop where
  has : Has pl t
  nd : t.idx.Nodup
  xsE : t.xs = xs
  ps : Ps xs
  live : pl.length = fr.length + xs.length
  len : pl.length ≤ B
  bd : Bd xs
def TreeB (bt ba : Nat) (xs : List X) (B : Nat) : SProp := sex fun pl : Pl => sex fun fr : List Nat => sex fun t : Tr => star (spure (TrB pl fr t xs B)) (star (TC bt ba t.root) (Ar ba pl fr))
section
variable {E : Env} {R : List SProp} {w : World} {bt ba i j B B' : Nat} {ro : Int} {v : Value} {xs l : List X}
theorem SatL.openTree (h : SatL E w (TreeB bt ba xs B :: R)) : ∃ pl fr t, TrB pl fr t xs B ∧ SatL E w (TC bt ba t.root :: Ar ba pl fr :: R) := by
  obtain ⟨pl, h⟩ := h.openEx
  obtain ⟨fr, h⟩ := h.openEx
  obtain ⟨t, h⟩ := h.openEx
  obtain ⟨hp, h⟩ := h.open.pure
  exact ⟨pl, fr, t, hp, h.open⟩
theorem SatL.closeTree {pl : Pl} {fr : List Nat} {t : Tr} (hp : TrB pl fr t xs B) (h : SatL E w (TC bt ba t.root :: Ar ba pl fr :: R)) : SatL E w (TreeB bt ba xs B :: R) :=
  (((h.close).addPure hp).close.closeEx t).closeEx fr |>.closeEx pl
theorem replace_t (hl : Slc E R v l) (hij : i ≤ j) (hj : j ≤ sz xs) (hB : xs.length + l.length + 4 ≤ B') (hBB : B ≤ B') (hB' : B' ≤ 100000000) (hs : sz xs + sz l ≤ 1000000000000) (h : SatL E w (TreeB bt ba xs B :: R)) :
    Calls Try.prog 26 #[pT bt, .int .i64 (i : Int), .int .i64 (j : Int), v] w (Ret fun _ w' => SatL E w' (TreeB bt ba (replL xs i j l) B' :: R)) := by
  obtain ⟨pl, fr, t, ht, h⟩ := h.openTree
  obtain ⟨a0, cp0, rfl, hol, hrd⟩ := hl
  have hxs := ht.xsE
  have hxo : ∀ x ∈ xs, xOk x := hxs ▸ ht.has.ok
  have hpl := ht.len
  have hbt : Bd t.xs := hxs ▸ ht.bd
  have hpt : Ps t.xs := hxs ▸ ht.ps
  obtain ⟨A1, eA⟩ : ∃ A1, A1 = (splitL xs i).1 := ⟨_, rfl⟩
  obtain ⟨C1, eC⟩ : ∃ C1, C1 = (splitL xs i).2 := ⟨_, rfl⟩
  obtain ⟨B1, eB⟩ : ∃ B1, B1 = (splitL C1 (j - i)).2 := ⟨_, rfl⟩
  have q1 := splitL_len xs i
  have q2 := splitL_len C1 (j - i)
  have q3 := splitL_sz xs i (by omega)
  have q4 := splitL_ok xs i hxo
  have q5 := splitL_ps xs i ht.ps
  rw [← eA, ← eC] at q1 q3 q4 q5
  have q6 := splitL_sz C1 (j - i) (by omega)
  have q7 := splitL_ok C1 (j - i) q4.2
  have q8 := splitL_ps C1 (j - i) q5.2
  rw [← eB] at q2 q6 q7 q8
  have q9 := splitL_le C1 (j - i)
  rw [← eB] at q9
  have q10 := splitL_le xs i
  rw [← eA, ← eC] at q10
  have qr : replL xs i j l = A1.dropLast ++ (meldL (A1.getLast?.toList ++ l ++ B1.head?.toList) ++ B1.tail) := by rw [replL, ← eA, ← eC, ← eB]
  have hlA : A1.getLast?.toList.length ≤ 1 := by cases A1.getLast? <;> simp
  have hlB : B1.head?.toList.length ≤ 1 := by cases B1.head? <;> simp
  have s1 := last_sz A1
  have s2 := head_sz B1
  have hoA : ∀ x ∈ A1.getLast?.toList, xOk x := fun x hx => q4.1 x (by cases e : A1.getLast? with | none => (rw [e] at hx; simp at hx) | some y => (rw [e] at hx; simp at hx; subst hx; exact List.mem_of_getLast? e))
  have hoB : ∀ x ∈ B1.head?.toList, xOk x := fun x hx => q7.2 x (by cases e : B1.head? with | none => (rw [e] at hx; simp at hx) | some y => (rw [e] at hx; simp at hx; subst hx; exact List.mem_of_head? e))
  have hoall : ∀ x ∈ A1.getLast?.toList ++ l ++ B1.head?.toList, xOk x := fun x hx => by
    rcases List.mem_append.1 hx with h1 | h1
    · rcases List.mem_append.1 h1 with h2 | h2
      · exact hoA x h2
      · exact hol x h2
    · exact hoB x h1
  have sall : sz (A1.getLast?.toList ++ l ++ B1.head?.toList) ≤ 1000000000000 := by simp only [sz_app]; omega
  have hmd := Md.meld hoall sall
  have hmz := hmd.szE
  have hml := hmd.lenE
  simp only [List.length_append] at hml
  simp only [sz_app] at hmz
  refine calls_x Try.func26 rfl Try.ntmps26 rfl ?_
  refine xc_gen (fun g hg => ?_)
  have s0 := (hg 0).trans arg0
  have s1 := (hg 1).trans arg1
  have s2 := (hg 2).trans arg2
  have s3 := (hg 3).trans arg3
  clear hg
  refine xc_seq (fun K hK1 => ?_)
  refine xc_region ?_
  refine x_val (r_move s0) (nd_of rfl) rfl ?_
  refine x_val (r_move (en rfl s0)) (nd_of rfl) rfl ?_
  refine x_val (r_nilCheck es) (nd_of rfl) rfl ?_
  refine x_val (r_fieldAddr (o' := 4) Try.underlying83 rfl Try.sizeOf3 rfl es rfl) (nd_of rfl) rfl ?_
  refine x_val (r_load h 0 rfl Try.isAgg3 es gc4) (nd_of rfl) rfl ?_
  refine x_val (r_move (en rfl (en rfl (en rfl (en rfl (en rfl s1)))))) (nd_of rfl) rfl ?_
  refine x_enter (r_call Try.call40 (.cons (en rfl (en rfl (en rfl (en rfl (en rfl es))))) (.cons (en rfl es) (.cons es .nil)))) (nd_of rfl) rfl (split_t t (i := i) ht.has ht.nd hbt hpt (by omega) (by omega) h) ?_
  rintro _ w ⟨a, c, pl1, fr1, rfl, hs1, hx1, hx2, h⟩
  rw [hxs, ← eA] at hx1
  rw [hxs, ← eC] at hx2
  refine x_val (r_move es) (nd_of rfl) rfl ?_
  refine x_val (r_extract es gc0) (nd_of rfl) rfl ?_
  refine x_val (r_extract (en rfl es) gc1) (nd_of rfl) rfl ?_
  refine x_val (r_assign (en rfl es)) (nd_of rfl) rfl ?_
  refine x_val (r_assign (en rfl es)) (nd_of rfl) rfl ?_
  refine xw_nil ?_
  refine hK1 _ _ ?_
  refine xc_gen (fun g hg => ?_)
  have s0 := (hg 0).trans (en rfl (en rfl (en rfl (en rfl (en rfl (en rfl (en rfl (en rfl (en rfl (en rfl (en rfl (en rfl s0))))))))))))
  have s1 := (hg 1).trans (en rfl (en rfl (en rfl (en rfl (en rfl (en rfl (en rfl (en rfl (en rfl (en rfl (en rfl (en rfl s1))))))))))))
  have s2 := (hg 2).trans (en rfl (en rfl (en rfl (en rfl (en rfl (en rfl (en rfl (en rfl (en rfl (en rfl (en rfl (en rfl s2))))))))))))
  have s3 := (hg 3).trans (en rfl (en rfl (en rfl (en rfl (en rfl (en rfl (en rfl (en rfl (en rfl (en rfl (en rfl (en rfl s3))))))))))))
  have s8 := (hg 8).trans (en rfl es)
  have s9 := (hg 9).trans es
  clear hg
  refine xc_seq (fun K hK2 => ?_)
  refine xc_region ?_
  refine x_val (r_move s0) (nd_of rfl) rfl ?_
  refine x_val (r_move (en rfl s9)) (nd_of rfl) rfl ?_
  refine x_val (r_move (en rfl (en rfl s2))) (nd_of rfl) rfl ?_
  refine x_val (r_move (en rfl (en rfl (en rfl s1)))) (nd_of rfl) rfl ?_
  refine x_val (r_sub (en rfl es) es (show _ = (((j - i : Nat) : Int) : Int) from by omega) (by unfold I64; omega)) (nd_of rfl) rfl ?_
  have hbc : Bd c.xs := by rw [hx2]; exact Bd.of (by omega) (by omega)
  have hlen1 := hs1.len
  refine x_enter (r_call Try.call40 (.cons (en rfl (en rfl (en rfl (en rfl es)))) (.cons (en rfl (en rfl (en rfl es))) (.cons es .nil)))) (nd_of rfl) rfl (split_t c (i := j - i) hs1.hr (List.nodup_append.1 hs1.nd).2.1 hbc (by rw [hx2]; exact q5.2) (by omega) (by have := ht.live; omega) h) ?_
  rintro _ w ⟨gg, b, pl2, fr2, rfl, hs2, hx3, hx4, h⟩
  rw [hx2] at hx3
  rw [hx2, ← eB] at hx4
  have hlen2 := hs2.len
  have hlv1 := hs1.live
  have hlv0 := ht.live
  have hac : a.xs.length + c.xs.length ≤ t.xs.length + 1 := by rw [hx1, hx2, hxs]; omega
  refine x_val (r_move es) (nd_of rfl) rfl ?_
  refine x_val (r_extract es gc0) (nd_of rfl) rfl ?_
  refine x_val (r_extract (en rfl es) gc1) (nd_of rfl) rfl ?_
  refine x_val (r_assign (en rfl es)) (nd_of rfl) rfl ?_
  refine x_val (r_assign (en rfl es)) (nd_of rfl) rfl ?_
  refine xw_nil ?_
  refine hK2 _ _ ?_
  refine xc_gen (fun g hg => ?_)
  have s0 := (hg 0).trans (en rfl (en rfl (en rfl (en rfl (en rfl (en rfl (en rfl (en rfl (en rfl (en rfl (en rfl s0)))))))))))
  have s1 := (hg 1).trans (en rfl (en rfl (en rfl (en rfl (en rfl (en rfl (en rfl (en rfl (en rfl (en rfl (en rfl s1)))))))))))
  have s2 := (hg 2).trans (en rfl (en rfl (en rfl (en rfl (en rfl (en rfl (en rfl (en rfl (en rfl (en rfl (en rfl s2)))))))))))
  have s3 := (hg 3).trans (en rfl (en rfl (en rfl (en rfl (en rfl (en rfl (en rfl (en rfl (en rfl (en rfl (en rfl s3)))))))))))
  have s8 := (hg 8).trans (en rfl (en rfl (en rfl (en rfl (en rfl (en rfl (en rfl (en rfl (en rfl (en rfl (en rfl s8)))))))))))
  have s9 := (hg 9).trans (en rfl (en rfl (en rfl (en rfl (en rfl (en rfl (en rfl (en rfl (en rfl (en rfl (en rfl s9)))))))))))
  have s10 := (hg 10).trans (en rfl es)
  have s11 := (hg 11).trans es
  clear hg
  refine xc_seq (fun K hK3 => ?_)
  refine xc_region ?_
  refine x_val (r_move s0) (nd_of rfl) rfl ?_
  refine x_val (r_move (en rfl s10)) (nd_of rfl) rfl ?_
  refine x_enter (r_call Try.call41 (.cons (en rfl es) (.cons es .nil))) (nd_of rfl) rfl (drop_t gg hs2.hl (List.nodup_append.1 hs2.nd).1 (by rw [hxs] at hlv1 hac; omega) h) ?_
  rintro _ w ⟨pl3, fr3, hk3, hl3, hf3, h⟩
  refine xw_nil ?_
  refine hK3 _ _ ?_
  refine xc_gen (fun g hg => ?_)
  have s0 := (hg 0).trans (en rfl (en rfl (en rfl s0)))
  have s1 := (hg 1).trans (en rfl (en rfl (en rfl s1)))
  have s2 := (hg 2).trans (en rfl (en rfl (en rfl s2)))
  have s3 := (hg 3).trans (en rfl (en rfl (en rfl s3)))
  have s8 := (hg 8).trans (en rfl (en rfl (en rfl s8)))
  have s9 := (hg 9).trans (en rfl (en rfl (en rfl s9)))
  have s10 := (hg 10).trans (en rfl (en rfl (en rfl s10)))
  have s11 := (hg 11).trans (en rfl (en rfl (en rfl s11)))
  clear hg
  refine xc_seq (fun K hK4 => ?_)
  have hLp : Lp pl3 fr3 a b B' := Lp.start ht.has (by rw [hxs]; exact ht.live) (by omega) (by rw [hxs]; omega) hac hs1 hs2 hk3 hl3 hf3
  refine xc_region ?_
  refine x_val (r_assign ec) (nd_of rfl) rfl ?_
  refine xw_nil ?_
  refine hK4 _ _ ?_
  refine xc_gen (fun g hg => ?_)
  have s0 := (hg 0).trans (en rfl s0)
  have s1 := (hg 1).trans (en rfl s1)
  have s2 := (hg 2).trans (en rfl s2)
  have s3 := (hg 3).trans (en rfl s3)
  have s8 := (hg 8).trans (en rfl s8)
  have s9 := (hg 9).trans (en rfl s9)
  have s10 := (hg 10).trans (en rfl s10)
  have s11 := (hg 11).trans (en rfl s11)
  have s12 := (hg 12).trans es
  clear hg
  obtain ⟨G5, hG5⟩ : ∃ g0 : Nat → Value, g0 = g := ⟨_, rfl⟩
  have zG5_0 : G5 0 = _ := (congrFun hG5 0).trans s0
  have zG5_1 : G5 1 = _ := (congrFun hG5 1).trans s1
  have zG5_2 : G5 2 = _ := (congrFun hG5 2).trans s2
  have zG5_3 : G5 3 = _ := (congrFun hG5 3).trans s3
  have zG5_9 : G5 9 = _ := (congrFun hG5 9).trans s9
  have zG5_10 : G5 10 = _ := (congrFun hG5 10).trans s10
  have zG5_11 : G5 11 = _ := (congrFun hG5 11).trans s11
  refine xc_cut (fun f w => (∃ (a' : Tr) (pl : Pl) (fr : List Nat) (u : Value), f 8 = .int .i64 a'.root ∧ f 12 = u ∧ Lp pl fr a' b B' ∧ a'.xs = A1.dropLast ∧ SatL E w (XRow u A1.getLast?.toList :: TC bt ba t.root :: Ar ba pl fr :: R)) ∧ (f 0 = G5 0 ∧ f 1 = G5 1 ∧ f 2 = G5 2 ∧ f 3 = G5 3 ∧ f 9 = G5 9 ∧ f 10 = G5 10 ∧ f 11 = G5 11)) ?_ ?_
  ·
    skip
    obtain rfl | ⟨k, al, ax, ar, rfl⟩ : a = .nil ∨ ∃ k l x r, a = .node k l x r := by cases a with | nil => exact .inl rfl | node k l x r => exact .inr ⟨_, _, _, _, rfl⟩
    ·
      skip
      refine xc_seq (fun K hK6 => ?_)
      refine xc_region ?_
      refine x_val (r_move s8) (nd_of rfl) rfl ?_
      refine x_val (r_neq es ec (decide_eq_false (by (simp [Tr.root])))) (nd_of rfl) rfl ?_
      refine xw_nil ?_
      refine hK6 _ _ ?_
      refine xc_gen (fun g hg => ?_)
      have s0 := (hg 0).trans (en rfl (en rfl s0))
      have s1 := (hg 1).trans (en rfl (en rfl s1))
      have s2 := (hg 2).trans (en rfl (en rfl s2))
      have s3 := (hg 3).trans (en rfl (en rfl s3))
      have s8 := (hg 8).trans (en rfl (en rfl s8))
      have s9 := (hg 9).trans (en rfl (en rfl s9))
      have s10 := (hg 10).trans (en rfl (en rfl s10))
      have s11 := (hg 11).trans (en rfl (en rfl s11))
      have s12 := (hg 12).trans (en rfl (en rfl s12))
      have s42 := (hg 42).trans es
      clear hg
      refine xc_cond s42 (fun hc => by cases hc) (fun _ => ?_)
      refine xc_skip ?_
      exact ⟨⟨.nil, pl3, fr3, _, s8, s12, hLp, by rw [← hx1]; rfl, by rw [← hx1]; exact h.rowNil⟩, ⟨(s0).trans zG5_0.symm, (s1).trans zG5_1.symm, (s2).trans zG5_2.symm, (s3).trans zG5_3.symm, (s9).trans zG5_9.symm, (s10).trans zG5_10.symm, (s11).trans zG5_11.symm⟩⟩
    ·
      skip
      refine xc_seq (fun K hK7 => ?_)
      refine xc_region ?_
      refine x_val (r_move s8) (nd_of rfl) rfl ?_
      refine x_val (r_neq es ec (decide_eq_true (by (simp only [Tr.root]; omega)))) (nd_of rfl) rfl ?_
      refine xw_nil ?_
      refine hK7 _ _ ?_
      refine xc_gen (fun g hg => ?_)
      have s0 := (hg 0).trans (en rfl (en rfl s0))
      have s1 := (hg 1).trans (en rfl (en rfl s1))
      have s2 := (hg 2).trans (en rfl (en rfl s2))
      have s3 := (hg 3).trans (en rfl (en rfl s3))
      have s8 := (hg 8).trans (en rfl (en rfl s8))
      have s9 := (hg 9).trans (en rfl (en rfl s9))
      have s10 := (hg 10).trans (en rfl (en rfl s10))
      have s11 := (hg 11).trans (en rfl (en rfl s11))
      have s12 := (hg 12).trans (en rfl (en rfl s12))
      have s42 := (hg 42).trans es
      clear hg
      refine xc_cond s42 (fun _ => ?_) (fun hc => by cases hc)
      refine xc_seq (fun K hK8 => ?_)
      refine xc_region ?_
      refine x_val (r_move s0) (nd_of rfl) rfl ?_
      refine x_val (r_move (en rfl s8)) (nd_of rfl) rfl ?_
      refine x_enter (r_call Try.call42 (.cons (en rfl es) (.cons es .nil))) (nd_of rfl) rfl (last_t (.node k al ax ar) (by simp) hLp.ha (List.nodup_append.1 hLp.nd).1 (by rw [hx1]; exact Bd.of (by omega) (by omega)) h) ?_
      rintro _ w ⟨jj, y, a', pl4, rfl, he, hxs4, h⟩
      obtain ⟨hL4, hsl⟩ := hLp.pickL he hxs4
      have hoy := hsl.1.cells
      have hA1 : A1 = a'.xs ++ [y] := by rw [← hx1, hxs4]
      refine x_val (r_move es) (nd_of rfl) rfl ?_
      refine x_val (r_extract es gc0) (nd_of rfl) rfl ?_
      refine x_val (r_extract (en rfl es) gc1) (nd_of rfl) rfl ?_
      refine x_val (r_assign (en rfl es)) (nd_of rfl) rfl ?_
      refine x_val (r_assign (en rfl es)) (nd_of rfl) rfl ?_
      refine xw_nil ?_
      refine hK8 _ _ ?_
      refine xc_gen (fun g hg => ?_)
      have s0 := (hg 0).trans (en rfl (en rfl (en rfl (en rfl (en rfl (en rfl (en rfl (en rfl s0))))))))
      have s1 := (hg 1).trans (en rfl (en rfl (en rfl (en rfl (en rfl (en rfl (en rfl (en rfl s1))))))))
      have s2 := (hg 2).trans (en rfl (en rfl (en rfl (en rfl (en rfl (en rfl (en rfl (en rfl s2))))))))
      have s3 := (hg 3).trans (en rfl (en rfl (en rfl (en rfl (en rfl (en rfl (en rfl (en rfl s3))))))))
      have s8 := (hg 8).trans (en rfl (en rfl (en rfl (en rfl (en rfl (en rfl (en rfl (en rfl s8))))))))
      have s9 := (hg 9).trans (en rfl (en rfl (en rfl (en rfl (en rfl (en rfl (en rfl (en rfl s9))))))))
      have s10 := (hg 10).trans (en rfl (en rfl (en rfl (en rfl (en rfl (en rfl (en rfl (en rfl s10))))))))
      have s11 := (hg 11).trans (en rfl (en rfl (en rfl (en rfl (en rfl (en rfl (en rfl (en rfl s11))))))))
      have s12 := (hg 12).trans (en rfl (en rfl (en rfl (en rfl (en rfl (en rfl (en rfl (en rfl s12))))))))
      have s13 := (hg 13).trans (en rfl es)
      have s14 := (hg 14).trans es
      have s42 := (hg 42).trans (en rfl (en rfl (en rfl (en rfl (en rfl (en rfl (en rfl (en rfl s42))))))))
      clear hg
      refine xc_region ?_
      refine x_val (r_move s13) (nd_of rfl) rfl ?_
      refine x_val (r_move (en rfl s12)) (nd_of rfl) rfl ?_
      refine x_val (r_move (en rfl (en rfl s0))) (nd_of rfl) rfl ?_
      refine x_val (r_move (en rfl (en rfl (en rfl s14)))) (nd_of rfl) rfl ?_
      refine x_enter (r_call Try.call43 (.cons (en rfl es) (.cons es .nil))) (nd_of rfl) rfl (pick_t hsl (by have := he.len; have := hLp.len; omega) h) ?_
      rintro _ w ⟨rfl, h⟩
      have h := h.rowNil (e := 38) (sz := KX)
      refine x_bslice (c := xC y) h Try.underlying23 Try.sizeOf38 zX rfl rfl es (xV_cells hsl.1) hoy rfl ?_; intro bn w h; have h := h.f1
      refine x_append (bytes := 24) h Try.underlying23 (by kernel_rfl) (en rfl (en rfl (en rfl (en rfl es)))) es ((Nat.one_mul _).symm ▸ hoy) (by simp) (by simp) rfl ?_; intro u2 w h; have h := h.f1.drop
      refine x_val (r_assign (en rfl (en rfl (en rfl (en rfl (en rfl (en rfl es))))))) (nd_of rfl) rfl ?_
      refine x_val (r_assign (en rfl es)) (nd_of rfl) rfl ?_
      refine xw_nil ?_
      exact ⟨⟨a', _, _, u2, (en rfl es), es, hL4, by rw [hA1]; simp, (show SatL E w (Row _ KX u2 A1.getLast?.toList.length (flat A1.getLast?.toList) :: _) by rw [show A1.getLast?.toList = [y] by rw [hA1]; simp, xflat_one]; exact h)⟩, ⟨((en rfl (en rfl (en rfl (en rfl (en rfl (en rfl (en rfl (en rfl (en rfl s0)))))))))).trans zG5_0.symm, ((en rfl (en rfl (en rfl (en rfl (en rfl (en rfl (en rfl (en rfl (en rfl s1)))))))))).trans zG5_1.symm, ((en rfl (en rfl (en rfl (en rfl (en rfl (en rfl (en rfl (en rfl (en rfl s2)))))))))).trans zG5_2.symm, ((en rfl (en rfl (en rfl (en rfl (en rfl (en rfl (en rfl (en rfl (en rfl s3)))))))))).trans zG5_3.symm, ((en rfl (en rfl (en rfl (en rfl (en rfl (en rfl (en rfl (en rfl (en rfl s9)))))))))).trans zG5_9.symm, ((en rfl (en rfl (en rfl (en rfl (en rfl (en rfl (en rfl (en rfl (en rfl s10)))))))))).trans zG5_10.symm, ((en rfl (en rfl (en rfl (en rfl (en rfl (en rfl (en rfl (en rfl (en rfl s11)))))))))).trans zG5_11.symm⟩⟩
  ·
    rintro g w ⟨⟨a', pl, fr, u, s8, s12, hL1, hxa, h⟩, ⟨y0, y1, y2, y3, y9, y10, y11⟩⟩
    have s0 := y0.trans zG5_0
    have s1 := y1.trans zG5_1
    have s2 := y2.trans zG5_2
    have s3 := y3.trans zG5_3
    have s9 := y9.trans zG5_9
    have s10 := y10.trans zG5_10
    have s11 := y11.trans zG5_11
    refine xc_seq (fun K hK9 => ?_)
    clear hLp
    refine xc_region ?_
    refine x_val (r_move s12) (nd_of rfl) rfl ?_
    refine x_val (r_move (en rfl s3)) (nd_of rfl) rfl ?_
    refine x_append_rd (bytes := 24) (news := flat l) h Try.underlying23 (by kernel_rfl) (en rfl es) es (hrd _ h.drop.drop.drop) (flat_length hol) (flat_ones hol) (by omega) (by omega) rfl ?_; intro u3 w h; rw [← flat_app, ← List.length_append] at h
    refine x_val (r_assign es) (nd_of rfl) rfl ?_
    refine xw_nil ?_
    refine hK9 _ _ ?_
    refine xc_gen (fun g hg => ?_)
    have s0 := (hg 0).trans (en rfl (en rfl (en rfl (en rfl s0))))
    have s1 := (hg 1).trans (en rfl (en rfl (en rfl (en rfl s1))))
    have s2 := (hg 2).trans (en rfl (en rfl (en rfl (en rfl s2))))
    have s3 := (hg 3).trans (en rfl (en rfl (en rfl (en rfl s3))))
    have s8 := (hg 8).trans (en rfl (en rfl (en rfl (en rfl s8))))
    have s9 := (hg 9).trans (en rfl (en rfl (en rfl (en rfl s9))))
    have s10 := (hg 10).trans (en rfl (en rfl (en rfl (en rfl s10))))
    have s11 := (hg 11).trans (en rfl (en rfl (en rfl (en rfl s11))))
    have s12 := (hg 12).trans es
    clear hg
    obtain ⟨G10, hG10⟩ : ∃ g0 : Nat → Value, g0 = g := ⟨_, rfl⟩
    have zG10_0 : G10 0 = _ := (congrFun hG10 0).trans s0
    have zG10_1 : G10 1 = _ := (congrFun hG10 1).trans s1
    have zG10_2 : G10 2 = _ := (congrFun hG10 2).trans s2
    have zG10_3 : G10 3 = _ := (congrFun hG10 3).trans s3
    have zG10_8 : G10 8 = _ := (congrFun hG10 8).trans s8
    have zG10_9 : G10 9 = _ := (congrFun hG10 9).trans s9
    have zG10_10 : G10 10 = _ := (congrFun hG10 10).trans s10
    refine xc_cut (fun f w => (∃ (b' : Tr) (pl : Pl) (fr : List Nat) (u : Value), f 11 = .int .i64 b'.root ∧ f 12 = u ∧ Lp pl fr a' b' B' ∧ b'.xs = B1.tail ∧ SatL E w (XRow u (A1.getLast?.toList ++ l ++ B1.head?.toList) :: TC bt ba t.root :: Ar ba pl fr :: R)) ∧ (f 0 = G10 0 ∧ f 1 = G10 1 ∧ f 2 = G10 2 ∧ f 3 = G10 3 ∧ f 8 = G10 8 ∧ f 9 = G10 9 ∧ f 10 = G10 10)) ?_ ?_
    ·
      skip
      obtain rfl | ⟨k, al, ax, ar, rfl⟩ : b = .nil ∨ ∃ k l x r, b = .node k l x r := by cases b with | nil => exact .inl rfl | node k l x r => exact .inr ⟨_, _, _, _, rfl⟩
      ·
        skip
        refine xc_seq (fun K hK11 => ?_)
        refine xc_region ?_
        refine x_val (r_move s11) (nd_of rfl) rfl ?_
        refine x_val (r_neq es ec (decide_eq_false (by (simp [Tr.root])))) (nd_of rfl) rfl ?_
        refine xw_nil ?_
        refine hK11 _ _ ?_
        refine xc_gen (fun g hg => ?_)
        have s0 := (hg 0).trans (en rfl (en rfl s0))
        have s1 := (hg 1).trans (en rfl (en rfl s1))
        have s2 := (hg 2).trans (en rfl (en rfl s2))
        have s3 := (hg 3).trans (en rfl (en rfl s3))
        have s8 := (hg 8).trans (en rfl (en rfl s8))
        have s9 := (hg 9).trans (en rfl (en rfl s9))
        have s10 := (hg 10).trans (en rfl (en rfl s10))
        have s11 := (hg 11).trans (en rfl (en rfl s11))
        have s12 := (hg 12).trans (en rfl (en rfl s12))
        have s60 := (hg 60).trans es
        clear hg
        refine xc_cond s60 (fun hc => by cases hc) (fun _ => ?_)
        refine xc_skip ?_
        exact ⟨⟨.nil, pl, fr, _, s11, s12, hL1, by rw [← hx4]; rfl, by rw [← hx4]; exact (show SatL E w (XRow u3 (A1.getLast?.toList ++ l ++ []) :: _) by rw [List.append_nil]; exact h)⟩, ⟨(s0).trans zG10_0.symm, (s1).trans zG10_1.symm, (s2).trans zG10_2.symm, (s3).trans zG10_3.symm, (s8).trans zG10_8.symm, (s9).trans zG10_9.symm, (s10).trans zG10_10.symm⟩⟩
      ·
        skip
        refine xc_seq (fun K hK12 => ?_)
        refine xc_region ?_
        refine x_val (r_move s11) (nd_of rfl) rfl ?_
        refine x_val (r_neq es ec (decide_eq_true (by (simp only [Tr.root]; omega)))) (nd_of rfl) rfl ?_
        refine xw_nil ?_
        refine hK12 _ _ ?_
        refine xc_gen (fun g hg => ?_)
        have s0 := (hg 0).trans (en rfl (en rfl s0))
        have s1 := (hg 1).trans (en rfl (en rfl s1))
        have s2 := (hg 2).trans (en rfl (en rfl s2))
        have s3 := (hg 3).trans (en rfl (en rfl s3))
        have s8 := (hg 8).trans (en rfl (en rfl s8))
        have s9 := (hg 9).trans (en rfl (en rfl s9))
        have s10 := (hg 10).trans (en rfl (en rfl s10))
        have s11 := (hg 11).trans (en rfl (en rfl s11))
        have s12 := (hg 12).trans (en rfl (en rfl s12))
        have s60 := (hg 60).trans es
        clear hg
        refine xc_cond s60 (fun _ => ?_) (fun hc => by cases hc)
        refine xc_seq (fun K hK13 => ?_)
        have h := h.f2
        have h := h.f2
        refine xc_region ?_
        refine x_val (r_move s0) (nd_of rfl) rfl ?_
        refine x_val (r_move (en rfl s11)) (nd_of rfl) rfl ?_
        refine x_enter (r_call Try.call44 (.cons (en rfl es) (.cons es .nil))) (nd_of rfl) rfl (first_t (.node k al ax ar) (by simp) hL1.hb (List.nodup_append.1 hL1.nd).2.1 (by rw [hx4]; exact Bd.of (by omega) (by omega)) h) ?_
        rintro _ w ⟨jj, y, b', pl4, rfl, he, hxs4, h⟩
        obtain ⟨hL4, hsl⟩ := hL1.pickR he hxs4
        have hoy := hsl.1.cells
        have hB1 : B1 = y :: b'.xs := by rw [← hx4, hxs4]
        refine x_val (r_move es) (nd_of rfl) rfl ?_
        refine x_val (r_extract es gc0) (nd_of rfl) rfl ?_
        refine x_val (r_extract (en rfl es) gc1) (nd_of rfl) rfl ?_
        refine x_val (r_assign (en rfl es)) (nd_of rfl) rfl ?_
        refine x_val (r_assign (en rfl es)) (nd_of rfl) rfl ?_
        refine xw_nil ?_
        refine hK13 _ _ ?_
        refine xc_gen (fun g hg => ?_)
        have s0 := (hg 0).trans (en rfl (en rfl (en rfl (en rfl (en rfl (en rfl (en rfl (en rfl s0))))))))
        have s1 := (hg 1).trans (en rfl (en rfl (en rfl (en rfl (en rfl (en rfl (en rfl (en rfl s1))))))))
        have s2 := (hg 2).trans (en rfl (en rfl (en rfl (en rfl (en rfl (en rfl (en rfl (en rfl s2))))))))
        have s3 := (hg 3).trans (en rfl (en rfl (en rfl (en rfl (en rfl (en rfl (en rfl (en rfl s3))))))))
        have s8 := (hg 8).trans (en rfl (en rfl (en rfl (en rfl (en rfl (en rfl (en rfl (en rfl s8))))))))
        have s9 := (hg 9).trans (en rfl (en rfl (en rfl (en rfl (en rfl (en rfl (en rfl (en rfl s9))))))))
        have s10 := (hg 10).trans (en rfl (en rfl (en rfl (en rfl (en rfl (en rfl (en rfl (en rfl s10))))))))
        have s11 := (hg 11).trans (en rfl (en rfl (en rfl (en rfl (en rfl (en rfl (en rfl (en rfl s11))))))))
        have s12 := (hg 12).trans (en rfl (en rfl (en rfl (en rfl (en rfl (en rfl (en rfl (en rfl s12))))))))
        have s15 := (hg 15).trans (en rfl es)
        have s16 := (hg 16).trans es
        have s60 := (hg 60).trans (en rfl (en rfl (en rfl (en rfl (en rfl (en rfl (en rfl (en rfl s60))))))))
        clear hg
        refine xc_region ?_
        refine x_val (r_move s15) (nd_of rfl) rfl ?_
        refine x_val (r_move (en rfl s12)) (nd_of rfl) rfl ?_
        refine x_val (r_move (en rfl (en rfl s0))) (nd_of rfl) rfl ?_
        refine x_val (r_move (en rfl (en rfl (en rfl s16)))) (nd_of rfl) rfl ?_
        refine x_enter (r_call Try.call43 (.cons (en rfl es) (.cons es .nil))) (nd_of rfl) rfl (pick_t hsl (by have := he.len; have := hL1.len; omega) h) ?_
        rintro _ w ⟨rfl, h⟩
        have h := h.f1
        have h := h.f1
        have h := h.f2
        refine x_bslice (c := xC y) h Try.underlying23 Try.sizeOf38 zX rfl rfl es (xV_cells hsl.1) hoy rfl ?_; intro bn w h; have h := h.f1
        refine x_append (bytes := 24) h Try.underlying23 (by kernel_rfl) (en rfl (en rfl (en rfl (en rfl es)))) es ((Nat.one_mul _).symm ▸ hoy) (by simp only [List.length_append]; omega) (by simp only [List.length_append]; omega) rfl ?_; intro u2 w h; have h := h.f1.drop; rw [← xflat_one, ← flat_app] at h
        refine x_val (r_assign (en rfl (en rfl (en rfl (en rfl (en rfl (en rfl es))))))) (nd_of rfl) rfl ?_
        refine x_val (r_assign (en rfl es)) (nd_of rfl) rfl ?_
        refine xw_nil ?_
        exact ⟨⟨b', _, _, u2, (en rfl es), es, hL4, by rw [hB1]; rfl, by rw [show B1.head?.toList = [y] by rw [hB1]; rfl, XRow, List.length_append (bs := [y])]; exact h⟩, ⟨((en rfl (en rfl (en rfl (en rfl (en rfl (en rfl (en rfl (en rfl (en rfl s0)))))))))).trans zG10_0.symm, ((en rfl (en rfl (en rfl (en rfl (en rfl (en rfl (en rfl (en rfl (en rfl s1)))))))))).trans zG10_1.symm, ((en rfl (en rfl (en rfl (en rfl (en rfl (en rfl (en rfl (en rfl (en rfl s2)))))))))).trans zG10_2.symm, ((en rfl (en rfl (en rfl (en rfl (en rfl (en rfl (en rfl (en rfl (en rfl s3)))))))))).trans zG10_3.symm, ((en rfl (en rfl (en rfl (en rfl (en rfl (en rfl (en rfl (en rfl (en rfl s8)))))))))).trans zG10_8.symm, ((en rfl (en rfl (en rfl (en rfl (en rfl (en rfl (en rfl (en rfl (en rfl s9)))))))))).trans zG10_9.symm, ((en rfl (en rfl (en rfl (en rfl (en rfl (en rfl (en rfl (en rfl (en rfl s10)))))))))).trans zG10_10.symm⟩⟩
    ·
      rintro g w ⟨⟨b', pl4, fr4, u, s11, s12, hL2, hxb, h⟩, ⟨y0, y1, y2, y3, y8, y9, y10⟩⟩
      have s0 := y0.trans zG10_0
      have s1 := y1.trans zG10_1
      have s2 := y2.trans zG10_2
      have s3 := y3.trans zG10_3
      have s8 := y8.trans zG10_8
      have s9 := y9.trans zG10_9
      have s10 := y10.trans zG10_10
      refine xc_seq (fun K hK14 => ?_)
      refine xc_seq (fun K hK15 => ?_)
      refine xc_region ?_
      refine x_val (r_move s0) (nd_of rfl) rfl ?_
      refine x_val (r_move (en rfl s12)) (nd_of rfl) rfl ?_
      have h := h.f1
      refine x_enter (r_call Try.call45 (.cons (en rfl es) (.cons es .nil))) (nd_of rfl) rfl (melded_t hoall (Bd.of (by simp only [List.length_append]; omega) sall) h) ?_
      rintro _ w h
      obtain ⟨ML, eML⟩ : ∃ ML, ML = meldL (A1.getLast?.toList ++ l ++ B1.head?.toList) := ⟨_, rfl⟩
      rw [← eML] at h hmd hmz hml qr
      obtain ⟨am, cm, rfl, _, _⟩ := h.rowVal
      have hdl : A1.dropLast.length ≤ A1.length := by simp
      have htl : B1.tail.length ≤ B1.length := by simp
      have hdl1 : A1.dropLast.length + A1.getLast?.toList.length = A1.length := by rcases nil_or_snoc A1 with e | ⟨o, y, e⟩ <;> rw [e] <;> simp
      have htl1 : B1.head?.toList.length + B1.tail.length = B1.length := by cases B1 <;> simp; omega
      have hlv : A1.length + B1.length ≤ xs.length + 2 := by omega
      clear eML
      have h := h.f2
      have h := h.f3
      have h := h.f3
      have h := h.f3
      refine x_val (r_len Try.underlying23 es) (nd_of rfl) rfl ?_
      refine x_val (r_move ec) (nd_of rfl) rfl ?_
      refine xw_nil ?_
      refine hK15 _ _ ?_
      refine xc_gen (fun g hg => ?_)
      have s0 := (hg 0).trans (en rfl (en rfl (en rfl (en rfl (en rfl s0)))))
      have s1 := (hg 1).trans (en rfl (en rfl (en rfl (en rfl (en rfl s1)))))
      have s2 := (hg 2).trans (en rfl (en rfl (en rfl (en rfl (en rfl s2)))))
      have s3 := (hg 3).trans (en rfl (en rfl (en rfl (en rfl (en rfl s3)))))
      have s8 := (hg 8).trans (en rfl (en rfl (en rfl (en rfl (en rfl s8)))))
      have s9 := (hg 9).trans (en rfl (en rfl (en rfl (en rfl (en rfl s9)))))
      have s10 := (hg 10).trans (en rfl (en rfl (en rfl (en rfl (en rfl s10)))))
      have s11 := (hg 11).trans (en rfl (en rfl (en rfl (en rfl (en rfl s11)))))
      have s12 := (hg 12).trans (en rfl (en rfl (en rfl (en rfl (en rfl s12)))))
      have s76 := (hg 76).trans (en rfl (en rfl es))
      have s77 := (hg 77).trans (en rfl es)
      have s78 := (hg 78).trans es
      clear hg
      refine xc_block ?_
      obtain ⟨G16, hG16⟩ : ∃ g0 : Nat → Value, g0 = g := ⟨_, rfl⟩
      have zG16_0 : G16 0 = _ := (congrFun hG16 0).trans s0
      have zG16_1 : G16 1 = _ := (congrFun hG16 1).trans s1
      have zG16_2 : G16 2 = _ := (congrFun hG16 2).trans s2
      have zG16_3 : G16 3 = _ := (congrFun hG16 3).trans s3
      have zG16_9 : G16 9 = _ := (congrFun hG16 9).trans s9
      have zG16_10 : G16 10 = _ := (congrFun hG16 10).trans s10
      have zG16_11 : G16 11 = _ := (congrFun hG16 11).trans s11
      have zG16_12 : G16 12 = _ := (congrFun hG16 12).trans s12
      have zG16_76 : G16 76 = _ := (congrFun hG16 76).trans s76
      have zG16_77 : G16 77 = _ := (congrFun hG16 77).trans s77
      refine xc_loop (fun m f w => (∃ (k : Nat) (pl : Pl) (fr : List Nat) (ta : Tr), m = ML.length - k ∧ k ≤ ML.length ∧ f 78 = .int .i64 (k : Int) ∧ f 8 = .int .i64 ta.root ∧ Lp pl fr ta b' B' ∧ ta.xs = A1.dropLast ++ ML.take k ∧ SatL E w (XRow (.slice am ML.length cm) ML :: TC bt ba t.root :: Ar ba pl fr :: XRow u (A1.getLast?.toList ++ l ++ B1.head?.toList) :: R)) ∧ (f 0 = G16 0 ∧ f 1 = G16 1 ∧ f 2 = G16 2 ∧ f 3 = G16 3 ∧ f 9 = G16 9 ∧ f 10 = G16 10 ∧ f 11 = G16 11 ∧ f 12 = G16 12 ∧ f 76 = G16 76 ∧ f 77 = G16 77)) (ML.length) ⟨⟨0, pl4, fr4, a', by omega, by omega, s78, s8, hL2, by simpa using hxa, h⟩, ⟨congrFun hG16.symm 0, congrFun hG16.symm 1, congrFun hG16.symm 2, congrFun hG16.symm 3, congrFun hG16.symm 9, congrFun hG16.symm 10, congrFun hG16.symm 11, congrFun hG16.symm 12, congrFun hG16.symm 76, congrFun hG16.symm 77⟩⟩ ?_
      rintro m g w ⟨⟨k, pl5, fr5, ta, hm, hk, s78, s8, hL3, hxt, h⟩, ⟨y0, y1, y2, y3, y9, y10, y11, y12, y76, y77⟩⟩
      have s0 := y0.trans zG16_0
      have s1 := y1.trans zG16_1
      have s2 := y2.trans zG16_2
      have s3 := y3.trans zG16_3
      have s9 := y9.trans zG16_9
      have s10 := y10.trans zG16_10
      have s11 := y11.trans zG16_11
      have s12 := y12.trans zG16_12
      have s76 := y76.trans zG16_76
      have s77 := y77.trans zG16_77
      refine xc_seq (fun K hK17 => ?_)
      refine xc_region ?_
      refine x_val (r_lss s78 s77 rfl) (nd_of rfl) rfl ?_
      refine xw_nil ?_
      refine hK17 _ _ ?_
      refine xc_gen (fun g hg => ?_)
      have s0 := (hg 0).trans (en rfl s0)
      have s1 := (hg 1).trans (en rfl s1)
      have s2 := (hg 2).trans (en rfl s2)
      have s3 := (hg 3).trans (en rfl s3)
      have s8 := (hg 8).trans (en rfl s8)
      have s9 := (hg 9).trans (en rfl s9)
      have s10 := (hg 10).trans (en rfl s10)
      have s11 := (hg 11).trans (en rfl s11)
      have s12 := (hg 12).trans (en rfl s12)
      have s76 := (hg 76).trans (en rfl s76)
      have s77 := (hg 77).trans (en rfl s77)
      have s78 := (hg 78).trans (en rfl s78)
      have s79 := (hg 79).trans es
      clear hg
      refine xc_seq (fun K hK18 => ?_)
      refine xc_cond s79 (fun hc => ?_) (fun hc => ?_)
      ·
        refine xc_skip ?_
        refine hK18 _ _ ?_
        refine xc_seq (fun K hK19 => ?_)
        refine xc_block ?_
        refine xc_seq (fun K hK20 => ?_)
        have hi : k < ML.length := by have := of_decide_eq_true hc; omega
        obtain ⟨x, hx⟩ : ∃ x, ML[k]? = some x := ⟨_, List.getElem?_eq_getElem hi⟩
        have hxo2 := hmd.ok x (List.mem_of_getElem? hx)
        have hox := hxo2.cells
        have htk : ML.take (k + 1) = ML.take k ++ [x] := by rw [List.take_add_one, hx]; rfl
        have hlk : (ML.take (k + 1)).length = k + 1 := by rw [List.length_take]; omega
        have hsk := sz_take ML (k + 1)
        have hbj : Bd (ta.xs ++ x :: []) := by rw [hxt, List.append_assoc, ← htk]; refine Bd.of ?_ ?_; rw [List.length_append, hlk]; omega; rw [sz_app]; omega
        have hlta : ta.xs.length = A1.dropLast.length + k := by rw [hxt, List.length_append, List.length_take]; omega
        have hltb : b'.xs.length = B1.tail.length := by rw [hxb]
        obtain ⟨gm, cm2, curm, hrm, hh⟩ := h.openRow (by omega)
        have hvm := hrm.val
        simp only [Value.slice.injEq] at hvm
        obtain ⟨ham, _, _⟩ := hvm
        have hth := hrm.thing hmd.ok hx
        have h := hh
        refine xc_region ?_
        refine x_val (r_indexAddrN Try.underlying23 Try.sizeOf38 (s76 |>.trans (by rw [ham])) s78 hi) (nd_of rfl) rfl ?_
        refine x_val (r_load h 0 rfl Try.isAgg38 es (one_thing hth)) (nd_of rfl) rfl ?_
        refine x_val (r_assign es) (nd_of rfl) rfl ?_
        refine xw_nil ?_
        refine hK20 _ _ ?_
        refine xc_gen (fun g hg => ?_)
        have s0 := (hg 0).trans (en rfl (en rfl (en rfl s0)))
        have s1 := (hg 1).trans (en rfl (en rfl (en rfl s1)))
        have s2 := (hg 2).trans (en rfl (en rfl (en rfl s2)))
        have s3 := (hg 3).trans (en rfl (en rfl (en rfl s3)))
        have s8 := (hg 8).trans (en rfl (en rfl (en rfl s8)))
        have s9 := (hg 9).trans (en rfl (en rfl (en rfl s9)))
        have s10 := (hg 10).trans (en rfl (en rfl (en rfl s10)))
        have s11 := (hg 11).trans (en rfl (en rfl (en rfl s11)))
        have s12 := (hg 12).trans (en rfl (en rfl (en rfl s12)))
        have s18 := (hg 18).trans es
        have s76 := (hg 76).trans (en rfl (en rfl (en rfl s76)))
        have s77 := (hg 77).trans (en rfl (en rfl (en rfl s77)))
        have s78 := (hg 78).trans (en rfl (en rfl (en rfl s78)))
        have s79 := (hg 79).trans (en rfl (en rfl (en rfl s79)))
        clear hg
        have h := h.closeRow hrm
        refine xc_region ?_
        refine x_val (r_move s0) (nd_of rfl) rfl ?_
        refine x_val (r_move (en rfl s8)) (nd_of rfl) rfl ?_
        refine x_val (r_move (en rfl (en rfl s0))) (nd_of rfl) rfl ?_
        refine x_val (r_nilCheck es) (nd_of rfl) rfl ?_
        refine x_val (r_fieldAddr (o' := 3) Try.underlying83 rfl Try.sizeOf81 rfl es rfl) (nd_of rfl) rfl ?_
        refine x_val (r_load h 1 rfl Try.isAgg81 es gc3) (nd_of rfl) rfl ?_
        refine x_val (r_move (en rfl (en rfl (en rfl (en rfl (en rfl (en rfl s18))))))) (nd_of rfl) rfl ?_
        refine x_val (r_bnode Try.underlying90 zN_eq zN_ok.size zN_drop Try.sizeOf38 Try.sizeOf3 Try.sizeOf3 Try.sizeOf3 Try.sizeOf3 Try.sizeOf3 rfl es (xV_cells hxo2) hox) (nd_of rfl) rfl ?_
        have h := h.f2
        refine x_enter (r_call Try.call47 (.cons (en rfl (en rfl es)) (.cons es .nil))) (nd_of rfl) rfl (take_t (c := ndC (xC x) 0 0 0 0 0) (Ok.node hox) (by have := hL3.len; omega) h) ?_
        rintro _ w ⟨jj, pl6, fr6, rfl, htk2, h⟩
        obtain ⟨hj2, hkk⟩ := hL3.put hxo2 htk2 (by omega) hbj
        have h := h.f2
        refine x_enter (r_call Try.call46 (.cons (en rfl (en rfl (en rfl (en rfl (en rfl (en rfl (en rfl (en rfl es)))))))) (.cons (en rfl (en rfl (en rfl (en rfl (en rfl (en rfl (en rfl es))))))) (.cons es (.cons ec .nil))))) (nd_of rfl) rfl (join_t (l := ta) (r := .nil) hj2 h) ?_
        rintro _ w ⟨t2, pl7, rfl, hc2, h⟩
        refine x_val (r_assign es) (nd_of rfl) rfl ?_
        refine xw_nil ?_
        refine hK19 _ _ ?_
        refine xc_gen (fun g hg => ?_)
        have s0 := (hg 0).trans (en rfl (en rfl (en rfl (en rfl (en rfl (en rfl (en rfl (en rfl (en rfl (en rfl (en rfl s0)))))))))))
        have s1 := (hg 1).trans (en rfl (en rfl (en rfl (en rfl (en rfl (en rfl (en rfl (en rfl (en rfl (en rfl (en rfl s1)))))))))))
        have s2 := (hg 2).trans (en rfl (en rfl (en rfl (en rfl (en rfl (en rfl (en rfl (en rfl (en rfl (en rfl (en rfl s2)))))))))))
        have s3 := (hg 3).trans (en rfl (en rfl (en rfl (en rfl (en rfl (en rfl (en rfl (en rfl (en rfl (en rfl (en rfl s3)))))))))))
        have s8 := (hg 8).trans es
        have s9 := (hg 9).trans (en rfl (en rfl (en rfl (en rfl (en rfl (en rfl (en rfl (en rfl (en rfl (en rfl (en rfl s9)))))))))))
        have s10 := (hg 10).trans (en rfl (en rfl (en rfl (en rfl (en rfl (en rfl (en rfl (en rfl (en rfl (en rfl (en rfl s10)))))))))))
        have s11 := (hg 11).trans (en rfl (en rfl (en rfl (en rfl (en rfl (en rfl (en rfl (en rfl (en rfl (en rfl (en rfl s11)))))))))))
        have s12 := (hg 12).trans (en rfl (en rfl (en rfl (en rfl (en rfl (en rfl (en rfl (en rfl (en rfl (en rfl (en rfl s12)))))))))))
        have s18 := (hg 18).trans (en rfl (en rfl (en rfl (en rfl (en rfl (en rfl (en rfl (en rfl (en rfl (en rfl (en rfl s18)))))))))))
        have s76 := (hg 76).trans (en rfl (en rfl (en rfl (en rfl (en rfl (en rfl (en rfl (en rfl (en rfl (en rfl (en rfl s76)))))))))))
        have s77 := (hg 77).trans (en rfl (en rfl (en rfl (en rfl (en rfl (en rfl (en rfl (en rfl (en rfl (en rfl (en rfl s77)))))))))))
        have s78 := (hg 78).trans (en rfl (en rfl (en rfl (en rfl (en rfl (en rfl (en rfl (en rfl (en rfl (en rfl (en rfl s78)))))))))))
        have s79 := (hg 79).trans (en rfl (en rfl (en rfl (en rfl (en rfl (en rfl (en rfl (en rfl (en rfl (en rfl (en rfl s79)))))))))))
        clear hg
        refine xc_region ?_
        refine x_val (r_add s78 ec (show _ = (((k + 1 : Nat) : Int) : Int) from by omega) (by unfold I64; omega)) (nd_of rfl) rfl ?_
        refine x_val (r_move es) (nd_of rfl) rfl ?_
        refine xw_nil ?_
        have h := h.f3
        have h := h.f2
        have h := h.f2
        have h := h.f3
        exact ⟨ML.length - (k + 1), by omega, ⟨k + 1, pl7, fr6, t2, rfl, by omega, es, (en rfl (en rfl s8)), hkk hc2, by rw [hc2.xs, hxt, htk, List.append_assoc]; rfl, h⟩, ⟨((en rfl (en rfl s0))).trans zG16_0.symm, ((en rfl (en rfl s1))).trans zG16_1.symm, ((en rfl (en rfl s2))).trans zG16_2.symm, ((en rfl (en rfl s3))).trans zG16_3.symm, ((en rfl (en rfl s9))).trans zG16_9.symm, ((en rfl (en rfl s10))).trans zG16_10.symm, ((en rfl (en rfl s11))).trans zG16_11.symm, ((en rfl (en rfl s12))).trans zG16_12.symm, ((en rfl (en rfl s76))).trans zG16_76.symm, ((en rfl (en rfl s77))).trans zG16_77.symm⟩⟩
      ·
        refine xc_exit ?_
        refine hK14 _ _ ?_
        have hke : k = ML.length := by have := of_decide_eq_false hc; omega
        rw [hke, List.take_length] at hxt
        have hxx : ta.xs ++ b'.xs = replL xs i j l := by rw [hxt, hxb, qr, List.append_assoc]
        have hlr : (replL xs i j l).length = A1.dropLast.length + (ML.length + B1.tail.length) := by rw [qr, List.length_append, List.length_append]
        have hbr : Bd (replL xs i j l) := Bd.of (by rw [hlr]; omega) (by rw [qr, sz_app, sz_app]; omega)
        refine xc_region ?_
        refine x_val (r_move s0) (nd_of rfl) rfl ?_
        refine x_val (r_move (en rfl s0)) (nd_of rfl) rfl ?_
        refine x_val (r_move (en rfl (en rfl s8))) (nd_of rfl) rfl ?_
        refine x_val (r_move (en rfl (en rfl (en rfl s11)))) (nd_of rfl) rfl ?_
        have h := h.f2
        have h := h.f2
        refine x_enter (r_call Try.call48 (.cons (en rfl (en rfl es)) (.cons (en rfl es) (.cons es .nil)))) (nd_of rfl) rfl (concat_t (l := ta) (r := b') hL3.ha hL3.hb hL3.nd (by rw [hxx]; exact hbr) h) ?_
        rintro _ w ⟨t2, pl7, rfl, hc2, h⟩
        have hpr : Ps (replL xs i j l) := by rw [qr]; intro x hx; rcases List.mem_append.1 hx with h1 | h1; exact q5.1 x (List.dropLast_subset _ h1); rcases List.mem_append.1 h1 with h2 | h2; exact hmd.ps x h2; exact q8.2 x (List.mem_of_mem_tail h2)
        have hfin : TrB pl7 fr5 t2 (replL xs i j l) B' := ⟨hc2.has, hc2.idx.nodup_iff.2 hL3.nd, by rw [hc2.xs, hxx], hpr, by have e1 := hL3.live; have e2 := hc2.len; rw [hlr]; rw [hxt, hxb, List.length_append] at e1; omega, by have e1 := hL3.len; have e2 := hc2.len; omega, hbr⟩
        refine x_val (r_nilCheck (en rfl (en rfl (en rfl (en rfl es))))) (nd_of rfl) rfl ?_
        refine x_val (r_fieldAddr (o' := 4) Try.underlying83 rfl Try.sizeOf3 rfl es rfl) (nd_of rfl) rfl ?_
        refine x_st (r_store h 0 rfl Try.sizeOf3 es (en rfl (en rfl es)) rfl gc4) rfl (h.u0 sc4) ?_
        intro w h
        refine xw_nil ?_
        refine bodyR_0 rfl ?_
        have h := h.f3
        have h := h.f3
        have h := h.f3
        have h := h.f3
        exact SatL.closeTree hfin ((h.f2.drop).f2.drop)
end
end Go.Proofs.Ytonnijghdlakfaa
