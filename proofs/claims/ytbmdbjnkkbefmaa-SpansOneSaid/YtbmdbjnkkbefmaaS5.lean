/-
Spans: Map; the known case.
-/
import Derived.Test.YtbmdbjnkkbefmaaS4
namespace Go.Proofs.Ytbmdbjnkkbefmaa
open Go Go.RowKit
def toR (x : X) : RS := ((x.1 : Int), x.2)
abbrev RRow (v : Value) (ps : List RS) : SProp := Row 34 2 v ps.length (rflat ps)
theorem flat_toR : ∀ l : List X, flat l = rflat (l.map toR)
  | [] => rfl
  | x :: l => by
    have ih := flat_toR l
    simp only [flat, rflat, List.map_cons, List.flatMap_cons] at ih ⊢
    rw [ih]; rfl
theorem rflat_get {ps : List RS} {k : Nat} {p : RS} (h : ps[k]? = some p) (j : Nat) (hj : j < 2) : (rflat ps)[k * 2 + j]? = (rawC p)[j]? := flat_get rawC 2 ps (fun _ _ => rfl) k j p h hj
theorem rflat_set : ∀ {ps : List RS} {k : Nat} {p : RS} {y : Int}, ps[k]? = some p → (rflat ps).set (k * 2 + 1) (.int .i64 y) = rflat (ps.set k (p.1, y))
  | [], k, p, y, h => by simp at h
  | q :: ps, 0, p, y, h => by simp at h; subst h; rfl
  | q :: ps, k + 1, p, y, h => by
    have ih := rflat_set (ps := ps) (k := k) (p := p) (y := y) (by simpa using h)
    simp only [rflat, List.flatMap_cons, List.set_cons_succ] at ih ⊢
    rw [← ih, show (k + 1) * 2 + 1 = k * 2 + 1 + 2 by omega]
    rfl
theorem rslc_row {E : Env} {R : List SProp} {v : Value} {l : List RS} {w0 : World} (h0 : SatL E w0 (RRow v l :: R)) : RSlc E (RRow v l :: R) v l := by
  obtain ⟨a, cap, rfl, _, _⟩ := h0.rowVal
  refine ⟨a, cap, rfl, fun w h k p hp => ?_⟩
  have hlt := (List.getElem?_eq_some_iff.1 hp).1
  obtain ⟨g, cp, cur, hr, h2⟩ := h.openRow (by omega)
  have hv := hr.val
  simp only [Value.slice.injEq] at hv
  refine ⟨⟨g, 0, none⟩, hv.1, fun j u hj => ?_⟩
  rw [add_pt, add_pt, Nat.zero_add]
  have hj2 : j < 2 := by have := (List.getElem?_eq_some_iff.1 hj).1; simpa [rawC] using this
  exact h2.cell 0 rfl (hr.get (by rw [rflat_get hp j hj2]; exact hj))
/-- a number's span, mapped -/
def mapR (g : Int → Int) (p : RS) : RS := (p.1, g p.2)
/-- the first k mapped -/
def mapK (g : Int → Int) (l : List RS) (k : Nat) : List RS := (l.take k).map (mapR g) ++ l.drop k
theorem mapK_len {g : Int → Int} {l : List RS} {k : Nat} : (mapK g l k).length = l.length := by simp [mapK]; omega
theorem mapK_get {g : Int → Int} {l : List RS} {k : Nat} {p : RS} (h : l[k]? = some p) : (mapK g l k)[k]? = some p := by
  have hlt := (List.getElem?_eq_some_iff.1 h).1
  unfold mapK
  rw [List.getElem?_append_right (by simp; omega)]
  simp only [List.length_map, List.length_take, List.getElem?_drop]
  rw [show k + (k - min k l.length) = k by omega, h]
theorem mapK_step {g : Int → Int} {l : List RS} {k : Nat} {p : RS} (h : l[k]? = some p) : (mapK g l k).set k (p.1, g p.2) = mapK g l (k + 1) := by
  have hlt := (List.getElem?_eq_some_iff.1 h).1
  unfold mapK
  rw [List.set_append_right _ _ (by simp; omega), List.take_add_one, h, List.drop_eq_getElem_cons hlt]
  have e : k - ((l.take k).map (mapR g)).length = 0 := by simp; omega
  rw [e]
  simp [mapR, (List.getElem?_eq_some_iff.1 h).2]
section
variable {E : Env} {R : List SProp} {w : World} {b bt ba B B' c : Nat} {xs l : List X} {v fv : Value} {gg : Int → Int}
/-- the spans that Map hands to Splice -/
def mapPs (g : Int → Int) (xs : List X) (i j : Int) : List RS := ((overL xs i.toNat j.toNat).map toR).map (mapR g)
theorem map_no {i j : Int} (hp : ¬ isPart (sz xs) i j) (h : SatL E w (ObjO b xs B :: R)) : Calls Try.prog 17 #[pT b, .int .i64 i, .int .i64 j, fv] w (Ret fun u w' => u = .int .i64 5 ∧ SatL E w' (ObjO b xs B :: R)) := by
  refine calls_x Try.func17 rfl Try.ntmps17 rfl ?_
  refine xc_gen (fun g hg => ?_)
  have s0 := (hg 0).trans arg0
  have s1 := (hg 1).trans arg1
  have s2 := (hg 2).trans arg2
  have s3 := (hg 3).trans arg3
  clear hg
  refine xc_seq (fun K hK1 => ?_)
  refine xc_region ?_
  refine x_val (r_assign ec) (nd_of rfl) rfl ?_
  refine xw_nil ?_
  refine hK1 _ _ ?_
  refine xc_gen (fun g hg => ?_)
  have s0 := (hg 0).trans (en rfl s0)
  have s1 := (hg 1).trans (en rfl s1)
  have s2 := (hg 2).trans (en rfl s2)
  have s3 := (hg 3).trans (en rfl s3)
  have s8 := (hg 8).trans es
  clear hg
  refine xc_seq (fun K hK2 => ?_)
  refine xc_region ?_
  refine x_val (r_move s0) (nd_of rfl) rfl ?_
  refine x_val (r_move (en rfl s1)) (nd_of rfl) rfl ?_
  refine x_val (r_move (en rfl (en rfl s2))) (nd_of rfl) rfl ?_
  refine x_enter (r_call Try.call11 (.cons (en rfl (en rfl es)) (.cons (en rfl es) (.cons es .nil)))) (nd_of rfl) rfl (over_no hp h) ?_
  rintro _ w ⟨rfl, h⟩
  refine x_val (r_move es) (nd_of rfl) rfl ?_
  refine x_val (r_extract es gc0) (nd_of rfl) rfl ?_
  refine x_val (r_extract (en rfl es) gc1) (nd_of rfl) rfl ?_
  refine x_val (r_assign (en rfl es)) (nd_of rfl) rfl ?_
  refine x_val (r_assign (en rfl es)) (nd_of rfl) rfl ?_
  refine xw_nil ?_
  refine hK2 _ _ ?_
  refine xc_gen (fun g hg => ?_)
  have s0 := (hg 0).trans (en rfl (en rfl (en rfl (en rfl (en rfl (en rfl (en rfl (en rfl (en rfl s0)))))))))
  have s1 := (hg 1).trans (en rfl (en rfl (en rfl (en rfl (en rfl (en rfl (en rfl (en rfl (en rfl s1)))))))))
  have s2 := (hg 2).trans (en rfl (en rfl (en rfl (en rfl (en rfl (en rfl (en rfl (en rfl (en rfl s2)))))))))
  have s3 := (hg 3).trans (en rfl (en rfl (en rfl (en rfl (en rfl (en rfl (en rfl (en rfl (en rfl s3)))))))))
  have s8 := (hg 8).trans (en rfl (en rfl (en rfl (en rfl (en rfl (en rfl (en rfl (en rfl (en rfl s8)))))))))
  have s9 := (hg 9).trans (en rfl es)
  have s10 := (hg 10).trans es
  clear hg
  refine xc_seq (fun K hK3 => ?_)
  refine xc_seq (fun K hK4 => ?_)
  refine xc_region ?_
  refine x_val (r_move s10) (nd_of rfl) rfl ?_
  refine x_val (r_neq es ec (r := true) rfl) (nd_of rfl) rfl ?_
  refine xw_nil ?_
  refine hK4 _ _ ?_
  refine xc_gen (fun g hg => ?_)
  have s0 := (hg 0).trans (en rfl (en rfl s0))
  have s1 := (hg 1).trans (en rfl (en rfl s1))
  have s2 := (hg 2).trans (en rfl (en rfl s2))
  have s3 := (hg 3).trans (en rfl (en rfl s3))
  have s8 := (hg 8).trans (en rfl (en rfl s8))
  have s9 := (hg 9).trans (en rfl (en rfl s9))
  have s10 := (hg 10).trans (en rfl (en rfl s10))
  have s20 := (hg 20).trans es
  clear hg
  refine xc_cond s20 (fun _ => ?_) (fun hc => by cases hc)
  refine xc_seq (fun K hK5 => ?_)
  refine xc_region ?_
  refine x_val (r_move s10) (nd_of rfl) rfl ?_
  refine x_val (r_assign es) (nd_of rfl) rfl ?_
  refine xw_nil ?_
  refine hK5 _ _ ?_
  refine xc_gen (fun g hg => ?_)
  have s0 := (hg 0).trans (en rfl (en rfl s0))
  have s1 := (hg 1).trans (en rfl (en rfl s1))
  have s2 := (hg 2).trans (en rfl (en rfl s2))
  have s3 := (hg 3).trans (en rfl (en rfl s3))
  have s8 := (hg 8).trans es
  have s9 := (hg 9).trans (en rfl (en rfl s9))
  have s10 := (hg 10).trans (en rfl (en rfl s10))
  have s20 := (hg 20).trans (en rfl (en rfl s20))
  clear hg
  refine xc_ret ?_
  refine bodyR_1 rfl s8 ?_
  exact ⟨rfl, h⟩
theorem map_nil {i j : Int} (h : SatL E w R) : Calls Try.prog 17 #[.pointer none, .int .i64 i, .int .i64 j, fv] w (Ret fun u w' => u = .int .i64 1 ∧ SatL E w' R) := by
  refine calls_x Try.func17 rfl Try.ntmps17 rfl ?_
  refine xc_gen (fun g hg => ?_)
  have s0 := (hg 0).trans arg0
  have s1 := (hg 1).trans arg1
  have s2 := (hg 2).trans arg2
  have s3 := (hg 3).trans arg3
  clear hg
  refine xc_seq (fun K hK1 => ?_)
  refine xc_region ?_
  refine x_val (r_assign ec) (nd_of rfl) rfl ?_
  refine xw_nil ?_
  refine hK1 _ _ ?_
  refine xc_gen (fun g hg => ?_)
  have s0 := (hg 0).trans (en rfl s0)
  have s1 := (hg 1).trans (en rfl s1)
  have s2 := (hg 2).trans (en rfl s2)
  have s3 := (hg 3).trans (en rfl s3)
  have s8 := (hg 8).trans es
  clear hg
  refine xc_seq (fun K hK2 => ?_)
  refine xc_region ?_
  refine x_val (r_move s0) (nd_of rfl) rfl ?_
  refine x_val (r_move (en rfl s1)) (nd_of rfl) rfl ?_
  refine x_val (r_move (en rfl (en rfl s2))) (nd_of rfl) rfl ?_
  refine x_enter (r_call Try.call11 (.cons (en rfl (en rfl es)) (.cons (en rfl es) (.cons es .nil)))) (nd_of rfl) rfl (over_nil h) ?_
  rintro _ w ⟨rfl, h⟩
  refine x_val (r_move es) (nd_of rfl) rfl ?_
  refine x_val (r_extract es gc0) (nd_of rfl) rfl ?_
  refine x_val (r_extract (en rfl es) gc1) (nd_of rfl) rfl ?_
  refine x_val (r_assign (en rfl es)) (nd_of rfl) rfl ?_
  refine x_val (r_assign (en rfl es)) (nd_of rfl) rfl ?_
  refine xw_nil ?_
  refine hK2 _ _ ?_
  refine xc_gen (fun g hg => ?_)
  have s0 := (hg 0).trans (en rfl (en rfl (en rfl (en rfl (en rfl (en rfl (en rfl (en rfl (en rfl s0)))))))))
  have s1 := (hg 1).trans (en rfl (en rfl (en rfl (en rfl (en rfl (en rfl (en rfl (en rfl (en rfl s1)))))))))
  have s2 := (hg 2).trans (en rfl (en rfl (en rfl (en rfl (en rfl (en rfl (en rfl (en rfl (en rfl s2)))))))))
  have s3 := (hg 3).trans (en rfl (en rfl (en rfl (en rfl (en rfl (en rfl (en rfl (en rfl (en rfl s3)))))))))
  have s8 := (hg 8).trans (en rfl (en rfl (en rfl (en rfl (en rfl (en rfl (en rfl (en rfl (en rfl s8)))))))))
  have s9 := (hg 9).trans (en rfl es)
  have s10 := (hg 10).trans es
  clear hg
  refine xc_seq (fun K hK3 => ?_)
  refine xc_seq (fun K hK4 => ?_)
  refine xc_region ?_
  refine x_val (r_move s10) (nd_of rfl) rfl ?_
  refine x_val (r_neq es ec (r := true) rfl) (nd_of rfl) rfl ?_
  refine xw_nil ?_
  refine hK4 _ _ ?_
  refine xc_gen (fun g hg => ?_)
  have s0 := (hg 0).trans (en rfl (en rfl s0))
  have s1 := (hg 1).trans (en rfl (en rfl s1))
  have s2 := (hg 2).trans (en rfl (en rfl s2))
  have s3 := (hg 3).trans (en rfl (en rfl s3))
  have s8 := (hg 8).trans (en rfl (en rfl s8))
  have s9 := (hg 9).trans (en rfl (en rfl s9))
  have s10 := (hg 10).trans (en rfl (en rfl s10))
  have s20 := (hg 20).trans es
  clear hg
  refine xc_cond s20 (fun _ => ?_) (fun hc => by cases hc)
  refine xc_seq (fun K hK5 => ?_)
  refine xc_region ?_
  refine x_val (r_move s10) (nd_of rfl) rfl ?_
  refine x_val (r_assign es) (nd_of rfl) rfl ?_
  refine xw_nil ?_
  refine hK5 _ _ ?_
  refine xc_gen (fun g hg => ?_)
  have s0 := (hg 0).trans (en rfl (en rfl s0))
  have s1 := (hg 1).trans (en rfl (en rfl s1))
  have s2 := (hg 2).trans (en rfl (en rfl s2))
  have s3 := (hg 3).trans (en rfl (en rfl s3))
  have s8 := (hg 8).trans es
  have s9 := (hg 9).trans (en rfl (en rfl s9))
  have s10 := (hg 10).trans (en rfl (en rfl s10))
  have s20 := (hg 20).trans (en rfl (en rfl s20))
  clear hg
  refine xc_ret ?_
  refine bodyR_1 rfl s8 ?_
  exact ⟨rfl, h⟩
theorem map_yes {i j : Int} (hf : MapFn E R fv gg) (hp : isPart (sz xs) i j) (hsz : sz xs ≤ 536870912) (hB : xs.length + xs.length + 4 ≤ B') (hBB : B ≤ B') (hB' : B' ≤ 100000000) (h : SatL E w (ObjO b xs B :: R)) :
    Calls Try.prog 17 #[pT b, .int .i64 i, .int .i64 j, fv] w (Ret fun u w' => u = .int .i64 (spliceE xs i j (mapPs gg xs i j)) ∧ SatL E w' (ObjO b (spliceS xs i j (mapPs gg xs i j)) B' :: R)) := by
  obtain ⟨h0, h1, h2⟩ := hp
  obtain ⟨ni, rfl⟩ := Int.eq_ofNat_of_zero_le h0
  obtain ⟨nj, rfl⟩ := Int.eq_ofNat_of_zero_le (Int.le_trans h0 h1)
  obtain ⟨fh, pre, us, rfl, hcl, hfn⟩ := hf
  obtain ⟨L0, eL0⟩ : ∃ L0, L0 = (overL xs ni nj).map toR := ⟨_, rfl⟩
  have hol := over_len xs ni nj
  have hl0 : L0.length = (overL xs ni nj).length := by rw [eL0, List.length_map]
  have ePs : mapPs gg xs ni nj = mapK gg L0 L0.length := by rw [mapPs, mapK, List.take_length, List.drop_length, List.append_nil, eL0]; rfl
  have hNN : ∀ p ∈ L0, 0 ≤ p.1 ∧ p.1 ≤ 536870912 := by
    intro p hp
    rw [eL0] at hp
    obtain ⟨x, hx, rfl⟩ := List.mem_map.1 hp
    have e1 := ids_over xs ni nj
    have e2 := congrArg List.length e1
    rw [ids_len, List.length_drop, List.length_take, ids_len] at e2
    obtain ⟨k, hk, hxk⟩ := List.mem_iff_getElem.1 hx
    have e3 := sz_get (l := overL xs ni nj) (k := k) (x := x) (by rw [List.getElem?_eq_getElem hk, hxk])
    have e4 : xS x = x.1 := rfl
    simp only [toR]
    omega
  rw [ePs]
  refine calls_x Try.func17 rfl Try.ntmps17 rfl ?_
  refine xc_gen (fun g hg => ?_)
  have s0 := (hg 0).trans arg0
  have s1 := (hg 1).trans arg1
  have s2 := (hg 2).trans arg2
  have s3 := (hg 3).trans arg3
  clear hg
  refine xc_seq (fun K hK1 => ?_)
  refine xc_region ?_
  refine x_val (r_assign ec) (nd_of rfl) rfl ?_
  refine xw_nil ?_
  refine hK1 _ _ ?_
  refine xc_gen (fun g hg => ?_)
  have s0 := (hg 0).trans (en rfl s0)
  have s1 := (hg 1).trans (en rfl s1)
  have s2 := (hg 2).trans (en rfl s2)
  have s3 := (hg 3).trans (en rfl s3)
  have s8 := (hg 8).trans es
  clear hg
  refine xc_seq (fun K hK2 => ?_)
  refine xc_region ?_
  refine x_val (r_move s0) (nd_of rfl) rfl ?_
  refine x_val (r_move (en rfl s1)) (nd_of rfl) rfl ?_
  refine x_val (r_move (en rfl (en rfl s2))) (nd_of rfl) rfl ?_
  refine x_enter (r_call Try.call11 (.cons (en rfl (en rfl es)) (.cons (en rfl es) (.cons es .nil)))) (nd_of rfl) rfl (over_o (i := ni) (j := nj) (by omega) (by omega) h) ?_
  rintro _ w ⟨v, rfl, h⟩
  have h : SatL E w (Row 34 2 v L0.length (rflat (mapK gg L0 0)) :: ObjO b xs B :: R) := by rw [show mapK gg L0 0 = L0 by simp [mapK], hl0, eL0, ← flat_toR]; exact h
  obtain ⟨av, cv, rfl, _, _⟩ := h.rowVal
  refine x_val (r_move es) (nd_of rfl) rfl ?_
  refine x_val (r_extract es gc0) (nd_of rfl) rfl ?_
  refine x_val (r_extract (en rfl es) gc1) (nd_of rfl) rfl ?_
  refine x_val (r_assign (en rfl es)) (nd_of rfl) rfl ?_
  refine x_val (r_assign (en rfl es)) (nd_of rfl) rfl ?_
  refine xw_nil ?_
  refine hK2 _ _ ?_
  refine xc_gen (fun g hg => ?_)
  have s0 := (hg 0).trans (en rfl (en rfl (en rfl (en rfl (en rfl (en rfl (en rfl (en rfl (en rfl s0)))))))))
  have s1 := (hg 1).trans (en rfl (en rfl (en rfl (en rfl (en rfl (en rfl (en rfl (en rfl (en rfl s1)))))))))
  have s2 := (hg 2).trans (en rfl (en rfl (en rfl (en rfl (en rfl (en rfl (en rfl (en rfl (en rfl s2)))))))))
  have s3 := (hg 3).trans (en rfl (en rfl (en rfl (en rfl (en rfl (en rfl (en rfl (en rfl (en rfl s3)))))))))
  have s8 := (hg 8).trans (en rfl (en rfl (en rfl (en rfl (en rfl (en rfl (en rfl (en rfl (en rfl s8)))))))))
  have s9 := (hg 9).trans (en rfl es)
  have s10 := (hg 10).trans es
  clear hg
  refine xc_seq (fun K hK3 => ?_)
  refine xc_seq (fun K hK4 => ?_)
  refine xc_region ?_
  refine x_val (r_move s10) (nd_of rfl) rfl ?_
  refine x_val (r_neq es ec (r := false) rfl) (nd_of rfl) rfl ?_
  refine xw_nil ?_
  refine hK4 _ _ ?_
  refine xc_gen (fun g hg => ?_)
  have s0 := (hg 0).trans (en rfl (en rfl s0))
  have s1 := (hg 1).trans (en rfl (en rfl s1))
  have s2 := (hg 2).trans (en rfl (en rfl s2))
  have s3 := (hg 3).trans (en rfl (en rfl s3))
  have s8 := (hg 8).trans (en rfl (en rfl s8))
  have s9 := (hg 9).trans (en rfl (en rfl s9))
  have s10 := (hg 10).trans (en rfl (en rfl s10))
  have s20 := (hg 20).trans es
  clear hg
  refine xc_cond s20 (fun hc => by cases hc) (fun _ => ?_)
  refine xc_skip ?_
  refine hK3 _ _ ?_
  refine xc_seq (fun K hK5 => ?_)
  refine xc_seq (fun K hK6 => ?_)
  refine xc_region ?_
  refine x_val (r_move s9) (nd_of rfl) rfl ?_
  refine x_val (r_len Try.underlying26 es) (nd_of rfl) rfl ?_
  refine x_val (r_move ec) (nd_of rfl) rfl ?_
  refine xw_nil ?_
  refine hK6 _ _ ?_
  refine xc_gen (fun g hg => ?_)
  have s0 := (hg 0).trans (en rfl (en rfl (en rfl s0)))
  have s1 := (hg 1).trans (en rfl (en rfl (en rfl s1)))
  have s2 := (hg 2).trans (en rfl (en rfl (en rfl s2)))
  have s3 := (hg 3).trans (en rfl (en rfl (en rfl s3)))
  have s8 := (hg 8).trans (en rfl (en rfl (en rfl s8)))
  have s9 := (hg 9).trans (en rfl (en rfl (en rfl s9)))
  have s10 := (hg 10).trans (en rfl (en rfl (en rfl s10)))
  have s20 := (hg 20).trans (en rfl (en rfl (en rfl s20)))
  have s23 := (hg 23).trans (en rfl es)
  have s24 := (hg 24).trans es
  clear hg
  refine xc_block ?_
  obtain ⟨G7, hG7⟩ : ∃ g0 : Nat → Value, g0 = g := ⟨_, rfl⟩
  have zG7_0 : G7 0 = _ := (congrFun hG7 0).trans s0
  have zG7_1 : G7 1 = _ := (congrFun hG7 1).trans s1
  have zG7_2 : G7 2 = _ := (congrFun hG7 2).trans s2
  have zG7_3 : G7 3 = _ := (congrFun hG7 3).trans s3
  have zG7_8 : G7 8 = _ := (congrFun hG7 8).trans s8
  have zG7_9 : G7 9 = _ := (congrFun hG7 9).trans s9
  have zG7_10 : G7 10 = _ := (congrFun hG7 10).trans s10
  have zG7_20 : G7 20 = _ := (congrFun hG7 20).trans s20
  have zG7_23 : G7 23 = _ := (congrFun hG7 23).trans s23
  refine xc_loop (fun m f w => (∃ k : Nat, m = L0.length - k ∧ k ≤ L0.length ∧ f 24 = .int .i64 (k : Int) ∧ SatL E w (Row 34 2 (.slice av L0.length cv) L0.length (rflat (mapK gg L0 k)) :: ObjO b xs B :: R)) ∧ (f 0 = G7 0 ∧ f 1 = G7 1 ∧ f 2 = G7 2 ∧ f 3 = G7 3 ∧ f 8 = G7 8 ∧ f 9 = G7 9 ∧ f 10 = G7 10 ∧ f 20 = G7 20 ∧ f 23 = G7 23)) (L0.length) ⟨⟨0, by omega, by omega, s24, h⟩, ⟨congrFun hG7.symm 0, congrFun hG7.symm 1, congrFun hG7.symm 2, congrFun hG7.symm 3, congrFun hG7.symm 8, congrFun hG7.symm 9, congrFun hG7.symm 10, congrFun hG7.symm 20, congrFun hG7.symm 23⟩⟩ ?_
  rintro m g w ⟨⟨k, hm, hk, s24, h⟩, ⟨y0, y1, y2, y3, y8, y9, y10, y20, y23⟩⟩
  have s0 := y0.trans zG7_0
  have s1 := y1.trans zG7_1
  have s2 := y2.trans zG7_2
  have s3 := y3.trans zG7_3
  have s8 := y8.trans zG7_8
  have s9 := y9.trans zG7_9
  have s10 := y10.trans zG7_10
  have s20 := y20.trans zG7_20
  have s23 := y23.trans zG7_23
  refine xc_seq (fun K hK8 => ?_)
  refine xc_region ?_
  refine x_val (r_lss s24 s23 rfl) (nd_of rfl) rfl ?_
  refine xw_nil ?_
  refine hK8 _ _ ?_
  refine xc_gen (fun g hg => ?_)
  have s0 := (hg 0).trans (en rfl s0)
  have s1 := (hg 1).trans (en rfl s1)
  have s2 := (hg 2).trans (en rfl s2)
  have s3 := (hg 3).trans (en rfl s3)
  have s8 := (hg 8).trans (en rfl s8)
  have s9 := (hg 9).trans (en rfl s9)
  have s10 := (hg 10).trans (en rfl s10)
  have s20 := (hg 20).trans (en rfl s20)
  have s23 := (hg 23).trans (en rfl s23)
  have s24 := (hg 24).trans (en rfl s24)
  have s25 := (hg 25).trans es
  clear hg
  refine xc_seq (fun K hK9 => ?_)
  refine xc_cond s25 (fun hc => ?_) (fun hc => ?_)
  ·
    refine xc_skip ?_
    refine hK9 _ _ ?_
    refine xc_seq (fun K hK10 => ?_)
    refine xc_block ?_
    refine xc_seq (fun K hK11 => ?_)
    have hi : k < L0.length := by have := of_decide_eq_true hc; omega
    obtain ⟨p, hp⟩ : ∃ p, L0[k]? = some p := ⟨_, List.getElem?_eq_getElem hi⟩
    have hmk := mapK_get (g := gg) hp
    have hst := mapK_step (g := gg) hp
    obtain ⟨gm, cm, curm, hrm, hh⟩ := h.openRow (by omega)
    have hvm := hrm.val
    simp only [Value.slice.injEq] at hvm
    obtain ⟨rfl, _, rfl⟩ := hvm
    have h := hh
    have hcell : curm[k * 2 + 1]? = some (.int .i64 p.2) := hrm.get (by rw [rflat_get hmk 1 (by omega)]; rfl)
    refine xc_region ?_
    refine x_val (r_move s24) (nd_of rfl) rfl ?_
    refine x_val (r_assign es) (nd_of rfl) rfl ?_
    refine xw_nil ?_
    refine hK11 _ _ ?_
    refine xc_gen (fun g hg => ?_)
    have s0 := (hg 0).trans (en rfl (en rfl s0))
    have s1 := (hg 1).trans (en rfl (en rfl s1))
    have s2 := (hg 2).trans (en rfl (en rfl s2))
    have s3 := (hg 3).trans (en rfl (en rfl s3))
    have s8 := (hg 8).trans (en rfl (en rfl s8))
    have s9 := (hg 9).trans (en rfl (en rfl s9))
    have s10 := (hg 10).trans (en rfl (en rfl s10))
    have s11 := (hg 11).trans es
    have s20 := (hg 20).trans (en rfl (en rfl s20))
    have s23 := (hg 23).trans (en rfl (en rfl s23))
    have s24 := (hg 24).trans (en rfl (en rfl s24))
    have s25 := (hg 25).trans (en rfl (en rfl s25))
    clear hg
    refine xc_region ?_
    refine x_val (r_move s9) (nd_of rfl) rfl ?_
    refine x_val (r_move (en rfl s11)) (nd_of rfl) rfl ?_
    refine x_val (r_move (en rfl (en rfl s3))) (nd_of rfl) rfl ?_
    refine x_val (r_move (en rfl (en rfl (en rfl s9)))) (nd_of rfl) rfl ?_
    refine x_val (r_move (en rfl (en rfl (en rfl (en rfl s11))))) (nd_of rfl) rfl ?_
    refine x_val (r_indexAddrN Try.underlying26 Try.sizeOf34 (en rfl es) es (by omega)) (nd_of rfl) rfl ?_
    refine x_val (r_fieldAddr (o' := _ + 1) Try.underlying34 rfl Try.sizeOf3 rfl es rfl) (nd_of rfl) rfl ?_
    refine x_val (r_load h 0 rfl Try.isAgg3 es hcell) (nd_of rfl) rfl ?_
    refine x_enter (r_callp hcl (en rfl (en rfl (en rfl (en rfl (en rfl es))))) (.cons es .nil)) (nd_of rfl) rfl (hfn [Cells gm curm 34, ObjO b xs B] w p.2 h) ?_; rintro _ w ⟨rfl, h⟩
    refine x_val (r_indexAddrN Try.underlying26 Try.sizeOf34 (en rfl (en rfl (en rfl (en rfl (en rfl (en rfl (en rfl (en rfl es)))))))) (en rfl (en rfl (en rfl (en rfl (en rfl (en rfl (en rfl es))))))) (by omega)) (nd_of rfl) rfl ?_
    refine x_val (r_fieldAddr (o' := _ + 1) Try.underlying34 rfl Try.sizeOf3 rfl es rfl) (nd_of rfl) rfl ?_
    refine x_st (r_store h 0 rfl Try.sizeOf3 es (en rfl (en rfl es)) rfl hcell) rfl (h.u0 rfl) ?_
    intro w h
    refine xw_nil ?_
    refine hK10 _ _ ?_
    refine xc_gen (fun g hg => ?_)
    have s0 := (hg 0).trans (en rfl (en rfl (en rfl (en rfl (en rfl (en rfl (en rfl (en rfl (en rfl (en rfl (en rfl s0)))))))))))
    have s1 := (hg 1).trans (en rfl (en rfl (en rfl (en rfl (en rfl (en rfl (en rfl (en rfl (en rfl (en rfl (en rfl s1)))))))))))
    have s2 := (hg 2).trans (en rfl (en rfl (en rfl (en rfl (en rfl (en rfl (en rfl (en rfl (en rfl (en rfl (en rfl s2)))))))))))
    have s3 := (hg 3).trans (en rfl (en rfl (en rfl (en rfl (en rfl (en rfl (en rfl (en rfl (en rfl (en rfl (en rfl s3)))))))))))
    have s8 := (hg 8).trans (en rfl (en rfl (en rfl (en rfl (en rfl (en rfl (en rfl (en rfl (en rfl (en rfl (en rfl s8)))))))))))
    have s9 := (hg 9).trans (en rfl (en rfl (en rfl (en rfl (en rfl (en rfl (en rfl (en rfl (en rfl (en rfl (en rfl s9)))))))))))
    have s10 := (hg 10).trans (en rfl (en rfl (en rfl (en rfl (en rfl (en rfl (en rfl (en rfl (en rfl (en rfl (en rfl s10)))))))))))
    have s11 := (hg 11).trans (en rfl (en rfl (en rfl (en rfl (en rfl (en rfl (en rfl (en rfl (en rfl (en rfl (en rfl s11)))))))))))
    have s20 := (hg 20).trans (en rfl (en rfl (en rfl (en rfl (en rfl (en rfl (en rfl (en rfl (en rfl (en rfl (en rfl s20)))))))))))
    have s23 := (hg 23).trans (en rfl (en rfl (en rfl (en rfl (en rfl (en rfl (en rfl (en rfl (en rfl (en rfl (en rfl s23)))))))))))
    have s24 := (hg 24).trans (en rfl (en rfl (en rfl (en rfl (en rfl (en rfl (en rfl (en rfl (en rfl (en rfl (en rfl s24)))))))))))
    have s25 := (hg 25).trans (en rfl (en rfl (en rfl (en rfl (en rfl (en rfl (en rfl (en rfl (en rfl (en rfl (en rfl s25)))))))))))
    clear hg
    have hr2 := hrm.set (k * 2 + 1) (.int .i64 (gg p.2))
    rw [rflat_set hmk, hst] at hr2
    refine xc_region ?_
    refine x_val (r_add s24 ec (show _ = (((k + 1 : Nat) : Int) : Int) from by omega) (by unfold I64; omega)) (nd_of rfl) rfl ?_
    refine x_val (r_move es) (nd_of rfl) rfl ?_
    refine xw_nil ?_
    exact ⟨L0.length - (k + 1), by omega, ⟨k + 1, rfl, by omega, es, h.closeRow hr2⟩, ⟨((en rfl (en rfl s0))).trans zG7_0.symm, ((en rfl (en rfl s1))).trans zG7_1.symm, ((en rfl (en rfl s2))).trans zG7_2.symm, ((en rfl (en rfl s3))).trans zG7_3.symm, ((en rfl (en rfl s8))).trans zG7_8.symm, ((en rfl (en rfl s9))).trans zG7_9.symm, ((en rfl (en rfl s10))).trans zG7_10.symm, ((en rfl (en rfl s20))).trans zG7_20.symm, ((en rfl (en rfl s23))).trans zG7_23.symm⟩⟩
  ·
    refine xc_exit ?_
    refine hK5 _ _ ?_
    refine xc_seq (fun K hK12 => ?_)
    obtain rfl : k = L0.length := by have := of_decide_eq_false hc; omega
    have hrr : RSlc E (RRow (.slice av L0.length cv) (mapK gg L0 L0.length) :: R) (.slice av L0.length cv) (mapK gg L0 L0.length) := rslc_row (R := R) (by rw [RRow, mapK_len]; exact h.f1.drop)
    have hpm : ∀ p ∈ mapK gg L0 L0.length, 0 ≤ p.1 ∧ p.1 ≤ 536870912 := by rw [mapK, List.take_length, List.drop_length, List.append_nil]; intro p hp; obtain ⟨q, hq, rfl⟩ := List.mem_map.1 hp; exact hNN q hq
    have hlk : (mapK gg L0 L0.length).length = L0.length := mapK_len
    refine xc_region ?_
    refine x_val (r_move s0) (nd_of rfl) rfl ?_
    refine x_val (r_move (en rfl s1)) (nd_of rfl) rfl ?_
    refine x_val (r_move (en rfl (en rfl s2))) (nd_of rfl) rfl ?_
    refine x_val (r_move (en rfl (en rfl (en rfl s9)))) (nd_of rfl) rfl ?_
    have h := h.f1
    refine x_enter (r_call Try.call10 (.cons (en rfl (en rfl (en rfl es))) (.cons (en rfl (en rfl es)) (.cons (en rfl es) (.cons es .nil))))) (nd_of rfl) rfl (splice_o (B' := B') hrr hsz (fun p hp => by have := hpm p hp; unfold I64; omega) (by omega) hBB hB' (by rw [RRow, mapK_len]; exact h)) ?_
    rintro _ w ⟨rfl, h⟩
    refine x_val (r_assign es) (nd_of rfl) rfl ?_
    refine xw_nil ?_
    refine hK12 _ _ ?_
    refine xc_gen (fun g hg => ?_)
    have s0 := (hg 0).trans (en rfl (en rfl (en rfl (en rfl (en rfl (en rfl s0))))))
    have s1 := (hg 1).trans (en rfl (en rfl (en rfl (en rfl (en rfl (en rfl s1))))))
    have s2 := (hg 2).trans (en rfl (en rfl (en rfl (en rfl (en rfl (en rfl s2))))))
    have s3 := (hg 3).trans (en rfl (en rfl (en rfl (en rfl (en rfl (en rfl s3))))))
    have s8 := (hg 8).trans es
    have s9 := (hg 9).trans (en rfl (en rfl (en rfl (en rfl (en rfl (en rfl s9))))))
    have s10 := (hg 10).trans (en rfl (en rfl (en rfl (en rfl (en rfl (en rfl s10))))))
    have s20 := (hg 20).trans (en rfl (en rfl (en rfl (en rfl (en rfl (en rfl s20))))))
    have s23 := (hg 23).trans (en rfl (en rfl (en rfl (en rfl (en rfl (en rfl s23))))))
    have s24 := (hg 24).trans (en rfl (en rfl (en rfl (en rfl (en rfl (en rfl s24))))))
    have s25 := (hg 25).trans (en rfl (en rfl (en rfl (en rfl (en rfl (en rfl s25))))))
    clear hg
    refine xc_ret ?_
    refine bodyR_1 rfl s8 ?_
    exact ⟨rfl, h.f1.drop⟩
theorem map_o {i j : Int} (hf : MapFn E R fv gg) (hsz : sz xs ≤ 536870912) (hB : xs.length + xs.length + 4 ≤ B') (hBB : B ≤ B') (hB' : B' ≤ 100000000) (h : SatL E w (ObjO b xs B :: R)) :
    Calls Try.prog 17 #[pT b, .int .i64 i, .int .i64 j, fv] w (Ret fun u w' => u = .int .i64 (if isPart (sz xs) i j then spliceE xs i j (mapPs gg xs i j) else 5) ∧ SatL E w' (ObjO b (if isPart (sz xs) i j then spliceS xs i j (mapPs gg xs i j) else xs) B' :: R)) := by
  by_cases hp : isPart (sz xs) i j
  · rw [if_pos hp, if_pos hp]; exact map_yes hf hp hsz hB hBB hB' h
  · rw [if_neg hp, if_neg hp]
    refine Calls.ret_mono (map_no hp h) ?_
    rintro _ w ⟨rfl, h⟩
    refine ⟨rfl, ?_⟩
    rcases h.openObj with ⟨e, h1⟩ | ⟨bt, ba, h1⟩
    · rw [e]; exact SatL.closeObj0 h1
    · exact SatL.closeObj ((h1.f1.treeMono hBB).f1)
end
end Go.Proofs.Ytbmdbjnkkbefmaa
