/-
ArenaPlays: small contracts ahead of the walk.
-/
import Derived.Test.YtfmhcefjbghhlaaD3
import Derived.Test.YtfmhcefjbghhlaaY5
namespace Go.Proofs.Ytfmhcefjbghhlaa
open Go Go.RowKit
section
variable {P : Program} {f : Nat → Value} {w : World} {d : Option Tmp} {ty : TypeId} {pos : String} {af : Array Edge} {g : Option (Tmp × Bool)}
theorem r_build03 {T : TypeId} {zs : Array Value} {f0 f1 f2 : Field} {s0 s1 s2 : Nat} (hu : P.underlying T = some (.struct #[f0, f1, f2])) (hz : ∀ w, (zeroValue T).run P w = .ok (.agg zs) w) (hs0 : ∀ w, (sizeOf f0.type).run P w = .ok s0 w) (hs1 : ∀ w, (sizeOf f1.type).run P w = .ok s1 w) (hs2 : ∀ w, (sizeOf f2.type).run P w = .ok s2 w) :
    (execOp (ev f) ⟨d, .build T #[], ty, pos, af, g⟩).run P w = .ok (.value (.agg zs)) w := by
  have e : (Value.agg zs).cells = zs := rfl
  simp [execOp, Instr.build, hz, run_underlying hu, hs0, hs1, hs2, Instr.fill, e]
theorem r_loadAggOld {E : Env} {L : List SProp} {W : World} {T : TypeId} {x : Operand} {a : Addr} {n : Nat} {cs : List Value} (h : SatL E w L) (k : Nat) (hk : L[k]? = some (Old W))
    (ha : ∀ w, (isAgg T).run P w = .ok true w) (hs : ∀ w, (sizeOf T).run P w = .ok n w) (hx : ev f x = .pointer (some a)) (hn : cs.length = n) (hc : ∀ (j : Nat) (u : Value), cs[j]? = some u → W.cell? (a.add j) = some u) :
    (execOp (ev f) ⟨d, .load T x, ty, pos, af, g⟩).run P w = .ok (.value (.agg cs.toArray)) w := by
  subst hn
  have hl := run_loadCells_list (P := P) w a cs (fun j u hj => h.oldCell k hk (hc j u hj))
  simp [execOp, hx, Instr.loadAt, Instr.sureAddr, loadVar, ha, hs, hl]
end
/-- whether a place is taken -/
def isT (pl : List (Option Int)) (i : Int) : Bool := if i < 0 then false else (pl[i.toNat]?.bind id).isSome
section
variable {E : Env} {R : List SProp} {w : World} {b ba : Nat} {pl : List (Option Int)} {fr : List Nat} {i x : Int} {bb : Bool}
theorem isT_some (h : isT pl i = true) : ∃ (n : Nat) (v : Int), i = n ∧ pl[n]? = some (some v) := by
  unfold isT at h
  split at h
  · cases h
  · refine ⟨i.toNat, ?_⟩
    match e : pl[i.toNat]? with
    | none => rw [e] at h; cases h
    | some none => rw [e] at h; cases h
    | some (some v) => exact ⟨v, by omega, rfl⟩
theorem isT_none (h : isT pl i = false) : ¬ I.has (plA pl) i := by
  rintro ⟨n, c, rfl, hc⟩
  unfold isT at h
  rw [if_neg (by omega)] at h
  have hl := (List.getElem?_eq_some_iff.1 hc).1
  rw [plA_len] at hl
  have ho : pl[n]? = some pl[n] := List.getElem?_eq_getElem hl
  rw [plA_get ho] at hc
  cases hp : pl[n] with
  | none => rw [hp] at hc; cases hc
  | some v => rw [hp] at ho; rw [show ((n : Int)).toNat = n from rfl, ho] at h; cases h
theorem refhas_b (hT : isT pl i = bb) (h : SatL E w (RefA b pl fr :: R)) :
    Calls Try.prog 21 #[.pointer (some ⟨b, 0, none⟩), .int .i64 i] w (Ret fun v w' => v = .bool bb ∧ SatL E w' (RefA b pl fr :: R)) := by
  subst hT
  unfold isT
  by_cases h0 : i < 0
  · rw [if_pos h0]; exact has_neg h0 h
  · rw [if_neg h0]
    obtain ⟨n, rfl⟩ := Int.eq_ofNat_of_zero_le (by omega : 0 ≤ i)
    rw [show ((n : Nat) : Int).toNat = n from rfl]
    by_cases h1 : n < pl.length
    · exact has_in h1 h
    · rw [List.getElem?_eq_none (by omega)]
      exact has_far (by omega) h
theorem plA_some {n : Nat} {v : Int} (h : pl[n]? = some (some v)) : (plA pl)[n]? = some (some #[.int .i64 v]) := plA_get h
theorem plA_set {n : Nat} {o : Option Int} : (plA pl).set n (o.map fun v => #[Value.int .i64 v]) = plA (pl.set n o) := by simp [plA, List.map_set]
theorem plA_snoc {v : Int} : plA pl ++ [some #[Value.int .i64 v]] = plA (pl ++ [some v]) := by simp [plA]
theorem cnt_set_none {n : Nat} {v : Int} (h : pl[n]? = some (some v)) : cnt (pl.set n none) + 1 = cnt pl := by
  have hl := (List.getElem?_eq_some_iff.1 h)
  have e := List.countP_set (p := fun o : Option Int => o.isSome) (l := pl) (i := n) (a := none) hl.1
  rw [hl.2] at e
  have hpos : 0 < pl.countP (fun o : Option Int => o.isSome) := List.countP_pos_iff.2 ⟨some v, List.mem_of_getElem? h, rfl⟩
  unfold cnt
  simp at e
  omega
theorem cnt_set_some {n : Nat} {o : Option Int} {v : Int} (h : pl[n]? = some o) : cnt (pl.set n (some v)) = cnt pl + (if o.isSome then 0 else 1) := by
  have hl := (List.getElem?_eq_some_iff.1 h)
  have e := List.countP_set (p := fun o : Option Int => o.isSome) (l := pl) (i := n) (a := some v) hl.1
  rw [hl.2] at e
  have hpos : o.isSome = true → 0 < pl.countP (fun o : Option Int => o.isSome) := fun ho => List.countP_pos_iff.2 ⟨o, List.mem_of_getElem? h, ho⟩
  unfold cnt
  cases o with
  | none => simp at e ⊢; omega
  | some v' => have := hpos rfl; simp at e ⊢; omega
theorem cnt_snoc {v : Int} : cnt (pl ++ [some v]) = cnt pl + 1 := by simp [cnt]
theorem newref (h : SatL E w (Cells b #[.slice none 0 0, .slice none 0 0, .slice none 0 0] 51 :: R)) : SatL E w (RefA b [] [] :: R) :=
  SatL.closeRef ((((h.rowNil (e := 3) (sz := 1)).rowNil (e := 4) (sz := 1)).rowNil (e := 2) (sz := 1)).f3)
theorem free_i {n : Nat} {v : Int} (hi : i = (n : Int)) (hc : pl[n]? = some (some v)) (hb : pl.length ≤ 1000000) (h : SatL E w (I.Ar ba (plA pl) fr :: R)) :
    Calls Try.prog 10 #[.pointer (some ⟨ba, 0, none⟩), .int .i64 i] w (Ret fun v w' => v = .int .i64 0 ∧ SatL E w' (I.Ar ba (plA (pl.set n none)) (fr ++ [n]) :: R)) := by
  subst hi
  rw [← plA_set]
  exact I.free_ok (plA_some hc) (by rw [plA_len]; omega) h
theorem put_i {n : Nat} {v : Int} (hi : i = (n : Int)) (hc : pl[n]? = some (some v)) (h : SatL E w (I.Ar ba (plA pl) fr :: R)) :
    Calls Try.prog 24 #[.pointer (some ⟨ba, 0, none⟩), .int .i64 i, .int .i64 x] w (Ret fun v w' => v = .int .i64 0 ∧ SatL E w' (I.Ar ba (plA (pl.set n (some x))) fr :: R)) := by
  subst hi
  rw [← plA_set]
  exact I.put_ok (plA_some hc) h
theorem at_i {n : Nat} {v : Int} (hi : i = (n : Int)) (hc : pl[n]? = some (some v)) (h : SatL E w (I.Ar ba (plA pl) fr :: R)) :
    Calls Try.prog 25 #[.pointer (some ⟨ba, 0, none⟩), .int .i64 i] w (Ret fun u w' => u = .tuple #[.int .i64 v, .int .i64 0] ∧ SatL E w' (I.Ar ba (plA pl) fr :: R)) := by
  subst hi
  exact I.at_ok (plA_some hc) h
theorem drop_i {n : Nat} (hi : i = (n : Int)) (hn : n < pl.length) (hf : fr.length ≤ 1000000) (h : SatL E w (RefA b pl fr :: R)) :
    Calls Try.prog 23 #[.pointer (some ⟨b, 0, none⟩), .int .i64 i] w (Ret fun _ w' => SatL E w' (RefA b (pl.set n none) (fr ++ [n]) :: R)) := by
  subst hi
  exact drop_ok hn hf h
theorem tkC_put {n : Nat} {v x : Int} (h : pl[n]? = some (some v)) : tkC (pl.set n (some x)) = tkC pl := by
  have hl := (List.getElem?_eq_some_iff.1 h)
  rw [← tkC_set]
  apply List.ext_getElem?
  intro j
  rw [List.getElem?_set]
  by_cases e : n = j
  · subst e
    rw [if_pos rfl, tkC_get h]
    simp [tkC, hl.1]
  · rw [if_neg e]
theorem at_none (hT : isT pl i = false) (h : SatL E w (I.Ar ba (plA pl) fr :: R)) :
    Calls Try.prog 25 #[.pointer (some ⟨ba, 0, none⟩), .int .i64 i] w (Ret fun u w' => u = .tuple #[.int .i64 0, .int .i64 5] ∧ SatL E w' (I.Ar ba (plA pl) fr :: R)) := by
  have h1 := I.at_no (isT_none hT) h
  rw [zN_is] at h1
  exact h1
theorem has_val {n : Nat} {o : Option Int} (ho : pl[n]? = some o) (h : SatL E w (RefA b pl fr :: R)) :
    Calls Try.prog 21 #[.pointer (some ⟨b, 0, none⟩), .int .i64 (n : Int)] w (Ret fun v w' => v = .bool o.isSome ∧ SatL E w' (RefA b pl fr :: R)) := by
  have h1 := has_in (List.getElem?_eq_some_iff.1 ho).1 h
  rw [ho] at h1
  exact h1
/-- the number that the law counts up along the places -/
def nCell (c : Nat) (pl : List (Option Int)) (k : Nat) : SProp := sex fun n : Nat => star (spure (n ≤ k ∧ ∀ j, n ≤ j → j < k → pl[j]? = some none)) (Cells c #[.int .i64 (n : Int)] 3)
theorem nCell_step {c k : Nat} (ho : pl[k]? = some none) : ∀ m, nCell c pl k m → nCell c pl (k + 1) m := fun _ ⟨n, m1, m2, hp, hc, hd, hm⟩ =>
  ⟨n, m1, m2, ⟨Nat.le_succ_of_le hp.1, fun j h1 h2 => by
    rcases Nat.lt_or_ge j k with h3 | h3
    · exact hp.2 j h1 h3
    · obtain rfl : j = k := by omega
      exact ho⟩, hc, hd, hm⟩
theorem SatL.openN {c k : Nat} (h : SatL E w (nCell c pl k :: R)) : ∃ n, n ≤ k ∧ (∀ j, n ≤ j → j < k → pl[j]? = some none) ∧ SatL E w (Cells c #[.int .i64 (n : Int)] 3 :: R) := by
  obtain ⟨n, h⟩ := h.openEx
  obtain ⟨hp, h⟩ := h.open.pure
  exact ⟨n, hp.1, hp.2, h⟩
theorem SatL.closeN {c k n : Nat} (h1 : n ≤ k) (h2 : ∀ j, n ≤ j → j < k → pl[j]? = some none) (h : SatL E w (Cells c #[.int .i64 (n : Int)] 3 :: R)) : SatL E w (nCell c pl k :: R) :=
  (h.addPure ⟨h1, h2⟩).close.closeEx n
def ILp (lp : Nat) (lr : Loop) (c b b4 : Nat) (pl : List (Option Int)) (fr : List Nat) (Q : List SProp) (k : Nat) : List SProp :=
  nCell c pl k :: pt lp (.loop lr) :: RefA b pl fr :: Cells b4 #[.pointer (some ⟨b, 0, none⟩)] 47 :: Q
theorem it_stop2 {Q : List SProp} {y : Value} {c lp id : Nat} {lr : Loop} (hst : lr.state = .ready) (hpd : lr.pending = none) (hb : pl.length ≤ 1000000)
    (hY : ∀ (M : List SProp) (k : Nat) (v : Int) (w : World), SatL E w (M ++ pt lp (.loop lr) :: Q) → FnOk Try.prog y [.int .i64 (k : Int), .int .i64 v] w (fun u w' => u = .bool false ∧ SatL E w' (M ++ pt lp (.loop { lr with state := .done, pending := some (.exit id) }) :: Q)))
    (h : SatL E w (Cells c #[.pointer (some ⟨ba, 0, none⟩)] 24 :: I.Ar ba (plA pl) fr :: pt lp (.loop lr) :: Q)) : Calls Try.prog 30 #[y, .pointer (some ⟨c, 0, none⟩)] w (Ret fun _ w' => ∃ r : Loop, r.state ≠ .busy ∧ (r.pending = none ∨ r.pending = some (.exit id)) ∧ SatL E w' (pt lp (.loop r) :: Cells c #[.pointer (some ⟨ba, 0, none⟩)] 24 :: I.Ar ba (plA pl) fr :: Q)) := by
  refine Calls.ret_mono (it_stop hb hY h) ?_
  rintro _ w (h | h)
  · exact ⟨lr, (by rw [hst]; intro e; cases e), .inl hpd, h.f2⟩
  · exact ⟨_, (fun e => by cases e), .inr rfl, h.f2⟩
end
end Go.Proofs.Ytfmhcefjbghhlaa
