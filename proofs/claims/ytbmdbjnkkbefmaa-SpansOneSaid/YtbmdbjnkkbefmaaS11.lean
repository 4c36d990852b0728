/-
Spans, kept as one list: the plain laws of SpansOne.
-/
import Derived.Test.YtbmdbjnkkbefmaaS10
import Derived.Test.YtbmdbjnkkbefmaaX9
namespace Go.Proofs.Ytbmdbjnkkbefmaa
open Go Go.RowKit
/-- the blocks of the marks of ranges that are over -/
def Marks : List Nat → SProp
  | [] => spure True
  | D :: Ds => star (pt D (.deferred (some []))) (Marks Ds)
section
variable {P : Program} {f : Nat → Value} {w : World} {d : Option Tmp} {ty : TypeId} {pos : String} {af : Array Edge} {g : Option (Tmp × Bool)}
theorem r_half {t yt : TypeId} {x y : Operand} {a : Nat} (hx : ev f x = .int .i64 (a : Int)) (hy : ev f y = .int .i64 2) (ha : a ≤ 1000000000000) :
    (execOp (ev f) ⟨d, .binOp .quo t x y yt, ty, pos, af, g⟩).run P w = .ok (.value (.int .i64 ((a / 2 : Nat) : Int))) w := by
  refine r_int hx hy ?_
  have e : (a : Int).tdiv 2 = ((a / 2 : Nat) : Int) := by rw [Int.tdiv_eq_ediv_of_nonneg (by omega)]; omega
  have e2 : IntKind.i64.wrap ((a : Int) / 2) = (a : Int) / 2 := I64.wrap (by unfold I64; omega)
  simp [binOp, Op.intDiv, e, e2]
theorem bodyY_marks {fn : Func} {n : Nat} {T : Value → World → Prop} : ∀ (Ds : List Nat) {w : World} {E : Env} {L : List SProp}, SatL E w (Marks Ds :: L) → (∀ w', SatL E w' L → bodyY P fn n T .ret [] f w') → bodyY P fn n T .ret (Ds.map mark) f w
  | [], w, _, _, h, hk => hk w h.drop
  | _ :: Ds, _, _, _, h, hk => bodyY_mark h.open fun _ h2 => bodyY_marks Ds h2.drop hk
end
section
variable {E : Env} {R : List SProp} {w : World} {b B B' : Nat} {xs : List X}
theorem SatL.objMono (hBB : B ≤ B') (h : SatL E w (ObjO b xs B :: R)) : SatL E w (ObjO b xs B' :: R) := by
  rcases h.openObj with ⟨e, h1⟩ | ⟨bt, ba, h1⟩
  · rw [e]; exact SatL.closeObj0 h1
  · exact SatL.closeObj ((h1.f1.treeMono hBB).f1)
theorem SatL.marks0 (h : SatL E w R) : SatL E w (Marks [] :: R) := h.addPure trivial
end
def lastV (xs : List X) : Nat → Int
  | 0 => -1
  | k + 1 => match xs[k]? with
    | some x => x.2
    | none => -1
theorem lastV_succ {xs : List X} {k : Nat} {x : X} (h : xs[k]? = some x) : lastV xs (k + 1) = x.2 := by simp [lastV, h]
theorem canon_adj : ∀ {xs : List X} {k : Nat} {a b : X}, Canon xs → xs[k]? = some a → xs[k + 1]? = some b → a.2 ≠ b.2
  | [], _, _, _, _, h, _ => by simp at h
  | [x], k, a, b, _, _, h => by simp at h
  | x :: y :: l, 0, a, b, hc, h1, h2 => by
    simp at h1 h2; subst h1 h2; exact hc.2.1
  | x :: y :: l, k + 1, a, b, hc, h1, h2 => canon_adj (xs := y :: l) (k := k) hc.2.2 (by simpa using h1) (by simpa using h2)
theorem last_ne {xs : List X} {n k : Nat} {x : X} (h : Inv xs n) (hx : xs[k]? = some x) : ¬ x.2 = lastV xs k := by
  have h0 := (h.wf x (List.mem_of_getElem? hx)).2
  match k with
  | 0 => simp [lastV]; omega
  | k + 1 =>
    have hk := (List.getElem?_eq_some_iff.1 hx).1
    obtain ⟨a, ha⟩ : ∃ a, xs[k]? = some a := ⟨_, List.getElem?_eq_getElem (by omega)⟩
    rw [lastV_succ ha]
    exact fun e => canon_adj h.canon ha hx e.symm
theorem gM_i64 (y p x : Int) : I64 (gM y p x) := by
  unfold gM I64
  have h1 := Int.tmod_lt_of_pos (IntKind.i64.wrap (IntKind.i64.wrap (x * byOf y) + plusOf p)) (b := 1000) (by decide)
  have h2 := Int.lt_tmod_of_pos (IntKind.i64.wrap (IntKind.i64.wrap (x * byOf y) + plusOf p)) (b := 1000) (by decide)
  omega
theorem map_len1 {g : Int → Int} {xs : List X} {i j : Int} (hc : Canon xs) (he : spliceE xs i j (mapPs g xs i j) = 0) : (spliceS xs i j (mapPs g xs i j)).length ≤ xs.length + 2 := by
  obtain ⟨p0, p1, p2⟩ := (spliceE_zero he).2.1
  have q1 := splitL_len xs i.toNat
  have q2 := splitL_len (splitL xs i.toNat).2 (j.toNat - i.toNat)
  have h1 := ids_split xs i.toNat
  have h2 := ids_split (splitL xs i.toNat).2 (j.toNat - i.toNat)
  have hl := canon_len (xs := spliceS xs i j (mapPs g xs i j)) (ys := (splitL xs i.toNat).1 ++ ((((splitL (splitL xs i.toNat).2 (j.toNat - i.toNat)).1.map toR).map (mapR g)).map toX ++ (splitL (splitL xs i.toNat).2 (j.toNat - i.toNat)).2)) (canon_splice hc) (by
    rw [ids_map he, ids_app, ids_app, ids_mapR, h1.1, h2.1, h2.2, h1.2, List.drop_take, List.drop_drop, show i.toNat + (j.toNat - i.toNat) = j.toNat by omega])
  simp only [List.length_append, List.length_map] at hl
  omega
theorem Inv.map {xs : List X} {n : Nat} {i j y p : Int} (h : Inv xs n) : Inv (if isPart (sz xs) i j then spliceS xs i j (mapPs (gM y p) xs i j) else xs) (n + 1) := by
  split
  · rename_i hp
    by_cases he : spliceE xs i j (mapPs (gM y p) xs i j) = 0
    · refine ⟨canon_splice h.canon, by rw [sz_map hp]; exact h.size, ?_, fun v hv => ?_⟩
      · have h1 := map_len1 h.canon he
        have h2 := h.len
        omega
      · have e := ids_splice he
        rw [e] at hv
        rcases List.mem_append.1 hv with hv | hv
        · exact h.num v (List.mem_of_mem_take hv)
        · rcases List.mem_append.1 hv with hv | hv
          · obtain ⟨q, hq, rfl⟩ := ids_toX hv
            have hb := any_bad (spliceE_zero he).1 q hq
            refine ⟨hb.2, ?_⟩
            unfold mapPs at hq
            obtain ⟨r, _, rfl⟩ := List.mem_map.1 hq
            exact gM_i64 _ _ _
          · exact h.num v (List.mem_of_mem_drop hv)
    · unfold spliceS
      rw [if_neg he]
      exact h.mono (by omega)
  · exact h.mono (by omega)
theorem take_sz_le {xs : List X} {k s : Nat} (h : sz (xs.take k) = s) : s ≤ sz xs := by
  have e : sz xs = sz (xs.take k ++ xs.drop k) := by rw [List.take_append_drop]
  rw [e, sz_app]; omega
theorem drop_sz_le {xs : List X} {k : Nat} : sz (xs.drop k) ≤ sz xs := by
  have e : sz xs = sz (xs.take k ++ xs.drop k) := by rw [List.take_append_drop]
  rw [e, sz_app]; omega
theorem half_step {xs : List X} {n k : Nat} {x : X} (h : Inv xs n) (hx : xs[k]? = some x) :
    spliceE (xs.drop (k + 1)) 0 0 [(((x.1 / 2 : Nat) : Int), x.2)] = 0 ∧ sz (spliceS (xs.drop (k + 1)) 0 0 [(((x.1 / 2 : Nat) : Int), x.2)]) ≤ 536870912 ∧ (spliceS (xs.drop (k + 1)) 0 0 [(((x.1 / 2 : Nat) : Int), x.2)]).length ≤ xs.length + 3 ∧
      spliceE (spliceS (xs.drop (k + 1)) 0 0 [(((x.1 / 2 : Nat) : Int), x.2)]) 0 0 [(((x.1 - x.1 / 2 : Nat) : Int), x.2)] = 0 ∧ spliceS (spliceS (xs.drop (k + 1)) 0 0 [(((x.1 / 2 : Nat) : Int), x.2)]) 0 0 [(((x.1 - x.1 / 2 : Nat) : Int), x.2)] = xs.drop k := by
  have hk := (List.getElem?_eq_some_iff.1 hx).1
  have hd : xs.drop k = x :: xs.drop (k + 1) := by rw [List.drop_eq_getElem_cons hk]; congr 1; exact (List.getElem?_eq_some_iff.1 hx).2
  have h0 := (h.wf x (List.mem_of_getElem? hx)).2
  have hz := h.size
  have hcd : ∀ m, Canon (xs.drop m) := fun m => by
    have := h.canon
    rw [← List.take_append_drop m xs] at this
    exact canon_drop this
  have hs : sz xs = sz (xs.take k) + (x.1 + sz (xs.drop (k + 1))) := by
    have e1 : sz xs = sz (xs.take k ++ xs.drop k) := by rw [List.take_append_drop]
    rw [e1, sz_app, hd]; rfl
  have one : ∀ (a : Nat) (l : List X), sz l + a ≤ 536870912 → spliceE l 0 0 [((a : Int), x.2)] = 0 := fun a l hl => by
    unfold spliceE
    rw [if_neg (by simp [badR]; omega), if_neg (fun hh => hh ⟨by omega, by omega, by omega⟩), if_neg (by simp [sumR]; omega)]
  have e1 := one (x.1 / 2) (xs.drop (k + 1)) (by omega)
  have z1 := sz_splice e1
  have i1 := ids_splice e1
  have l1 : (spliceS (xs.drop (k + 1)) 0 0 [(((x.1 / 2 : Nat) : Int), x.2)]).length ≤ xs.length + 3 := by
    unfold spliceS
    rw [if_pos e1]
    have := replL_len (xs.drop (k + 1)) 0 0 ([(((x.1 / 2 : Nat) : Int), x.2)].map toX)
    simp only [List.length_map, List.length_cons, List.length_nil, List.length_drop] at this
    exact Nat.le_trans this (by omega)
  have c1 : Canon (spliceS (xs.drop (k + 1)) 0 0 [(((x.1 / 2 : Nat) : Int), x.2)]) := canon_splice (hcd _)
  generalize spliceS (xs.drop (k + 1)) 0 0 [(((x.1 / 2 : Nat) : Int), x.2)] = S at *
  simp only [sumR] at z1
  have e2 := one (x.1 - x.1 / 2) S (by omega)
  refine ⟨e1, by omega, l1, e2, canon_uniq (canon_splice c1) (hcd _) ?_⟩
  rw [ids_splice e2, i1, hd, ids_cons]
  simp only [List.map_cons, List.map_nil, ids_one, toX, Int.toNat_zero, List.take_zero, List.nil_append, List.drop_zero, Int.toNat_natCast]
  rw [← List.append_assoc, List.replicate_append_replicate, show x.1 - x.1 / 2 + x.1 / 2 = x.1 by omega]
end Go.Proofs.Ytbmdbjnkkbefmaa
