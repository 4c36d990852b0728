/-
Rows that are owned; an arena's memory.
-/
import Derived.Test.YtfmhcefjbghhlaaX4
import Derived.Laws.OwnMore
namespace Go.Proofs.Ytfmhcefjbghhlaa
open Go Go.RowKit

theorem Ok.le {n : Nat} {c : Array Value} (h : Ok n c) : 0 + n ≤ c.size := by have := h.size; omega

/-- a slice at the head of a block of its own -/
def Row (e : TypeId) (sz : Nat) (v : Value) (n : Nat) (xs : List Value) : SProp := fun m =>
  xs.length = n * sz ∧ ((v = .slice none 0 0 ∧ n = 0) ∨ ∃ g cap cur, v = .slice (some ⟨g, 0, none⟩) n cap ∧ m g = some (.cells cur e (0, 0)) ∧ n ≤ cap ∧ cap ≤ maxLen ∧ cur.size = cap * sz ∧ cur.toList.take (n * sz) = xs)

/-- a row that is open -/
structure RowAt (sz : Nat) (v : Value) (n : Nat) (xs : List Value) (g cap : Nat) (cur : Array Value) : Prop where
  val : v = .slice (some ⟨g, 0, none⟩) n cap
  len : xs.length = n * sz
  le : n ≤ cap
  capm : cap ≤ maxLen
  size : cur.size = cap * sz
  take : cur.toList.take (n * sz) = xs

theorem RowAt.get {sz : Nat} {v : Value} {n : Nat} {xs : List Value} {g cap : Nat} {cur : Array Value} (h : RowAt sz v n xs g cap cur) {j : Nat} {u : Value} (hj : xs[j]? = some u) : cur[j]? = some u := by
  rw [← h.take, List.getElem?_take] at hj
  split at hj
  · simpa using hj
  · cases hj

section
variable {E : Env} {w : World} {L : List SProp} {e : TypeId} {sz : Nat} {v : Value} {n : Nat} {xs : List Value}

theorem SatL.rowLen (h : SatL E w (Row e sz v n xs :: L)) : xs.length = n * sz := let ⟨_, hA, _⟩ := h.heap; hA.1

theorem SatL.rowVal (h : SatL E w (Row e sz v n xs :: L)) : ∃ a cap, v = .slice a n cap ∧ n ≤ cap ∧ cap ≤ maxLen := by
  obtain ⟨_, hA, _⟩ := h.heap
  rcases hA.2 with ⟨rfl, rfl⟩ | ⟨g, cap, cur, rfl, _, h1, h2, _⟩
  · exact ⟨none, 0, rfl, Nat.le_refl _, Nat.zero_le _⟩
  · exact ⟨some ⟨g, 0, none⟩, cap, rfl, h1, h2⟩

theorem SatL.openRow (h : SatL E w (Row e sz v n xs :: L)) (hn : 0 < n) : ∃ g cap cur, RowAt sz v n xs g cap cur ∧ SatL E w (Cells g cur e :: L) := by
  obtain ⟨o1, o2, o3, m, ⟨hl, hA⟩, hs, hd, ht⟩ := h
  rcases hA with ⟨_, rfl⟩ | ⟨g, cap, cur, hv, hm, h1, h2, h3, h4⟩
  · omega
  · exact ⟨g, cap, cur, ⟨hv, hl, h1, h2, h3, h4⟩, o1, o2, o3, m, hm, hs, hd, ht⟩

theorem SatL.closeRow {g cap : Nat} {cur : Array Value} (h : SatL E w (Cells g cur e :: L)) (hr : RowAt sz v n xs g cap cur) : SatL E w (Row e sz v n xs :: L) :=
  h.imp fun _ hm => ⟨hr.len, .inr ⟨g, cap, cur, hr.val, hm, hr.le, hr.capm, hr.size, hr.take⟩⟩

theorem SatL.rowNil (h : SatL E w L) : SatL E w (Row e sz (.slice none 0 0) 0 [] :: L) :=
  (h.addPure trivial).imp fun _ _ => ⟨by simp, .inl ⟨rfl, rfl⟩⟩

/-- one cell of a row written -/
theorem RowAt.set {sz : Nat} {v : Value} {n : Nat} {xs : List Value} {g cap : Nat} {cur : Array Value} (h : RowAt sz v n xs g cap cur) (j : Nat) (u : Value) :
    RowAt sz v n (xs.set j u) g cap (cur.setIfInBounds j u) := by
  refine ⟨h.val, by simp [h.len], h.le, h.capm, by simp [h.size], ?_⟩
  rw [Array.toList_setIfInBounds, List.take_set, h.take]

/-- a part of a row written -/
theorem RowAt.splice {sz : Nat} {v : Value} {n : Nat} {xs : List Value} {g cap : Nat} {cur : Array Value} (h : RowAt sz v n xs g cap cur) (o : Nat) (us : List Value) {m : Nat} (hm : us.length = m) (ho : o + m ≤ n * sz) :
    RowAt sz v n (xs.take o ++ us ++ xs.drop (o + m)) g cap (cur.toList.take o ++ us ++ cur.toList.drop (o + m)).toArray := by
  subst hm
  have hc : n * sz ≤ cap * sz := Nat.mul_le_mul_right _ h.le
  have hlen : cur.toList.length = cap * sz := by simp [h.size]
  refine ⟨h.val, by simp [h.len]; omega, h.le, h.capm, by simp [h.size]; omega, ?_⟩
  have e1 : xs = cur.toList.take (n * sz) := h.take.symm
  rw [e1]
  simp only [List.take_append, List.length_take, List.length_append, hlen, List.take_take, List.drop_take]
  rw [show min (n * sz) o = o by omega, show min o (n * sz) = o by omega, show min o (cap * sz) = o by omega]
  rw [List.take_of_length_le (show us.length ≤ n * sz - o by omega)]

/-- the slice cut behind -/
theorem RowAt.cut {sz : Nat} {v : Value} {n : Nat} {xs : List Value} {g cap : Nat} {cur : Array Value} (h : RowAt sz v n xs g cap cur) {k : Nat} (hk : k ≤ n) :
    RowAt sz (.slice (some ⟨g, 0, none⟩) k cap) k (xs.take (k * sz)) g cap cur := by
  have h1 : k * sz ≤ n * sz := Nat.mul_le_mul_right _ hk
  refine ⟨rfl, by rw [List.length_take, h.len, Nat.min_eq_left h1], by have := h.le; omega, h.capm, h.size, ?_⟩
  rw [← h.take, List.take_take, Nat.min_eq_left h1]


end

/-- append of m elements to a row that is owned -/
theorem SatL.append {E : Env} {w : World} {L : List SProp} {P : Program} {e t ty : TypeId} {sz bytes : Nat} {v : Value} {n : Nat} {xs : List Value} {i : TypeInfo} {z : Value}
    (h : SatL E w (Row e sz v n xs :: L)) (ht : P.underlying t = some (.slice e)) (hi : P.info? e = some i) (hz : i.zero = some z) (hsize : i.size = sz) (hby : i.bytes = bytes) (hzs : z.cells.size = sz)
    (a : Addr) (m c : Nat) (news : List Value) (hl : news.length = m * sz) (hnews : ∀ j u, news[j]? = some u → w.cell? (a.add j) = some u) (h1 : ∀ u ∈ news, u.oneCell' = true)
    (hbytes : (n + m) * bytes ≤ 140737488355328) (h63 : n + m ≤ maxLen) :
    ∃ v' w', (Builtin.append_ #[t, t] ty #[v, .slice (some a) m c]).run P w = .ok v' w' ∧ SatL E w' (Row e sz v' (n + m) (xs ++ news) :: L) := by
  obtain ⟨o1, o2, o3, m0, ⟨hlx, hA⟩, hs, hd, htl⟩ := h
  have hown : w.ownsRow 0 e sz v n xs := by
    refine ⟨hlx, ?_⟩
    rcases hA with h2 | ⟨g, cap, cur, hv, hm, h4⟩
    · exact .inl h2
    · exact .inr ⟨g, cap, cur, hv, Nat.zero_le _, hs g _ hm, h4⟩
  by_cases hroom : ∃ g cap cur, v = .slice (some ⟨g, 0, none⟩) n cap ∧ m0 g = some (.cells cur e (0, 0)) ∧ n ≤ cap ∧ cap ≤ maxLen ∧ cur.size = cap * sz ∧ cur.toList.take (n * sz) = xs ∧ n + m ≤ cap
  · obtain ⟨g, cap, cur, rfl, hm, hnc, hcm, hcs, htk, hr⟩ := hroom
    have hfit : n * sz + news.length ≤ cur.size := by rw [hl, hcs, ← Nat.add_mul]; exact Nat.mul_le_mul_right _ hr
    have hrun := run_append_room (P := P) w t ty e i ht hi g n cap cur (hs g _ hm) a m c news (by rw [hl, hsize]) hnews h1 hr (by rw [hsize]; exact hfit)
    refine ⟨_, _, hrun, ?_⟩
    have hS : SatL E w (Cells g cur e :: L) := ⟨o1, o2, o3, m0, hm, hs, hd, htl⟩
    rw [hsize]
    refine (hS.setRow (cs' := (cur.toList.take (n * sz) ++ news ++ cur.toList.drop (n * sz + news.length)).toArray)).closeRow (sz := sz) (cap := cap) ⟨rfl, by rw [List.length_append, hlx, hl, Nat.add_mul], hr, hcm, ?_, ?_⟩
    · have h9 : n * sz ≤ cur.size := by omega
      simp only [List.size_toArray, List.length_append, List.length_take, List.length_drop, Array.length_toList]
      rw [← hcs]; omega
    · simp only
      rw [htk, List.take_append_of_le_length (by rw [List.length_append, hlx, hl, Nat.add_mul]; exact Nat.le_refl _), List.take_of_length_le (by rw [List.length_append, hlx, hl, Nat.add_mul]; exact Nat.le_refl _)]
  · have grow : ∀ (old : Nat), old < n + m → SatL E (w.drew.alloc (.cells (xs.toArray ++ news.toArray ++ Builtin.zeroCells z.cells (grownCap w (n + m) old e - (n + m))) e))
        (Row e sz (.slice (some ⟨w.heap.size, 0, none⟩) (n + m) (grownCap w (n + m) old e)) (n + m) (xs ++ news) :: L) := by
      intro old ho
      have hS : SatL E w L := ⟨o1, o2, o3, htl.mono fun _ hk => .inl hk⟩
      have hge := grownCap_ge w (n + m) old e
      have hlen : (xs ++ news).length = (n + m) * sz := by rw [List.length_append, hlx, hl, Nat.add_mul]
      refine (hS.drew.alloc _).closeRow (cap := grownCap w (n + m) old e) ⟨rfl, hlen, hge, grownCap_le_maxLen w (n + m) old e h63, ?_, ?_⟩
      · simp only [Array.size_append, List.size_toArray, size_zeroCells, hzs, hlx, hl, ← Nat.add_mul]
        congr 1
        omega
      · simp only [Array.toList_append, List.append_assoc]
        rw [← List.append_assoc, ← hlen]
        exact List.take_left
    have hsmall : n + m ≤ 9223372036854775807 := by simp only [maxLen] at h63; omega
    rcases hA with ⟨rfl, rfl⟩ | ⟨g, cap, cur, rfl, hm, hnc, hcm, hcs, htk⟩
    · have hx : xs = [] := List.eq_nil_of_length_eq_zero (by simpa using hlx)
      subst hx
      by_cases hm0 : m = 0
      · subst hm0
        have hn0 : news = [] := List.eq_nil_of_length_eq_zero (by simpa using hl)
        subst hn0
        refine ⟨.slice none 0 0, w, ?_, ?_⟩
        · have hf := run_firstCells_some (P := P) w sz 0 a 0 c [] (by simp) (by simp)
          simp [Builtin.append_, run_underlying ht, sizeOf, typeInfo, hi, Builtin.lenOf, hsize, hf]
        · exact (SatL.mk o1 o2 o3 (htl.mono fun _ hk => .inl hk)).rowNil
      · have hrun := run_append_nil (P := P) (w := w) t ty e i z ht hi hz a m c news (by rw [hl, hsize]) hnews (by omega) (by omega) (by rw [hby]; simp at hbytes; omega)
        refine ⟨_, _, hrun, ?_⟩
        have := grow 0 (by omega)
        simpa using this
    · have hng : cap < n + m := by
        rcases Nat.lt_or_ge cap (n + m) with h2 | h2
        · exact h2
        · exact absurd ⟨g, cap, cur, rfl, hm, hnc, hcm, hcs, htk, h2⟩ hroom
      have hgr : SatL E w (Cells g cur e :: L) := ⟨o1, o2, o3, m0, hm, hs, hd, htl⟩
      have hrun := run_append_grow (P := P) (w := w) t ty e i z ht hi hz ⟨g, 0, none⟩ n cap xs (by rw [hlx, hsize]) (fun j u hj => by
          rw [add_pt, Nat.zero_add]
          refine hgr.cell 0 rfl ?_
          rw [← htk, List.getElem?_take] at hj
          split at hj
          · simpa using hj
          · cases hj) a m c news (by rw [hl, hsize]) hnews hng (by omega) (by rw [hby]; exact growslice_fits hng hbytes)
      exact ⟨_, _, hrun, grow cap hng⟩


/-! building -/
theorem fold_seg : ∀ (vs : List Value) (cells : Array Value) (off j0 : Nat), off + j0 + vs.length ≤ cells.size →
    (vs.zipIdx j0).foldl (fun cs (p : Value × Nat) => cs.setIfInBounds (off + p.2) p.1) cells = (cells.toList.take (off + j0) ++ vs ++ cells.toList.drop (off + j0 + vs.length)).toArray
  | [], cells, off, j0, _ => by simp
  | v :: vs, cells, off, j0, h => by
    simp only [List.length_cons] at h
    simp only [List.zipIdx_cons, List.foldl_cons]
    rw [fold_seg vs _ off (j0 + 1) (by simp; omega)]
    apply Array.ext'
    simp only [Array.toList_setIfInBounds, List.length_cons]
    rw [List.take_set, List.drop_set]
    rw [if_pos (show off + j0 < off + (j0 + 1) + vs.length by omega)]
    rw [show off + (j0 + 1) = off + j0 + 1 by omega]
    have hl : off + j0 < cells.toList.length := by simp; omega
    rw [List.take_succ_eq_append_getElem hl, List.set_append_right _ _ (by rw [List.length_take]; omega)]
    have e : (off + j0) - (cells.toList.take (off + j0)).length = 0 := by simp; omega
    rw [e]
    simp only [List.set_cons_zero, List.append_assoc, List.cons_append, List.nil_append]
    rw [show off + j0 + (vs.length + 1) = off + j0 + 1 + vs.length by omega]

theorem run_fill_one (place : Nat → Option (Nat × Nat)) (cells : Array Value) (i off size : Nat) (v : Value) (rest : List (Nat × Value)) (hp : place i = some (off, size)) (hs : v.cells.size = size) (hf : off + size ≤ cells.size) :
    Instr.fill place cells ((i, v) :: rest) = Instr.fill place (cells.toList.take off ++ v.cells.toList ++ cells.toList.drop (off + size)).toArray rest := by
  have h1 : ¬ (v.cells.size ≠ size ∨ off + v.cells.size > cells.size) := by omega
  have h2 := fold_seg v.cells.toList cells off 0 (by simp [hs]; omega)
  have h3 : v.cells.zipIdx.foldl (fun cs (x : Value × Nat) => cs.setIfInBounds (off + x.2) x.1) cells = (cells.toList.take off ++ v.cells.toList ++ cells.toList.drop (off + size)).toArray := by
    rw [← Array.foldl_toList, Array.toList_zipIdx, h2]
    simp [hs]
  rw [← h3]
  conv => lhs; unfold Instr.fill
  have h4 : (decide (v.cells.size ≠ size) || decide (off + v.cells.size > cells.size)) = false := by simp; omega
  simp only [hp]
  rw [h4]; rfl

section
variable {P : Program} {f : Nat → Value} {w : World} {d : Option Tmp} {ty : TypeId} {pos : String} {af : Array Edge} {g : Option (Nat × Bool)}

/-- a struct of two: a thing and a bool behind it -/
theorem r_place {T : TypeId} {f0 f1 : Field} {k : Nat} {x y : Operand} {zs c : Array Value} {v : Value} {b : Bool} (hu : P.underlying T = some (.struct #[f0, f1])) (hz : ∀ w, (zeroValue T).run P w = .ok (.agg zs) w)
    (hs0 : ∀ w, (sizeOf f0.type).run P w = .ok k w) (hs1 : ∀ w, (sizeOf f1.type).run P w = .ok 1 w) (ho0 : f0.offset = 0) (ho1 : f1.offset = k) (hzs : zs.size = k + 1)
    (hx : ev f x = v) (hv : v.cells = c) (hc : Ok k c) (hy : ev f y = .bool b) :
    (execOp (ev f) ⟨d, .build T #[(0, x), (1, y)], ty, pos, af, g⟩).run P w = .ok (.value (.agg (c ++ #[.bool b]))) w := by
  have hb : (Value.bool b).cells = #[.bool b] := rfl
  have hl : (zs.toList.drop (0 + k)).length = 1 := by simp [hzs]
  have hf : Instr.fill (fun i => (#[(0, k), (k, 1)] : Array (Nat × Nat))[i]?) zs [(0, v), (1, .bool b)] = some (c ++ #[.bool b]) := by
    rw [run_fill_one _ _ 0 0 k v _ rfl (by rw [hv]; exact hc.size) (by omega), hv]
    rw [run_fill_one _ _ 1 k 1 (.bool b) _ rfl rfl (by simp only [List.size_toArray, List.length_append, hl, List.take_zero, List.length_nil, Array.length_toList, hc.size]; omega), hb]
    simp only [Instr.fill]
    congr 1
    apply Array.ext'
    simp only [List.take_zero, List.nil_append, Array.toList_append]
    have hck : c.toList.length = k := by simp [hc.size]
    rw [List.take_append_of_le_length (by omega), List.take_of_length_le (by omega), List.drop_eq_nil_of_le (by simp only [List.length_append, hl]; omega)]
    simp
  have hf' : Instr.fill (fun i => [(0, k), (k, 1)][i]?) (Value.agg zs).cells [(0, v), (1, .bool b)] = some (c ++ #[.bool b]) := by rw [← hf]; rfl
  simp [execOp, Instr.build, hz, run_underlying hu, hs0, hs1, ho0, ho1, hx, hy, hf']

theorem r_buildSlice1 {T e : TypeId} {k : Nat} {x : Operand} {z v : Value} {c : Array Value} (hu : P.underlying T = some (.slice e)) (hs : ∀ w, (sizeOf e).run P w = .ok k w) (hz : ∀ w, (zeroValue e).run P w = .ok z w) (hk : Nat.ble 1 k = true) (hk2 : Nat.ble k 16777216 = true)
    (hx : ev f x = v) (hv : v.cells = c) (hc : Ok k c) :
    (execOp (ev f) ⟨d, .buildSlice T 1 #[(0, x)], ty, pos, af, g⟩).run P w = .ok (.value (.slice (some ⟨w.heap.size, 0, none⟩) 1 1)) (w.alloc (.cells c e)) := by
  have h1 : 1 ≤ k := Nat.ble_eq ▸ hk
  have h2 : k ≤ 16777216 := Nat.ble_eq ▸ hk2
  have hf : Instr.fill (fun i => some (i * k, k)) ((Array.range (1 * k)).map fun i => z.cells[i % z.cells.size]!) [(0, v)] = some c := by
    rw [run_fill_one _ _ 0 0 k v _ (by simp) (by rw [hv]; exact hc.size) (by simp), hv]
    simp only [Instr.fill]
    congr 1
    apply Array.ext'
    simp only [List.take_zero, List.nil_append]
    rw [List.drop_eq_nil_of_le (by simp)]
    simp
  have e1 : ¬ (16777216 < k) := by omega
  have e2 : ¬ (k = 0) := by omega
  have hf' : Instr.fill (fun i => some (i * k, k)) ((Array.range k).map fun i => z.cells[i % z.cells.size]!) [(0, v)] = some c := by rw [← hf, Nat.one_mul]
  simp [execOp, Instr.buildSlice, run_underlying hu, hs, hz, hx, e1, e2, newRow, hf']

/-- s[:n] of a slice -/
theorem r_sliceToN {T e : TypeId} {x y : Operand} {s : Nat} {kk : IntKind} {b o len cap n : Nat} (hu : P.underlying T = some (.slice e)) (hs : ∀ w, (sizeOf e).run P w = .ok s w)
    (hx : ev f x = .slice (some ⟨b, o, none⟩) len cap) (hy : ev f y = .int kk (n : Int)) (h1 : n ≤ cap) :
    (execOp (ev f) ⟨d, .slice T x none (some y) none, ty, pos, af, g⟩).run P w = .ok (.value (.slice (some ⟨b, o, none⟩) n cap)) w := by
  have h2 : (n : Int) ≤ (cap : Int) := by omega
  have h0 : (0 : Int) ≤ (n : Int) := by omega
  simp [execOp, hx, hy, Instr.sliceAt, Instr.slice, Instr.sliceBounds, Instr.sliceBound, asIntOf, run_underlying hu, hs, h1, add_pt]
theorem r_sliceTo {T e : TypeId} {x y : Operand} {s : Nat} {kk : IntKind} {b o len cap : Nat} {n : Int} (hu : P.underlying T = some (.slice e)) (hs : ∀ w, (sizeOf e).run P w = .ok s w)
    (hx : ev f x = .slice (some ⟨b, o, none⟩) len cap) (hy : ev f y = .int kk n) (h0 : 0 ≤ n) (h1 : n ≤ (cap : Int)) :
    (execOp (ev f) ⟨d, .slice T x none (some y) none, ty, pos, af, g⟩).run P w = .ok (.value (.slice (some ⟨b, o, none⟩) n.toNat cap)) w := by
  simp [execOp, hx, hy, Instr.sliceAt, Instr.slice, Instr.sliceBounds, Instr.sliceBound, asIntOf, run_underlying hu, hs, h0, h1, add_pt]
end

section
variable {ro : Option Nat} {P : Program} {ops : Array Oper} {R : Exit → (Nat → Value) → World → Prop} {n : Nat} {ds : List Deferred} {f : Nat → Value} {w : World} {E : Env} {L : List SProp}

theorem x_bslice {d : Nat} {T e ty : TypeId} {k : Nat} {x : Operand} {z v : Value} {c : Array Value} {pos : String} {af : Array Edge} {rest : List Oper} (h : SatL E w L) (hu : P.underlying T = some (.slice e)) (hs : ∀ w, (sizeOf e).run P w = .ok k w) (hz : ∀ w, (zeroValue e).run P w = .ok z w) (hk : Nat.ble 1 k = true) (hk2 : Nat.ble k 16777216 = true)
    (hx : ev f x = v) (hv : v.cells = c) (hc : Ok k c) (hn : Nat.blt d n = true)
    (hnext : ∀ b w', SatL E w' (Cells b c e :: L) → xw ro P ops R n ds rest (upd f d (.slice (some ⟨b, 0, none⟩) 1 1)) w') : xw ro P ops R n ds (⟨some d, .buildSlice T 1 #[(0, x)], ty, pos, af, none⟩ :: rest) f w :=
  x_val (r_buildSlice1 hu hs hz hk hk2 hx hv hc) (nd_of rfl) hn (hnext _ _ (h.alloc _))

theorem xp_bslice {S : World → Prop} {zz i : Nat} {plan : List (Nat × Nat)} {d : Nat} {T e ty : TypeId} {k : Nat} {x : Operand} {z v : Value} {c : Array Value} {pos : String} {af : Array Edge} (h : SatL E w L)
    (hi : ops[i]? = some ⟨some d, .buildSlice T 1 #[(0, x)], ty, pos, af, none⟩) (hu : P.underlying T = some (.slice e)) (hs : ∀ w, (sizeOf e).run P w = .ok k w) (hz : ∀ w, (zeroValue e).run P w = .ok z w) (hk : Nat.ble 1 k = true) (hk2 : Nat.ble k 16777216 = true)
    (hx : ev f x = v) (hv : v.cells = c) (hc : Ok k c) (hn : Nat.blt d n = true)
    (hnext : ∀ b w', SatL E w' (Cells b c e :: L) → (i ≠ zz → S w') ∧ xp P ops S zz R n ds plan (upd f d (.slice (some ⟨b, 0, none⟩) 1 1)) w') : xp P ops S zz R n ds ((i, 0) :: plan) f w :=
  have h1 := hnext _ _ (h.alloc (.cells c e))
  xp_val hi (r_buildSlice1 hu hs hz hk hk2 hx hv hc) hn h1.1 h1.2

/-- the run of an append of what lies in a block of its own -/
theorem run_append_block {e t ty : TypeId} {sz bytes m : Nat} {v : Value} {k : Nat} {xs : List Value} {b : Nat} {c : Array Value}
    (h : SatL E w (Row e sz v k xs :: Cells b c e :: L)) (ht : P.underlying t = some (.slice e)) (hinfo : (P.info? e).map (fun i => (i.zero.map (·.cells.size), i.size, i.bytes)) = some (some sz, sz, bytes))
    (hc : Ok (m * sz) c) (hbytes : (k + m) * bytes ≤ 140737488355328) (h63 : k + m ≤ 9223372036854775807) :
    ∃ v' w', (Builtin.append_ #[t, t] ty #[v, .slice (some ⟨b, 0, none⟩) m m]).run P w = .ok v' w' ∧ SatL E w' (Row e sz v' (k + m) (xs ++ c.toList) :: Cells b c e :: L) := by
  obtain ⟨i, hi, hii⟩ := Option.map_eq_some_iff.1 hinfo
  simp only [Prod.mk.injEq] at hii
  obtain ⟨z, hz, hzs⟩ := Option.map_eq_some_iff.1 hii.1
  exact h.append ht hi hz hii.2.1 hii.2.2 hzs ⟨b, 0, none⟩ m m c.toList (by simp [hc.size]) (fun j u hj => by
    rw [add_pt, Nat.zero_add]
    exact h.cell 1 rfl (by simpa using hj)) hc.one hbytes (by unfold maxLen; omega)

theorem r_append {d : Option Tmp} {t ty : TypeId} {pos : String} {af : Array Edge} {g : Option (Nat × Bool)} {x y : Operand} {a b v' : Value} {w' : World} (hx : ev f x = a) (hy : ev f y = b)
    (hr : (Builtin.append_ #[t, t] ty #[a, b]).run P w = .ok v' w') : (execOp (ev f) ⟨d, .call { callee := .builtin .append, args := #[x, y], argTypes := #[t, t] }, ty, pos, af, g⟩).run P w = .ok (.value v') w' := by
  simp [execOp, resolve, invoke, builtin, hx, hy, hr]

theorem x_append {d : Nat} {e t ty : TypeId} {sz bytes : Nat} {k m b : Nat} {v : Value} {xs : List Value} {c : Array Value} {x y : Operand} {pos : String} {af : Array Edge} {rest : List Oper}
    (h : SatL E w (Row e sz v k xs :: Cells b c e :: L)) (ht : P.underlying t = some (.slice e)) (hinfo : (P.info? e).map (fun i => (i.zero.map (·.cells.size), i.size, i.bytes)) = some (some sz, sz, bytes))
    (hx : ev f x = v) (hy : ev f y = .slice (some ⟨b, 0, none⟩) m m) (hc : Ok (m * sz) c) (hbytes : (k + m) * bytes ≤ 140737488355328) (h63 : k + m ≤ 9223372036854775807) (hn : Nat.blt d n = true)
    (hnext : ∀ v' w', SatL E w' (Row e sz v' (k + m) (xs ++ c.toList) :: Cells b c e :: L) → xw ro P ops R n ds rest (upd f d v') w') :
    xw ro P ops R n ds (⟨some d, .call { callee := .builtin .append, args := #[x, y], argTypes := #[t, t] }, ty, pos, af, none⟩ :: rest) f w :=
  let ⟨v', w', hr, hs⟩ := run_append_block (ty := ty) h ht hinfo hc hbytes h63
  x_val (r_append hx hy hr) (nd_of rfl) hn (hnext v' w' hs)

theorem xp_append {S : World → Prop} {zz i : Nat} {plan : List (Nat × Nat)} {d : Nat} {e t ty : TypeId} {sz bytes : Nat} {k m b : Nat} {v : Value} {xs : List Value} {c : Array Value} {x y : Operand} {pos : String} {af : Array Edge}
    (h : SatL E w (Row e sz v k xs :: Cells b c e :: L)) (hi : ops[i]? = some ⟨some d, .call { callee := .builtin .append, args := #[x, y], argTypes := #[t, t] }, ty, pos, af, none⟩) (ht : P.underlying t = some (.slice e)) (hinfo : (P.info? e).map (fun i => (i.zero.map (·.cells.size), i.size, i.bytes)) = some (some sz, sz, bytes))
    (hx : ev f x = v) (hy : ev f y = .slice (some ⟨b, 0, none⟩) m m) (hc : Ok (m * sz) c) (hbytes : (k + m) * bytes ≤ 140737488355328) (h63 : k + m ≤ 9223372036854775807) (hn : Nat.blt d n = true)
    (hnext : ∀ v' w', SatL E w' (Row e sz v' (k + m) (xs ++ c.toList) :: Cells b c e :: L) → (i ≠ zz → S w') ∧ xp P ops S zz R n ds plan (upd f d v') w') : xp P ops S zz R n ds ((i, 0) :: plan) f w :=
  let ⟨v', w', hr, hs⟩ := run_append_block (ty := ty) h ht hinfo hc hbytes h63
  have h1 := hnext v' w' hs
  xp_val hi (r_append hx hy hr) hn h1.1 h1.2
end
end Go.Proofs.Ytfmhcefjbghhlaa
