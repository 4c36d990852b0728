/-
Ropes: At, OffsetOf, Slice.
-/
import Derived.Test.YtmfkhfmidnojhaaP0
import Derived.Test.YtmfkhfmidnojhaaX9
namespace Go.Proofs.Ytmfkhfmidnojhaa
open Go Go.RowKit
section
variable {P : Program} {f : Nat → Value} {w : World} {d : Option Tmp} {ty : TypeId} {pos : String} {af : Array Edge} {g : Option (Tmp × Bool)}
theorem append_none_run {t ty e : TypeId} {i : TypeInfo} {base a2 : Option Addr} {sLen sCap c2 : Nat} (ht : P.underlying t = some (.slice e)) (hi : P.info? e = some i) (hle : sLen ≤ sCap) :
    (Builtin.append_ #[t, t] ty #[.slice base sLen sCap, .slice a2 0 c2]).run P w = .ok (.slice base sLen sCap) w := by
  have hl : ∀ (x : Addr), (loadCells x 0).run P w = .ok #[] w := fun x => by simpa using run_loadCells_list (P := P) w x [] (by simp)
  cases base <;> cases a2 <;> simp [Builtin.append_, run_underlying ht, sizeOf, typeInfo, hi, Builtin.lenOf, Builtin.firstCells, hle, storeCells, hl]
end
section
variable {E : Env} {L : List SProp} {w : World}
theorem append_rows {P : Program} {e t ty : TypeId} {sz bytes k n : Nat} {v v2 : Value} {xs ys : List Value} (h : SatL E w (Row e sz v k xs :: Row e sz v2 n ys :: L)) (ht : P.underlying t = some (.slice e)) (hinfo : (P.info? e).map (fun i => (i.zero.map (·.cells.size), i.size, i.bytes)) = some (some sz, sz, bytes))
    (h1 : ∀ u ∈ ys, u.oneCell' = true) (hbytes : (k + n) * bytes ≤ 140737488355328) (h63 : k + n ≤ 9223372036854775807) :
    ∃ v' w', (Builtin.append_ #[t, t] ty #[v, v2]).run P w = .ok v' w' ∧ SatL E w' (Row e sz v' (k + n) (xs ++ ys) :: Row e sz v2 n ys :: L) := by
  rcases Nat.eq_zero_or_pos n with h0 | h0
  · subst h0
    obtain ⟨i, hi, _⟩ := Option.map_eq_some_iff.1 hinfo
    obtain ⟨a, c, rfl, hle, _⟩ := h.rowVal
    obtain ⟨a2, c2, rfl, _, _⟩ := (h.f1).rowVal
    have hy : ys = [] := by
      obtain ⟨m, hA, _⟩ := h.at 1 rfl
      exact List.length_eq_zero_iff.1 (by simpa using hA.1)
    subst hy
    exact ⟨_, w, append_none_run ht hi hle, by simpa using h⟩
  · obtain ⟨g, cap, cur, hr, h2⟩ := (h.f1).openRow h0
    obtain rfl := hr.val
    obtain ⟨v', w', hrun, h3⟩ := run_append_at (ty := ty) (a := ⟨g, 0, none⟩) (c := cap) (h2.f1) ht hinfo hr.len (fun j u hj => by
      rw [add_pt, Nat.zero_add]
      exact h2.cell 0 rfl (hr.get hj)) h1 hbytes h63
    exact ⟨v', w', hrun, ((h3.f1).closeRow hr).f1⟩
theorem xp_append_rows {P : Program} {ops : Array Oper} {S : World → Prop} {zz i : Nat} {RR : Exit → (Nat → Value) → World → Prop} {N : Nat} {ds : List Deferred} {plan : List (Nat × Nat)} {f : Nat → Value} {d : Nat} {e t ty : TypeId} {sz bytes k n : Nat} {v v2 : Value} {xs ys : List Value} {x y : Operand} {pos : String} {af : Array Edge}
    (h : SatL E w (Row e sz v k xs :: Row e sz v2 n ys :: L)) (hi : ops[i]? = some ⟨some d, .call { callee := .builtin .append, args := #[x, y], argTypes := #[t, t] }, ty, pos, af, none⟩) (ht : P.underlying t = some (.slice e)) (hinfo : (P.info? e).map (fun i => (i.zero.map (·.cells.size), i.size, i.bytes)) = some (some sz, sz, bytes))
    (hx : ev f x = v) (hy : ev f y = v2) (h1 : ∀ u ∈ ys, u.oneCell' = true) (hbytes : (k + n) * bytes ≤ 140737488355328) (h63 : k + n ≤ 9223372036854775807) (hn : Nat.blt d N = true)
    (hnext : ∀ v' w', SatL E w' (Row e sz v' (k + n) (xs ++ ys) :: Row e sz v2 n ys :: L) → (i ≠ zz → S w') ∧ xp P ops S zz RR N ds plan (upd f d v') w') : xp P ops S zz RR N ds ((i, 0) :: plan) f w :=
  let ⟨v', w', hr, hs⟩ := append_rows (ty := ty) h ht hinfo h1 hbytes h63
  have h1 := hnext v' w' hs
  xp_val hi (r_append hx hy hr) hn h1.1 h1.2
end
/-- a variable that holds runes -/
def AccR (b : Nat) (d : List Int) : SProp := sex fun u : Value => star (Cells b #[u] 23) (Row 21 1 u d.length (i32s d))
abbrev RunesR (v : Value) (d : List Int) : SProp := Row 21 1 v d.length (i32s d)
section
variable {E : Env} {R : List SProp} {w : World} {b bt ba B B' : Nat} {t : List Int} {xs l : List X} {v : Value}
theorem SatL.openAccR {b : Nat} {d : List Int} (h : SatL E w (AccR b d :: R)) : ∃ u, SatL E w (Cells b #[u] 23 :: RunesR u d :: R) := by
  obtain ⟨u, h⟩ := h.openEx
  exact ⟨u, h.open⟩
theorem SatL.closeAccR {b : Nat} {d : List Int} {u : Value} (h : SatL E w (Cells b #[u] 23 :: RunesR u d :: R)) : SatL E w (AccR b d :: R) := h.close.closeEx u
theorem collect_t {i j c1 c2 c3 : Nat} (hi : i ≤ 1000000000000) (hj : j ≤ 1000000000000) (hl : (overL xs i j).length ≤ 1000000000)
    (h : SatL E w (Cells c3 #[.int .i64 (j : Int)] 3 :: Cells c2 #[.int .i64 (i : Int)] 3 :: Cells c1 #[pT bt] 42 :: TreeB bt ba xs B :: R)) :
    Calls Try.prog 33 #[.func (.func 67) #[] #[.pointer (some ⟨c1, 0, none⟩), .pointer (some ⟨c2, 0, none⟩), .pointer (some ⟨c3, 0, none⟩)]] w (Ret fun u w' => SatL E w' (XRow u (overL xs i j) :: TreeB bt ba xs B :: R)) := by
  refine calls_x Try.func33 rfl Try.ntmps33 rfl ?_
  refine xc_gen (fun g hg => ?_)
  have s0 := (hg 0).trans arg0
  clear hg
  refine xc_seq (fun K hK1 => ?_)
  refine xc_region ?_
  refine x_val (r_assign ec) (nd_of rfl) rfl ?_
  refine xw_nil ?_
  refine hK1 _ _ ?_
  refine xc_gen (fun g hg => ?_)
  have s0 := (hg 0).trans (en rfl s0)
  have s2 := (hg 2).trans es
  clear hg
  refine xc_seq (fun K hK2 => ?_)
  refine xc_region ?_
  refine x_val (r_move s0) (nd_of rfl) rfl ?_
  refine x_enter (r_call Try.call70 (.cons ec (.cons es .nil))) (nd_of rfl) rfl (appendSeq_t hi hj hl h) ?_
  rintro _ w h
  refine x_val (r_assign es) (nd_of rfl) rfl ?_
  refine xw_nil ?_
  refine hK2 _ _ ?_
  refine xc_gen (fun g hg => ?_)
  have s0 := (hg 0).trans (en rfl (en rfl (en rfl s0)))
  have s2 := (hg 2).trans es
  clear hg
  refine xc_ret ?_
  refine bodyR_1 rfl s2 ?_
  exact h
theorem atR {k : Nat} {r : Int} (hr : t[k]? = some r) (h : SatL E w (Rp b t B :: R)) : Calls Try.prog 21 #[pT b, .int .i64 (k : Int)] w (Ret fun v w' => v = .tuple #[.int .i32 r, .int .i64 0] ∧ SatL E w' (Rp b t B :: R)) := by
  obtain ⟨xs, rfl, hh⟩ := h.openRp
  clear h
  have h := hh
  clear hh
  have hbd := h.objFacts.2.1.2.1
  have hxok := h.objFacts.2.2
  have hkl := (List.getElem?_eq_some_iff.1 hr).1
  rw [← sz_txt] at hkl
  obtain ⟨x, o, hfs⟩ : ∃ x o, findL xs k = some (x, o) := by
    cases hf : findL xs k with
    | none => have := (find_none_iff xs k).1 hf; omega
    | some p => exact ⟨p.1, p.2, rfl⟩
  obtain ⟨h1, h2, h3⟩ := find_txt xs k hfs
  rw [hr] at h2
  have hxo := hxok x h3
  have hox := hxo.cells
  refine calls_x Try.func21 rfl Try.ntmps21 rfl ?_
  refine xc_gen (fun g hg => ?_)
  have s0 := (hg 0).trans arg0
  have s1 := (hg 1).trans arg1
  clear hg
  refine xc_seq (fun K hK1 => ?_)
  refine xc_region ?_
  refine x_val (r_assign ec) (nd_of rfl) rfl ?_
  refine x_val (r_assign ec) (nd_of rfl) rfl ?_
  refine xw_nil ?_
  refine hK1 _ _ ?_
  refine xc_gen (fun g hg => ?_)
  have s0 := (hg 0).trans (en rfl (en rfl s0))
  have s1 := (hg 1).trans (en rfl (en rfl s1))
  have s4 := (hg 4).trans (en rfl es)
  have s5 := (hg 5).trans es
  clear hg
  refine xc_seq (fun K hK2 => ?_)
  refine xc_seq (fun K hK3 => ?_)
  refine xc_region ?_
  refine x_val (r_move s0) (nd_of rfl) rfl ?_
  refine x_val (r_eqnil Try.underlying24 es ec (r := false) rfl) (nd_of rfl) rfl ?_
  refine xw_nil ?_
  refine hK3 _ _ ?_
  refine xc_gen (fun g hg => ?_)
  have s0 := (hg 0).trans (en rfl (en rfl s0))
  have s1 := (hg 1).trans (en rfl (en rfl s1))
  have s4 := (hg 4).trans (en rfl (en rfl s4))
  have s5 := (hg 5).trans (en rfl (en rfl s5))
  have s10 := (hg 10).trans es
  clear hg
  refine xc_cond s10 (fun hc => by cases hc) (fun _ => ?_)
  refine xc_skip ?_
  refine hK2 _ _ ?_
  refine xc_seq (fun K hK4 => ?_)
  refine xc_region ?_
  refine x_val (r_move s0) (nd_of rfl) rfl ?_
  refine x_enter (r_call Try.call25 (.cons es .nil)) (nd_of rfl) rfl (tree_o h) ?_
  rintro _ w ⟨bt, ba, rfl, h⟩
  refine x_val (r_move (en rfl (en rfl s1))) (nd_of rfl) rfl ?_
  have h := h.f1
  refine x_enter (r_call Try.call40 (.cons (en rfl es) (.cons es .nil))) (nd_of rfl) rfl (find_some hfs (by omega) h) ?_
  rintro _ w ⟨rfl, h⟩
  refine x_val (r_move es) (nd_of rfl) rfl ?_
  refine x_val (r_extract es gc0) (nd_of rfl) rfl ?_
  refine x_val (r_extract (en rfl es) gc1) (nd_of rfl) rfl ?_
  refine x_val (r_extract (en rfl (en rfl es)) gc2) (nd_of rfl) rfl ?_
  refine x_declA h Try.zeroValue58 Try.sizeOf58 rfl (en rfl (en rfl (en rfl es))) (by first | assumption | exact Ok.node (by assumption) | exact xOk.cells (by assumption) | exact ChOk.ok (by assumption)) rfl ?_
  intro b6 w h
  refine x_val (r_assign (en rfl (en rfl es))) (nd_of rfl) rfl ?_
  refine x_val (r_assign (en rfl (en rfl es))) (nd_of rfl) rfl ?_
  refine xw_nil ?_
  refine hK4 _ _ ?_
  refine xc_gen (fun g hg => ?_)
  have s0 := (hg 0).trans (en rfl (en rfl (en rfl (en rfl (en rfl (en rfl (en rfl (en rfl (en rfl (en rfl (en rfl s0)))))))))))
  have s1 := (hg 1).trans (en rfl (en rfl (en rfl (en rfl (en rfl (en rfl (en rfl (en rfl (en rfl (en rfl (en rfl s1)))))))))))
  have s4 := (hg 4).trans (en rfl (en rfl (en rfl (en rfl (en rfl (en rfl (en rfl (en rfl (en rfl (en rfl (en rfl s4)))))))))))
  have s5 := (hg 5).trans (en rfl (en rfl (en rfl (en rfl (en rfl (en rfl (en rfl (en rfl (en rfl (en rfl (en rfl s5)))))))))))
  have s6 := (hg 6).trans (en rfl (en rfl es))
  have s7 := (hg 7).trans (en rfl es)
  have s8 := (hg 8).trans es
  have s10 := (hg 10).trans (en rfl (en rfl (en rfl (en rfl (en rfl (en rfl (en rfl (en rfl (en rfl (en rfl (en rfl s10)))))))))))
  clear hg
  refine xc_seq (fun K hK5 => ?_)
  refine xc_seq (fun K hK6 => ?_)
  refine xc_region ?_
  refine x_val (r_move s8) (nd_of rfl) rfl ?_
  refine x_val (r_not es rfl) (nd_of rfl) rfl ?_
  refine xw_nil ?_
  refine hK6 _ _ ?_
  refine xc_gen (fun g hg => ?_)
  have s0 := (hg 0).trans (en rfl (en rfl s0))
  have s1 := (hg 1).trans (en rfl (en rfl s1))
  have s4 := (hg 4).trans (en rfl (en rfl s4))
  have s5 := (hg 5).trans (en rfl (en rfl s5))
  have s6 := (hg 6).trans (en rfl (en rfl s6))
  have s7 := (hg 7).trans (en rfl (en rfl s7))
  have s8 := (hg 8).trans (en rfl (en rfl s8))
  have s10 := (hg 10).trans (en rfl (en rfl s10))
  have s20 := (hg 20).trans es
  clear hg
  refine xc_cond s20 (fun hc => by cases hc) (fun _ => ?_)
  refine xc_skip ?_
  refine hK5 _ _ ?_
  refine xc_seq (fun K hK7 => ?_)
  refine xc_region ?_
  refine x_val (r_loadAgg h 0 rfl Try.isAgg58 Try.sizeOf58 s6 (Ok.le (by first | assumption | exact Ok.node (by assumption) | exact xOk.cells (by assumption) | exact ChOk.ok (by assumption))) (ext_full (Ok.size (by first | assumption | exact Ok.node (by assumption) | exact xOk.cells (by assumption) | exact ChOk.ok (by assumption))))) (nd_of rfl) rfl ?_
  refine x_val (r_move (en rfl s7)) (nd_of rfl) rfl ?_
  refine x_enter (r_call Try.call41 (.cons (en rfl es) (.cons es .nil))) (nd_of rfl) rfl (chAt_ok hxo h2.symm h) ?_
  rintro _ w ⟨rfl, h⟩
  refine x_val (r_extract es gc0) (nd_of rfl) rfl ?_
  refine x_val (r_extract (en rfl es) gc1) (nd_of rfl) rfl ?_
  refine x_val (r_assign (en rfl es)) (nd_of rfl) rfl ?_
  refine x_val (r_assign (en rfl es)) (nd_of rfl) rfl ?_
  refine xw_nil ?_
  refine hK7 _ _ ?_
  refine xc_gen (fun g hg => ?_)
  have s0 := (hg 0).trans (en rfl (en rfl (en rfl (en rfl (en rfl (en rfl (en rfl s0)))))))
  have s1 := (hg 1).trans (en rfl (en rfl (en rfl (en rfl (en rfl (en rfl (en rfl s1)))))))
  have s4 := (hg 4).trans (en rfl es)
  have s5 := (hg 5).trans es
  have s6 := (hg 6).trans (en rfl (en rfl (en rfl (en rfl (en rfl (en rfl (en rfl s6)))))))
  have s7 := (hg 7).trans (en rfl (en rfl (en rfl (en rfl (en rfl (en rfl (en rfl s7)))))))
  have s8 := (hg 8).trans (en rfl (en rfl (en rfl (en rfl (en rfl (en rfl (en rfl s8)))))))
  have s10 := (hg 10).trans (en rfl (en rfl (en rfl (en rfl (en rfl (en rfl (en rfl s10)))))))
  have s20 := (hg 20).trans (en rfl (en rfl (en rfl (en rfl (en rfl (en rfl (en rfl s20)))))))
  clear hg
  refine xc_ret ?_
  refine bodyR_2 rfl s4 s5 ?_
  exact ⟨rfl, SatL.closeRp rfl (SatL.closeObj (h.drop.f1))⟩
theorem at_noR {i : Int} (hi : I64 i) (hp : i < 0 ∨ (t.length : Int) ≤ i) (h : SatL E w (Rp b t B :: R)) : Calls Try.prog 21 #[pT b, .int .i64 i] w (Ret fun v w' => v = .tuple #[.int .i32 0, .int .i64 5] ∧ SatL E w' (Rp b t B :: R)) := by
  obtain ⟨xs, rfl, hh⟩ := h.openRp
  clear h
  have h := hh
  clear hh
  have hz0 := zOk
  rcases Int.lt_or_le i 0 with h0 | h0
  · skip
    refine calls_x Try.func21 rfl Try.ntmps21 rfl ?_
    refine xc_gen (fun g hg => ?_)
    have s0 := (hg 0).trans arg0
    have s1 := (hg 1).trans arg1
    clear hg
    refine xc_seq (fun K hK1 => ?_)
    refine xc_region ?_
    refine x_val (r_assign ec) (nd_of rfl) rfl ?_
    refine x_val (r_assign ec) (nd_of rfl) rfl ?_
    refine xw_nil ?_
    refine hK1 _ _ ?_
    refine xc_gen (fun g hg => ?_)
    have s0 := (hg 0).trans (en rfl (en rfl s0))
    have s1 := (hg 1).trans (en rfl (en rfl s1))
    have s4 := (hg 4).trans (en rfl es)
    have s5 := (hg 5).trans es
    clear hg
    refine xc_seq (fun K hK2 => ?_)
    refine xc_seq (fun K hK3 => ?_)
    refine xc_region ?_
    refine x_val (r_move s0) (nd_of rfl) rfl ?_
    refine x_val (r_eqnil Try.underlying24 es ec (r := false) rfl) (nd_of rfl) rfl ?_
    refine xw_nil ?_
    refine hK3 _ _ ?_
    refine xc_gen (fun g hg => ?_)
    have s0 := (hg 0).trans (en rfl (en rfl s0))
    have s1 := (hg 1).trans (en rfl (en rfl s1))
    have s4 := (hg 4).trans (en rfl (en rfl s4))
    have s5 := (hg 5).trans (en rfl (en rfl s5))
    have s10 := (hg 10).trans es
    clear hg
    refine xc_cond s10 (fun hc => by cases hc) (fun _ => ?_)
    refine xc_skip ?_
    refine hK2 _ _ ?_
    refine xc_seq (fun K hK4 => ?_)
    refine xc_region ?_
    refine x_val (r_move s0) (nd_of rfl) rfl ?_
    refine x_enter (r_call Try.call25 (.cons es .nil)) (nd_of rfl) rfl (tree_o h) ?_
    rintro _ w ⟨bt, ba, rfl, h⟩
    refine x_val (r_move (en rfl (en rfl s1))) (nd_of rfl) rfl ?_
    have h := h.f1
    refine x_enter (r_call Try.call40 (.cons (en rfl es) (.cons es .nil))) (nd_of rfl) rfl (find_neg h0 h) ?_
    rintro _ w ⟨rfl, h⟩
    refine x_val (r_move es) (nd_of rfl) rfl ?_
    refine x_val (r_extract es gc0) (nd_of rfl) rfl ?_
    refine x_val (r_extract (en rfl es) gc1) (nd_of rfl) rfl ?_
    refine x_val (r_extract (en rfl (en rfl es)) gc2) (nd_of rfl) rfl ?_
    refine x_declA h Try.zeroValue58 Try.sizeOf58 rfl (en rfl (en rfl (en rfl es))) (by first | assumption | exact Ok.node (by assumption) | exact xOk.cells (by assumption) | exact ChOk.ok (by assumption)) rfl ?_
    intro b6 w h
    refine x_val (r_assign (en rfl (en rfl es))) (nd_of rfl) rfl ?_
    refine x_val (r_assign (en rfl (en rfl es))) (nd_of rfl) rfl ?_
    refine xw_nil ?_
    refine hK4 _ _ ?_
    refine xc_gen (fun g hg => ?_)
    have s0 := (hg 0).trans (en rfl (en rfl (en rfl (en rfl (en rfl (en rfl (en rfl (en rfl (en rfl (en rfl (en rfl s0)))))))))))
    have s1 := (hg 1).trans (en rfl (en rfl (en rfl (en rfl (en rfl (en rfl (en rfl (en rfl (en rfl (en rfl (en rfl s1)))))))))))
    have s4 := (hg 4).trans (en rfl (en rfl (en rfl (en rfl (en rfl (en rfl (en rfl (en rfl (en rfl (en rfl (en rfl s4)))))))))))
    have s5 := (hg 5).trans (en rfl (en rfl (en rfl (en rfl (en rfl (en rfl (en rfl (en rfl (en rfl (en rfl (en rfl s5)))))))))))
    have s6 := (hg 6).trans (en rfl (en rfl es))
    have s7 := (hg 7).trans (en rfl es)
    have s8 := (hg 8).trans es
    have s10 := (hg 10).trans (en rfl (en rfl (en rfl (en rfl (en rfl (en rfl (en rfl (en rfl (en rfl (en rfl (en rfl s10)))))))))))
    clear hg
    refine xc_seq (fun K hK5 => ?_)
    refine xc_seq (fun K hK6 => ?_)
    refine xc_region ?_
    refine x_val (r_move s8) (nd_of rfl) rfl ?_
    refine x_val (r_not es rfl) (nd_of rfl) rfl ?_
    refine xw_nil ?_
    refine hK6 _ _ ?_
    refine xc_gen (fun g hg => ?_)
    have s0 := (hg 0).trans (en rfl (en rfl s0))
    have s1 := (hg 1).trans (en rfl (en rfl s1))
    have s4 := (hg 4).trans (en rfl (en rfl s4))
    have s5 := (hg 5).trans (en rfl (en rfl s5))
    have s6 := (hg 6).trans (en rfl (en rfl s6))
    have s7 := (hg 7).trans (en rfl (en rfl s7))
    have s8 := (hg 8).trans (en rfl (en rfl s8))
    have s10 := (hg 10).trans (en rfl (en rfl s10))
    have s20 := (hg 20).trans es
    clear hg
    refine xc_cond s20 (fun _ => ?_) (fun hc => by cases hc)
    refine xc_seq (fun K hK7 => ?_)
    refine xc_region ?_
    refine x_val (r_assign ec) (nd_of rfl) rfl ?_
    refine x_val (r_assign ec) (nd_of rfl) rfl ?_
    refine xw_nil ?_
    refine hK7 _ _ ?_
    refine xc_gen (fun g hg => ?_)
    have s0 := (hg 0).trans (en rfl (en rfl s0))
    have s1 := (hg 1).trans (en rfl (en rfl s1))
    have s4 := (hg 4).trans (en rfl es)
    have s5 := (hg 5).trans es
    have s6 := (hg 6).trans (en rfl (en rfl s6))
    have s7 := (hg 7).trans (en rfl (en rfl s7))
    have s8 := (hg 8).trans (en rfl (en rfl s8))
    have s10 := (hg 10).trans (en rfl (en rfl s10))
    have s20 := (hg 20).trans (en rfl (en rfl s20))
    clear hg
    refine xc_ret ?_
    refine bodyR_2 rfl s4 s5 ?_
    exact ⟨rfl, SatL.closeRp rfl (SatL.closeObj (h.drop.f1))⟩
  · obtain ⟨n, rfl⟩ := Int.eq_ofNat_of_zero_le h0
    have hfn : findL xs n = none := (find_none_iff xs n).2 (by rw [sz_txt]; omega)
    have hI := hi.2
    refine calls_x Try.func21 rfl Try.ntmps21 rfl ?_
    refine xc_gen (fun g hg => ?_)
    have s0 := (hg 0).trans arg0
    have s1 := (hg 1).trans arg1
    clear hg
    refine xc_seq (fun K hK1 => ?_)
    refine xc_region ?_
    refine x_val (r_assign ec) (nd_of rfl) rfl ?_
    refine x_val (r_assign ec) (nd_of rfl) rfl ?_
    refine xw_nil ?_
    refine hK1 _ _ ?_
    refine xc_gen (fun g hg => ?_)
    have s0 := (hg 0).trans (en rfl (en rfl s0))
    have s1 := (hg 1).trans (en rfl (en rfl s1))
    have s4 := (hg 4).trans (en rfl es)
    have s5 := (hg 5).trans es
    clear hg
    refine xc_seq (fun K hK2 => ?_)
    refine xc_seq (fun K hK3 => ?_)
    refine xc_region ?_
    refine x_val (r_move s0) (nd_of rfl) rfl ?_
    refine x_val (r_eqnil Try.underlying24 es ec (r := false) rfl) (nd_of rfl) rfl ?_
    refine xw_nil ?_
    refine hK3 _ _ ?_
    refine xc_gen (fun g hg => ?_)
    have s0 := (hg 0).trans (en rfl (en rfl s0))
    have s1 := (hg 1).trans (en rfl (en rfl s1))
    have s4 := (hg 4).trans (en rfl (en rfl s4))
    have s5 := (hg 5).trans (en rfl (en rfl s5))
    have s10 := (hg 10).trans es
    clear hg
    refine xc_cond s10 (fun hc => by cases hc) (fun _ => ?_)
    refine xc_skip ?_
    refine hK2 _ _ ?_
    refine xc_seq (fun K hK4 => ?_)
    refine xc_region ?_
    refine x_val (r_move s0) (nd_of rfl) rfl ?_
    refine x_enter (r_call Try.call25 (.cons es .nil)) (nd_of rfl) rfl (tree_o h) ?_
    rintro _ w ⟨bt, ba, rfl, h⟩
    refine x_val (r_move (en rfl (en rfl s1))) (nd_of rfl) rfl ?_
    have h := h.f1
    refine x_enter (r_call Try.call40 (.cons (en rfl es) (.cons es .nil))) (nd_of rfl) rfl (find_none hfn (by omega) h) ?_
    rintro _ w ⟨rfl, h⟩
    refine x_val (r_move es) (nd_of rfl) rfl ?_
    refine x_val (r_extract es gc0) (nd_of rfl) rfl ?_
    refine x_val (r_extract (en rfl es) gc1) (nd_of rfl) rfl ?_
    refine x_val (r_extract (en rfl (en rfl es)) gc2) (nd_of rfl) rfl ?_
    refine x_declA h Try.zeroValue58 Try.sizeOf58 rfl (en rfl (en rfl (en rfl es))) (by first | assumption | exact Ok.node (by assumption) | exact xOk.cells (by assumption) | exact ChOk.ok (by assumption)) rfl ?_
    intro b6 w h
    refine x_val (r_assign (en rfl (en rfl es))) (nd_of rfl) rfl ?_
    refine x_val (r_assign (en rfl (en rfl es))) (nd_of rfl) rfl ?_
    refine xw_nil ?_
    refine hK4 _ _ ?_
    refine xc_gen (fun g hg => ?_)
    have s0 := (hg 0).trans (en rfl (en rfl (en rfl (en rfl (en rfl (en rfl (en rfl (en rfl (en rfl (en rfl (en rfl s0)))))))))))
    have s1 := (hg 1).trans (en rfl (en rfl (en rfl (en rfl (en rfl (en rfl (en rfl (en rfl (en rfl (en rfl (en rfl s1)))))))))))
    have s4 := (hg 4).trans (en rfl (en rfl (en rfl (en rfl (en rfl (en rfl (en rfl (en rfl (en rfl (en rfl (en rfl s4)))))))))))
    have s5 := (hg 5).trans (en rfl (en rfl (en rfl (en rfl (en rfl (en rfl (en rfl (en rfl (en rfl (en rfl (en rfl s5)))))))))))
    have s6 := (hg 6).trans (en rfl (en rfl es))
    have s7 := (hg 7).trans (en rfl es)
    have s8 := (hg 8).trans es
    have s10 := (hg 10).trans (en rfl (en rfl (en rfl (en rfl (en rfl (en rfl (en rfl (en rfl (en rfl (en rfl (en rfl s10)))))))))))
    clear hg
    refine xc_seq (fun K hK5 => ?_)
    refine xc_seq (fun K hK6 => ?_)
    refine xc_region ?_
    refine x_val (r_move s8) (nd_of rfl) rfl ?_
    refine x_val (r_not es rfl) (nd_of rfl) rfl ?_
    refine xw_nil ?_
    refine hK6 _ _ ?_
    refine xc_gen (fun g hg => ?_)
    have s0 := (hg 0).trans (en rfl (en rfl s0))
    have s1 := (hg 1).trans (en rfl (en rfl s1))
    have s4 := (hg 4).trans (en rfl (en rfl s4))
    have s5 := (hg 5).trans (en rfl (en rfl s5))
    have s6 := (hg 6).trans (en rfl (en rfl s6))
    have s7 := (hg 7).trans (en rfl (en rfl s7))
    have s8 := (hg 8).trans (en rfl (en rfl s8))
    have s10 := (hg 10).trans (en rfl (en rfl s10))
    have s20 := (hg 20).trans es
    clear hg
    refine xc_cond s20 (fun _ => ?_) (fun hc => by cases hc)
    refine xc_seq (fun K hK7 => ?_)
    refine xc_region ?_
    refine x_val (r_assign ec) (nd_of rfl) rfl ?_
    refine x_val (r_assign ec) (nd_of rfl) rfl ?_
    refine xw_nil ?_
    refine hK7 _ _ ?_
    refine xc_gen (fun g hg => ?_)
    have s0 := (hg 0).trans (en rfl (en rfl s0))
    have s1 := (hg 1).trans (en rfl (en rfl s1))
    have s4 := (hg 4).trans (en rfl es)
    have s5 := (hg 5).trans es
    have s6 := (hg 6).trans (en rfl (en rfl s6))
    have s7 := (hg 7).trans (en rfl (en rfl s7))
    have s8 := (hg 8).trans (en rfl (en rfl s8))
    have s10 := (hg 10).trans (en rfl (en rfl s10))
    have s20 := (hg 20).trans (en rfl (en rfl s20))
    clear hg
    refine xc_ret ?_
    refine bodyR_2 rfl s4 s5 ?_
    exact ⟨rfl, SatL.closeRp rfl (SatL.closeObj (h.drop.f1))⟩
theorem offsetOf0 (h : SatL E w (Rp b t B :: R)) : Calls Try.prog 20 #[pT b, .int .i64 0] w (Ret fun v w' => v = .tuple #[.int .i64 0, .int .i64 0] ∧ SatL E w' (Rp b t B :: R)) := by
  refine calls_x Try.func20 rfl Try.ntmps20 rfl ?_
  refine xc_gen (fun g hg => ?_)
  have s0 := (hg 0).trans arg0
  have s1 := (hg 1).trans arg1
  clear hg
  refine xc_seq (fun K hK1 => ?_)
  refine xc_region ?_
  refine x_val (r_assign ec) (nd_of rfl) rfl ?_
  refine x_val (r_assign ec) (nd_of rfl) rfl ?_
  refine xw_nil ?_
  refine hK1 _ _ ?_
  refine xc_gen (fun g hg => ?_)
  have s0 := (hg 0).trans (en rfl (en rfl s0))
  have s1 := (hg 1).trans (en rfl (en rfl s1))
  have s4 := (hg 4).trans (en rfl es)
  have s5 := (hg 5).trans es
  clear hg
  refine xc_seq (fun K hK2 => ?_)
  refine xc_block ?_
  refine xc_seq (fun K hK3 => ?_)
  refine xc_region ?_
  refine x_val (r_move s0) (nd_of rfl) rfl ?_
  refine x_val (r_eqnil Try.underlying24 es ec (r := false) rfl) (nd_of rfl) rfl ?_
  refine x_val (r_assign es) (nd_of rfl) rfl ?_
  refine xw_nil ?_
  refine hK3 _ _ ?_
  refine xc_gen (fun g hg => ?_)
  have s0 := (hg 0).trans (en rfl (en rfl (en rfl s0)))
  have s1 := (hg 1).trans (en rfl (en rfl (en rfl s1)))
  have s4 := (hg 4).trans (en rfl (en rfl (en rfl s4)))
  have s5 := (hg 5).trans (en rfl (en rfl (en rfl s5)))
  have s8 := (hg 8).trans es
  clear hg
  refine xc_cond s8 (fun hc => by cases hc) (fun _ => ?_)
  refine xc_seq (fun K hK4 => ?_)
  refine xc_region ?_
  refine x_val (r_move s1) (nd_of rfl) rfl ?_
  refine x_val (r_lss es ec (decide_eq_false (by omega))) (nd_of rfl) rfl ?_
  refine x_val (r_move es) (nd_of rfl) rfl ?_
  refine x_take (d := 14) rfl rfl es ?_
  refine x_val (r_move (en rfl (en rfl (en rfl s1)))) (nd_of rfl) rfl ?_
  refine x_take (d := 14) rfl rfl (en rfl es) ?_
  refine x_val (r_move (en rfl (en rfl (en rfl (en rfl s0))))) (nd_of rfl) rfl ?_
  refine x_take (d := 14) rfl rfl (en rfl (en rfl es)) ?_
  refine x_enter (r_call Try.call18 (.cons es .nil)) (nd_of rfl) rfl (newlinesR h) ?_
  rintro _ w ⟨rfl, h⟩
  refine x_take (d := 14) rfl rfl (en rfl (en rfl (en rfl es))) ?_
  refine x_val (r_gtr (en rfl (en rfl es)) es (decide_eq_false (by omega))) (nd_of rfl) rfl ?_
  refine x_val (r_pick_f (en rfl (en rfl (en rfl (en rfl es)))) es) (nd_of rfl) rfl ?_
  refine x_val (r_assign es) (nd_of rfl) rfl ?_
  refine xw_nil ?_
  refine hK4 _ _ ?_
  refine xc_gen (fun g hg => ?_)
  have s0 := (hg 0).trans (en rfl (en rfl (en rfl (en rfl (en rfl (en rfl (en rfl (en rfl (en rfl s0)))))))))
  have s1 := (hg 1).trans (en rfl (en rfl (en rfl (en rfl (en rfl (en rfl (en rfl (en rfl (en rfl s1)))))))))
  have s4 := (hg 4).trans (en rfl (en rfl (en rfl (en rfl (en rfl (en rfl (en rfl (en rfl (en rfl s4)))))))))
  have s5 := (hg 5).trans (en rfl (en rfl (en rfl (en rfl (en rfl (en rfl (en rfl (en rfl (en rfl s5)))))))))
  have s8 := (hg 8).trans (en rfl (en rfl (en rfl (en rfl (en rfl (en rfl (en rfl (en rfl (en rfl s8)))))))))
  have s11 := (hg 11).trans es
  clear hg
  refine xc_cond s11 (fun hc => by cases hc) (fun _ => ?_)
  refine xc_seq (fun K hK5 => ?_)
  refine xc_region ?_
  refine x_val (r_move s1) (nd_of rfl) rfl ?_
  refine x_val (r_eql es ec (decide_eq_true (by omega))) (nd_of rfl) rfl ?_
  refine x_val (r_assign es) (nd_of rfl) rfl ?_
  refine xw_nil ?_
  refine hK5 _ _ ?_
  refine xc_gen (fun g hg => ?_)
  have s0 := (hg 0).trans (en rfl (en rfl (en rfl s0)))
  have s1 := (hg 1).trans (en rfl (en rfl (en rfl s1)))
  have s4 := (hg 4).trans (en rfl (en rfl (en rfl s4)))
  have s5 := (hg 5).trans (en rfl (en rfl (en rfl s5)))
  have s8 := (hg 8).trans (en rfl (en rfl (en rfl s8)))
  have s11 := (hg 11).trans (en rfl (en rfl (en rfl s11)))
  have s20 := (hg 20).trans es
  clear hg
  refine xc_cond s20 (fun _ => ?_) (fun hc => by cases hc)
  refine xc_seq (fun K hK6 => ?_)
  refine xc_region ?_
  refine x_val (r_assign ec) (nd_of rfl) rfl ?_
  refine x_val (r_assign ec) (nd_of rfl) rfl ?_
  refine xw_nil ?_
  refine hK6 _ _ ?_
  refine xc_gen (fun g hg => ?_)
  have s0 := (hg 0).trans (en rfl (en rfl s0))
  have s1 := (hg 1).trans (en rfl (en rfl s1))
  have s4 := (hg 4).trans (en rfl es)
  have s5 := (hg 5).trans es
  have s8 := (hg 8).trans (en rfl (en rfl s8))
  have s11 := (hg 11).trans (en rfl (en rfl s11))
  have s20 := (hg 20).trans (en rfl (en rfl s20))
  clear hg
  refine xc_ret ?_
  refine bodyR_2 rfl s4 s5 ?_
  exact ⟨rfl, h⟩
theorem offsetOf_no {i : Int} (hp : i < 0 ∨ (t.count 10 : Int) < i) (h : SatL E w (Rp b t B :: R)) : Calls Try.prog 20 #[pT b, .int .i64 i] w (Ret fun v w' => v = .tuple #[.int .i64 0, .int .i64 5] ∧ SatL E w' (Rp b t B :: R)) := by
  rcases Int.lt_or_le i 0 with h0 | h0
  · skip
    refine calls_x Try.func20 rfl Try.ntmps20 rfl ?_
    refine xc_gen (fun g hg => ?_)
    have s0 := (hg 0).trans arg0
    have s1 := (hg 1).trans arg1
    clear hg
    refine xc_seq (fun K hK1 => ?_)
    refine xc_region ?_
    refine x_val (r_assign ec) (nd_of rfl) rfl ?_
    refine x_val (r_assign ec) (nd_of rfl) rfl ?_
    refine xw_nil ?_
    refine hK1 _ _ ?_
    refine xc_gen (fun g hg => ?_)
    have s0 := (hg 0).trans (en rfl (en rfl s0))
    have s1 := (hg 1).trans (en rfl (en rfl s1))
    have s4 := (hg 4).trans (en rfl es)
    have s5 := (hg 5).trans es
    clear hg
    refine xc_seq (fun K hK2 => ?_)
    refine xc_block ?_
    refine xc_seq (fun K hK3 => ?_)
    refine xc_region ?_
    refine x_val (r_move s0) (nd_of rfl) rfl ?_
    refine x_val (r_eqnil Try.underlying24 es ec (r := false) rfl) (nd_of rfl) rfl ?_
    refine x_val (r_assign es) (nd_of rfl) rfl ?_
    refine xw_nil ?_
    refine hK3 _ _ ?_
    refine xc_gen (fun g hg => ?_)
    have s0 := (hg 0).trans (en rfl (en rfl (en rfl s0)))
    have s1 := (hg 1).trans (en rfl (en rfl (en rfl s1)))
    have s4 := (hg 4).trans (en rfl (en rfl (en rfl s4)))
    have s5 := (hg 5).trans (en rfl (en rfl (en rfl s5)))
    have s8 := (hg 8).trans es
    clear hg
    refine xc_cond s8 (fun hc => by cases hc) (fun _ => ?_)
    refine xc_seq (fun K hK4 => ?_)
    refine xc_region ?_
    refine x_val (r_move s1) (nd_of rfl) rfl ?_
    refine x_val (r_lss es ec (decide_eq_true (by omega))) (nd_of rfl) rfl ?_
    refine x_val (r_move es) (nd_of rfl) rfl ?_
    refine x_pass (d := 14) rfl rfl es rfl ?_
    refine x_pass (d := 14) rfl rfl (en rfl es) rfl ?_
    refine x_pass (d := 14) rfl rfl (en rfl (en rfl es)) rfl ?_
    refine x_pass (d := 14) rfl rfl (en rfl (en rfl (en rfl es))) rfl ?_
    refine x_val (r_pick_t (en rfl (en rfl (en rfl (en rfl es)))) ec) (nd_of rfl) rfl ?_
    refine x_val (r_assign es) (nd_of rfl) rfl ?_
    refine xw_nil ?_
    refine hK4 _ _ ?_
    refine xc_gen (fun g hg => ?_)
    have s0 := (hg 0).trans (en rfl (en rfl (en rfl (en rfl (en rfl (en rfl (en rfl (en rfl (en rfl s0)))))))))
    have s1 := (hg 1).trans (en rfl (en rfl (en rfl (en rfl (en rfl (en rfl (en rfl (en rfl (en rfl s1)))))))))
    have s4 := (hg 4).trans (en rfl (en rfl (en rfl (en rfl (en rfl (en rfl (en rfl (en rfl (en rfl s4)))))))))
    have s5 := (hg 5).trans (en rfl (en rfl (en rfl (en rfl (en rfl (en rfl (en rfl (en rfl (en rfl s5)))))))))
    have s8 := (hg 8).trans (en rfl (en rfl (en rfl (en rfl (en rfl (en rfl (en rfl (en rfl (en rfl s8)))))))))
    have s11 := (hg 11).trans es
    clear hg
    refine xc_cond s11 (fun _ => ?_) (fun hc => by cases hc)
    refine xc_seq (fun K hK5 => ?_)
    refine xc_region ?_
    refine x_val (r_assign ec) (nd_of rfl) rfl ?_
    refine x_val (r_assign ec) (nd_of rfl) rfl ?_
    refine xw_nil ?_
    refine hK5 _ _ ?_
    refine xc_gen (fun g hg => ?_)
    have s0 := (hg 0).trans (en rfl (en rfl s0))
    have s1 := (hg 1).trans (en rfl (en rfl s1))
    have s4 := (hg 4).trans (en rfl es)
    have s5 := (hg 5).trans es
    have s8 := (hg 8).trans (en rfl (en rfl s8))
    have s11 := (hg 11).trans (en rfl (en rfl s11))
    clear hg
    refine xc_ret ?_
    refine bodyR_2 rfl s4 s5 ?_
    exact ⟨rfl, h⟩
  · skip
    refine calls_x Try.func20 rfl Try.ntmps20 rfl ?_
    refine xc_gen (fun g hg => ?_)
    have s0 := (hg 0).trans arg0
    have s1 := (hg 1).trans arg1
    clear hg
    refine xc_seq (fun K hK1 => ?_)
    refine xc_region ?_
    refine x_val (r_assign ec) (nd_of rfl) rfl ?_
    refine x_val (r_assign ec) (nd_of rfl) rfl ?_
    refine xw_nil ?_
    refine hK1 _ _ ?_
    refine xc_gen (fun g hg => ?_)
    have s0 := (hg 0).trans (en rfl (en rfl s0))
    have s1 := (hg 1).trans (en rfl (en rfl s1))
    have s4 := (hg 4).trans (en rfl es)
    have s5 := (hg 5).trans es
    clear hg
    refine xc_seq (fun K hK2 => ?_)
    refine xc_block ?_
    refine xc_seq (fun K hK3 => ?_)
    refine xc_region ?_
    refine x_val (r_move s0) (nd_of rfl) rfl ?_
    refine x_val (r_eqnil Try.underlying24 es ec (r := false) rfl) (nd_of rfl) rfl ?_
    refine x_val (r_assign es) (nd_of rfl) rfl ?_
    refine xw_nil ?_
    refine hK3 _ _ ?_
    refine xc_gen (fun g hg => ?_)
    have s0 := (hg 0).trans (en rfl (en rfl (en rfl s0)))
    have s1 := (hg 1).trans (en rfl (en rfl (en rfl s1)))
    have s4 := (hg 4).trans (en rfl (en rfl (en rfl s4)))
    have s5 := (hg 5).trans (en rfl (en rfl (en rfl s5)))
    have s8 := (hg 8).trans es
    clear hg
    refine xc_cond s8 (fun hc => by cases hc) (fun _ => ?_)
    refine xc_seq (fun K hK4 => ?_)
    refine xc_region ?_
    refine x_val (r_move s1) (nd_of rfl) rfl ?_
    refine x_val (r_lss es ec (decide_eq_false (by omega))) (nd_of rfl) rfl ?_
    refine x_val (r_move es) (nd_of rfl) rfl ?_
    refine x_take (d := 14) rfl rfl es ?_
    refine x_val (r_move (en rfl (en rfl (en rfl s1)))) (nd_of rfl) rfl ?_
    refine x_take (d := 14) rfl rfl (en rfl es) ?_
    refine x_val (r_move (en rfl (en rfl (en rfl (en rfl s0))))) (nd_of rfl) rfl ?_
    refine x_take (d := 14) rfl rfl (en rfl (en rfl es)) ?_
    refine x_enter (r_call Try.call18 (.cons es .nil)) (nd_of rfl) rfl (newlinesR h) ?_
    rintro _ w ⟨rfl, h⟩
    refine x_take (d := 14) rfl rfl (en rfl (en rfl (en rfl es))) ?_
    refine x_val (r_gtr (en rfl (en rfl es)) es (decide_eq_true (by omega))) (nd_of rfl) rfl ?_
    refine x_val (r_pick_f (en rfl (en rfl (en rfl (en rfl es)))) es) (nd_of rfl) rfl ?_
    refine x_val (r_assign es) (nd_of rfl) rfl ?_
    refine xw_nil ?_
    refine hK4 _ _ ?_
    refine xc_gen (fun g hg => ?_)
    have s0 := (hg 0).trans (en rfl (en rfl (en rfl (en rfl (en rfl (en rfl (en rfl (en rfl (en rfl s0)))))))))
    have s1 := (hg 1).trans (en rfl (en rfl (en rfl (en rfl (en rfl (en rfl (en rfl (en rfl (en rfl s1)))))))))
    have s4 := (hg 4).trans (en rfl (en rfl (en rfl (en rfl (en rfl (en rfl (en rfl (en rfl (en rfl s4)))))))))
    have s5 := (hg 5).trans (en rfl (en rfl (en rfl (en rfl (en rfl (en rfl (en rfl (en rfl (en rfl s5)))))))))
    have s8 := (hg 8).trans (en rfl (en rfl (en rfl (en rfl (en rfl (en rfl (en rfl (en rfl (en rfl s8)))))))))
    have s11 := (hg 11).trans es
    clear hg
    refine xc_cond s11 (fun _ => ?_) (fun hc => by cases hc)
    refine xc_seq (fun K hK5 => ?_)
    refine xc_region ?_
    refine x_val (r_assign ec) (nd_of rfl) rfl ?_
    refine x_val (r_assign ec) (nd_of rfl) rfl ?_
    refine xw_nil ?_
    refine hK5 _ _ ?_
    refine xc_gen (fun g hg => ?_)
    have s0 := (hg 0).trans (en rfl (en rfl s0))
    have s1 := (hg 1).trans (en rfl (en rfl s1))
    have s4 := (hg 4).trans (en rfl es)
    have s5 := (hg 5).trans es
    have s8 := (hg 8).trans (en rfl (en rfl s8))
    have s11 := (hg 11).trans (en rfl (en rfl s11))
    clear hg
    refine xc_ret ?_
    refine bodyR_2 rfl s4 s5 ?_
    exact ⟨rfl, h⟩
theorem offsetOfR {i : Int} {p : Nat} (h0 : 0 < i) (hp : nlAt t (i - 1) = some p) (hi : i ≤ (t.count 10 : Int)) (h : SatL E w (Rp b t B :: R)) : Calls Try.prog 20 #[pT b, .int .i64 i] w (Ret fun v w' => v = .tuple #[.int .i64 ((p + 1 : Nat) : Int), .int .i64 0] ∧ SatL E w' (Rp b t B :: R)) := by
  have hpl := nlAt_lt hp
  obtain ⟨xs, rfl, hh⟩ := h.openRp
  clear h
  have h := hh
  clear hh
  have hbd := h.objFacts.2.1.2.1
  have hbm := h.objFacts.2.1.2.2
  rw [sz_txt] at hbd
  rw [mks_txt] at hbm
  refine calls_x Try.func20 rfl Try.ntmps20 rfl ?_
  refine xc_gen (fun g hg => ?_)
  have s0 := (hg 0).trans arg0
  have s1 := (hg 1).trans arg1
  clear hg
  refine xc_seq (fun K hK1 => ?_)
  refine xc_region ?_
  refine x_val (r_assign ec) (nd_of rfl) rfl ?_
  refine x_val (r_assign ec) (nd_of rfl) rfl ?_
  refine xw_nil ?_
  refine hK1 _ _ ?_
  refine xc_gen (fun g hg => ?_)
  have s0 := (hg 0).trans (en rfl (en rfl s0))
  have s1 := (hg 1).trans (en rfl (en rfl s1))
  have s4 := (hg 4).trans (en rfl es)
  have s5 := (hg 5).trans es
  clear hg
  refine xc_seq (fun K hK2 => ?_)
  refine xc_block ?_
  refine xc_seq (fun K hK3 => ?_)
  refine xc_region ?_
  refine x_val (r_move s0) (nd_of rfl) rfl ?_
  refine x_val (r_eqnil Try.underlying24 es ec (r := false) rfl) (nd_of rfl) rfl ?_
  refine x_val (r_assign es) (nd_of rfl) rfl ?_
  refine xw_nil ?_
  refine hK3 _ _ ?_
  refine xc_gen (fun g hg => ?_)
  have s0 := (hg 0).trans (en rfl (en rfl (en rfl s0)))
  have s1 := (hg 1).trans (en rfl (en rfl (en rfl s1)))
  have s4 := (hg 4).trans (en rfl (en rfl (en rfl s4)))
  have s5 := (hg 5).trans (en rfl (en rfl (en rfl s5)))
  have s8 := (hg 8).trans es
  clear hg
  refine xc_cond s8 (fun hc => by cases hc) (fun _ => ?_)
  refine xc_seq (fun K hK4 => ?_)
  refine xc_region ?_
  refine x_val (r_move s1) (nd_of rfl) rfl ?_
  refine x_val (r_lss es ec (decide_eq_false (by omega))) (nd_of rfl) rfl ?_
  refine x_val (r_move es) (nd_of rfl) rfl ?_
  refine x_take (d := 14) rfl rfl es ?_
  refine x_val (r_move (en rfl (en rfl (en rfl s1)))) (nd_of rfl) rfl ?_
  refine x_take (d := 14) rfl rfl (en rfl es) ?_
  refine x_val (r_move (en rfl (en rfl (en rfl (en rfl s0))))) (nd_of rfl) rfl ?_
  refine x_take (d := 14) rfl rfl (en rfl (en rfl es)) ?_
  refine x_enter (r_call Try.call18 (.cons es .nil)) (nd_of rfl) rfl (newlinesR (SatL.closeRp rfl h)) ?_
  rintro _ w ⟨rfl, h⟩
  refine x_take (d := 14) rfl rfl (en rfl (en rfl (en rfl es))) ?_
  refine x_val (r_gtr (en rfl (en rfl es)) es (decide_eq_false (by omega))) (nd_of rfl) rfl ?_
  refine x_val (r_pick_f (en rfl (en rfl (en rfl (en rfl es)))) es) (nd_of rfl) rfl ?_
  refine x_val (r_assign es) (nd_of rfl) rfl ?_
  refine xw_nil ?_
  refine hK4 _ _ ?_
  refine xc_gen (fun g hg => ?_)
  have s0 := (hg 0).trans (en rfl (en rfl (en rfl (en rfl (en rfl (en rfl (en rfl (en rfl (en rfl s0)))))))))
  have s1 := (hg 1).trans (en rfl (en rfl (en rfl (en rfl (en rfl (en rfl (en rfl (en rfl (en rfl s1)))))))))
  have s4 := (hg 4).trans (en rfl (en rfl (en rfl (en rfl (en rfl (en rfl (en rfl (en rfl (en rfl s4)))))))))
  have s5 := (hg 5).trans (en rfl (en rfl (en rfl (en rfl (en rfl (en rfl (en rfl (en rfl (en rfl s5)))))))))
  have s8 := (hg 8).trans (en rfl (en rfl (en rfl (en rfl (en rfl (en rfl (en rfl (en rfl (en rfl s8)))))))))
  have s11 := (hg 11).trans es
  clear hg
  refine xc_cond s11 (fun hc => by cases hc) (fun _ => ?_)
  refine xc_seq (fun K hK5 => ?_)
  refine xc_region ?_
  refine x_val (r_move s1) (nd_of rfl) rfl ?_
  refine x_val (r_eql es ec (decide_eq_false (by omega))) (nd_of rfl) rfl ?_
  obtain ⟨ys, ey, h⟩ := h.openRp
  rw [← ey] at hp
  refine x_val (r_assign es) (nd_of rfl) rfl ?_
  refine xw_nil ?_
  refine hK5 _ _ ?_
  refine xc_gen (fun g hg => ?_)
  have s0 := (hg 0).trans (en rfl (en rfl (en rfl s0)))
  have s1 := (hg 1).trans (en rfl (en rfl (en rfl s1)))
  have s4 := (hg 4).trans (en rfl (en rfl (en rfl s4)))
  have s5 := (hg 5).trans (en rfl (en rfl (en rfl s5)))
  have s8 := (hg 8).trans (en rfl (en rfl (en rfl s8)))
  have s11 := (hg 11).trans (en rfl (en rfl (en rfl s11)))
  have s20 := (hg 20).trans es
  clear hg
  refine xc_cond s20 (fun hc => by cases hc) (fun _ => ?_)
  refine xc_skip ?_
  refine hK2 _ _ ?_
  refine xc_seq (fun K hK6 => ?_)
  refine xc_region ?_
  refine x_val (r_move s0) (nd_of rfl) rfl ?_
  refine x_enter (r_call Try.call25 (.cons es .nil)) (nd_of rfl) rfl (tree_o h) ?_
  rintro _ w ⟨bt, ba, rfl, h⟩
  refine x_val (r_move (en rfl (en rfl s1))) (nd_of rfl) rfl ?_
  refine x_val (r_sub es ec (show _ = (i - 1 : Int) from by rfl) (by unfold I64; omega)) (nd_of rfl) rfl ?_
  have h := h.f1
  refine x_enter (r_call Try.call37 (.cons (en rfl (en rfl es)) (.cons es (.cons ef .nil)))) (nd_of rfl) rfl (mark_t (by omega) (by omega) hp h) ?_
  rintro _ w ⟨rfl, h⟩
  refine x_val (r_move es) (nd_of rfl) rfl ?_
  refine x_val (r_extract es gc0) (nd_of rfl) rfl ?_
  refine x_val (r_extract (en rfl es) gc1) (nd_of rfl) rfl ?_
  refine x_val (r_assign (en rfl es)) (nd_of rfl) rfl ?_
  refine x_val (r_assign (en rfl es)) (nd_of rfl) rfl ?_
  refine xw_nil ?_
  refine hK6 _ _ ?_
  refine xc_gen (fun g hg => ?_)
  have s0 := (hg 0).trans (en rfl (en rfl (en rfl (en rfl (en rfl (en rfl (en rfl (en rfl (en rfl (en rfl s0))))))))))
  have s1 := (hg 1).trans (en rfl (en rfl (en rfl (en rfl (en rfl (en rfl (en rfl (en rfl (en rfl (en rfl s1))))))))))
  have s4 := (hg 4).trans (en rfl (en rfl (en rfl (en rfl (en rfl (en rfl (en rfl (en rfl (en rfl (en rfl s4))))))))))
  have s5 := (hg 5).trans (en rfl (en rfl (en rfl (en rfl (en rfl (en rfl (en rfl (en rfl (en rfl (en rfl s5))))))))))
  have s6 := (hg 6).trans (en rfl es)
  have s8 := (hg 8).trans (en rfl (en rfl (en rfl (en rfl (en rfl (en rfl (en rfl (en rfl (en rfl (en rfl s8))))))))))
  have s11 := (hg 11).trans (en rfl (en rfl (en rfl (en rfl (en rfl (en rfl (en rfl (en rfl (en rfl (en rfl s11))))))))))
  have s20 := (hg 20).trans (en rfl (en rfl (en rfl (en rfl (en rfl (en rfl (en rfl (en rfl (en rfl (en rfl s20))))))))))
  clear hg
  refine xc_seq (fun K hK7 => ?_)
  refine xc_region ?_
  refine x_val (r_move s6) (nd_of rfl) rfl ?_
  refine x_val (r_add es ec (show _ = (((p + 1 : Nat) : Int) : Int) from by omega) (by unfold I64; omega)) (nd_of rfl) rfl ?_
  refine x_val (r_assign es) (nd_of rfl) rfl ?_
  refine x_val (r_assign ec) (nd_of rfl) rfl ?_
  refine xw_nil ?_
  refine hK7 _ _ ?_
  refine xc_gen (fun g hg => ?_)
  have s0 := (hg 0).trans (en rfl (en rfl (en rfl (en rfl s0))))
  have s1 := (hg 1).trans (en rfl (en rfl (en rfl (en rfl s1))))
  have s4 := (hg 4).trans (en rfl es)
  have s5 := (hg 5).trans es
  have s6 := (hg 6).trans (en rfl (en rfl (en rfl (en rfl s6))))
  have s8 := (hg 8).trans (en rfl (en rfl (en rfl (en rfl s8))))
  have s11 := (hg 11).trans (en rfl (en rfl (en rfl (en rfl s11))))
  have s20 := (hg 20).trans (en rfl (en rfl (en rfl (en rfl s20))))
  clear hg
  refine xc_ret ?_
  refine bodyR_2 rfl s4 s5 ?_
  exact ⟨rfl, SatL.closeRp ey (SatL.closeObj h.f1)⟩
end
end Go.Proofs.Ytmfkhfmidnojhaa
