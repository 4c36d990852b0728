/-
The arena's All, ranged over: each taken place in order.
-/
import Derived.Test.YtfmhcefjbghhlaaD1
import Derived.Test.YtfmhcefjbghhlaaY4
namespace Go.Proofs.Ytfmhcefjbghhlaa
open Go Go.RowKit
def plA (pl : List (Option Int)) : List (Option (Array Value)) := pl.map (Option.map fun v => #[Value.int .i64 v])
theorem plA_get {pl : List (Option Int)} {k : Nat} {o : Option Int} (h : pl[k]? = some o) : (plA pl)[k]? = some (o.map fun v => #[Value.int .i64 v]) := by simp [plA, h]
theorem plA_len {pl : List (Option Int)} : (plA pl).length = pl.length := by simp [plA]
theorem ext2 {cur : Array Value} {i : Nat} {a b : Value} (h0 : cur[i]? = some a) (h1 : cur[i + 1]? = some b) : cur.extract i (i + 2) = #[a, b] := by
  have hl := (Array.getElem?_eq_some_iff.1 h1).1
  apply Array.ext
  · simp; omega
  · intro j hj1 hj2
    simp at hj2
    rw [Array.getElem_extract]
    rcases (show j = 0 ∨ j = 1 by omega) with rfl | rfl
    · exact (Array.getElem?_eq_some_iff.1 h0).2
    · exact (Array.getElem?_eq_some_iff.1 h1).2
section
variable {E : Env} {R L : List SProp} {w : World} {y : Value} {b ba : Nat} {pl : List (Option Int)} {fr : List Nat}
theorem append_rows {P : Program} {e t ty : TypeId} {sz bytes k n : Nat} {v v2 : Value} {xs ys : List Value} (h : SatL E w (Row e sz v k xs :: Row e sz v2 n ys :: L)) (ht : P.underlying t = some (.slice e)) (hinfo : (P.info? e).map (fun i => (i.zero.map (·.cells.size), i.size, i.bytes)) = some (some sz, sz, bytes))
    (h1 : ∀ u ∈ ys, u.oneCell' = true) (hbytes : (k + n) * bytes ≤ 140737488355328) (h63 : k + n ≤ 9223372036854775807) :
    ∃ v' w', (Builtin.append_ #[t, t] ty #[v, v2]).run P w = .ok v' w' ∧ SatL E w' (Row e sz v' (k + n) (xs ++ ys) :: Row e sz v2 n ys :: L) := by
  rcases Nat.eq_zero_or_pos n with h0 | h0
  · subst h0
    obtain ⟨i, hi, _⟩ := Option.map_eq_some_iff.1 hinfo
    obtain ⟨a, c, rfl, hle, _⟩ := h.rowVal
    obtain ⟨a2, c2, rfl, _, _⟩ := (h.f1).rowVal
    have hy : ys = [] := by
      obtain ⟨m, hA, _⟩ := h.at 1 rfl
      exact List.length_eq_zero_iff.1 (by simpa using hA.1)
    subst hy
    exact ⟨_, w, append_none_run ht hi hle, by simpa using h⟩
  · obtain ⟨g, cap, cur, hr, h2⟩ := (h.f1).openRow h0
    obtain rfl := hr.val
    obtain ⟨v', w', hrun, h3⟩ := run_append_at (ty := ty) (a := ⟨g, 0, none⟩) (c := cap) (h2.f1) ht hinfo hr.len (fun j u hj => by
      rw [add_pt, Nat.zero_add]
      exact h2.cell 0 rfl (hr.get hj)) h1 hbytes h63
    exact ⟨v', w', hrun, ((h3.f1).closeRow hr).f1⟩
theorem places_one {z : Array Value} (hp : PlOk I.KN z (plA pl) fr) : ∀ u ∈ placesC z (plA pl), u.oneCell' = true := by
  intro u hu
  simp only [placesC, List.mem_flatMap] at hu
  obtain ⟨o, ho, hu⟩ := hu
  obtain ⟨i, hi, he⟩ := List.mem_iff_getElem.1 ho
  cases o with
  | none => simp only [placeC, List.mem_append, List.mem_singleton] at hu; rcases hu with h1 | h1; exact hp.zero.one u h1; rw [h1]; rfl
  | some c =>
    have hc := hp.thing i c (by rw [List.getElem?_eq_getElem hi, he])
    simp only [placeC, List.mem_append, List.mem_singleton] at hu; rcases hu with h1 | h1; exact hc.one u h1; rw [h1]; rfl
theorem zN_is : I.zN = #[Value.int .i64 0] := by kernel_rfl
/-- the two cells of a place -/
theorem place_two {k : Nat} {o : Option Int} {v2 : Value} {g cap : Nat} {cur : Array Value} (hp : PlOk I.KN I.zN (plA pl) fr) (hr : RowAt (I.KN + 1) v2 (plA pl).length (placesC I.zN (plA pl)) g cap cur) (hk : pl[k]? = some o) :
    k * 2 + 2 ≤ cur.size ∧ cur.extract (k * 2) (k * 2 + 2) = #[Value.int .i64 (o.getD 0), Value.bool o.isSome] := by
  have h0 := hp.get (plA_get hk) (j := 0) (by decide)
  have h1 := hp.get (plA_get hk) (j := 1) (by decide)
  have e0 : (placeC I.zN (o.map fun v => #[Value.int .i64 v]))[0]? = some (Value.int .i64 (o.getD 0)) := by cases o <;> simp [placeC, zN_is]
  have e1 : (placeC I.zN (o.map fun v => #[Value.int .i64 v]))[1]? = some (Value.bool o.isSome) := by cases o <;> simp [placeC, zN_is]
  have c0 := hr.get (h0.trans e0)
  have c1 := hr.get (h1.trans e1)
  have hl := (Array.getElem?_eq_some_iff.1 c1).1
  exact ⟨by have : k * (I.KN + 1) + 1 < cur.size := hl; have e : I.KN = 1 := rfl; rw [e] at this; omega, ext2 c0 c1⟩
theorem it_all {IL : Nat → List SProp} (hb : pl.length ≤ 1000000)
    (hY : ∀ (M : List SProp) (k : Nat) (v : Int) (w : World), pl[k]? = some (some v) → SatL E w (M ++ IL k) → FnOk Try.prog y [.int .i64 (k : Int), .int .i64 v] w (fun u w' => u = .bool true ∧ SatL E w' (M ++ IL (k + 1))))
    (hS : ∀ (M : List SProp) (k : Nat) (w : World), pl[k]? = some none → SatL E w (M ++ IL k) → SatL E w (M ++ IL (k + 1)))
    (h : SatL E w (Cells b #[.pointer (some ⟨ba, 0, none⟩)] 24 :: I.Ar ba (plA pl) fr :: IL 0)) : Calls Try.prog 30 #[y, .pointer (some ⟨b, 0, none⟩)] w (Ret fun _ w' => SatL E w' (Cells b #[.pointer (some ⟨ba, 0, none⟩)] 24 :: I.Ar ba (plA pl) fr :: IL pl.length)) := by
  have hpl := plA_len (pl := pl)
  obtain ⟨ps, fs, hp, h⟩ := (h.f1).openArena
  obtain ⟨gp, cp, rfl, _, _⟩ := (h.f1).rowVal
  refine calls_x Try.func30 rfl Try.ntmps30 rfl ?_
  refine xc_gen (fun g hg => ?_)
  have s0 := (hg 0).trans arg0
  have s1 := (hg 1).trans arg1
  clear hg
  refine xc_seq (fun K hK1 => ?_)
  refine xc_seq (fun K hK2 => ?_)
  refine xc_region ?_
  refine x_val (r_load h 3 rfl Try.isAgg24 s1 gc0) (nd_of rfl) rfl ?_
  refine x_val (r_eqnil Try.underlying24 es ec (r := false) rfl) (nd_of rfl) rfl ?_
  refine xw_nil ?_
  refine hK2 _ _ ?_
  refine xc_gen (fun g hg => ?_)
  have s0 := (hg 0).trans (en rfl (en rfl s0))
  have s1 := (hg 1).trans (en rfl (en rfl s1))
  have s6 := (hg 6).trans es
  clear hg
  refine xc_cond s6 (fun hc => by cases hc) (fun _ => ?_)
  refine xc_skip ?_
  refine hK1 _ _ ?_
  refine xc_seq (fun K hK3 => ?_)
  refine xc_region ?_
  refine x_bslice0 h Try.underlying60 Try.sizeOf66 rfl ?_; intro bn w h
  refine x_val (r_load h 4 rfl Try.isAgg24 (en rfl s1) gc0) (nd_of rfl) rfl ?_
  refine x_val (r_nilCheck es) (nd_of rfl) rfl ?_
  refine x_val (r_fieldAddr (o' := 0) Try.underlying62 rfl Try.sizeOf60 rfl es rfl) (nd_of rfl) rfl ?_
  refine x_val (r_load h 1 rfl Try.isAgg60 es gc0) (nd_of rfl) rfl ?_
  obtain ⟨v2, w2, hrun, h2⟩ := append_rows (P := Try.prog) (ty := 60) (bytes := 16) (h.f2.f1) Try.underlying60 (by kernel_rfl) (places_one hp) (by omega) (by omega); clear h; refine x_val (r_append (en rfl (en rfl (en rfl (en rfl es)))) es hrun) (nd_of rfl) rfl ?_; have h := h2.f2.f1; clear h2; rw [Nat.zero_add, List.nil_append] at h; obtain ⟨gn, cn, rfl, _, _⟩ := h.rowVal
  have h : SatL E w2 (Row 66 (I.KN + 1) (.slice gn (plA pl).length cn) (plA pl).length (placesC I.zN (plA pl)) :: Cells b #[.pointer (some ⟨ba, 0, none⟩)] 24 :: I.Ar ba (plA pl) fr :: IL 0) := ((SatL.closeArena hp (h.f3.f3.f3 |> fun h => h.f2.f2.f2 |> fun h => h)).f2).f2
  refine x_val (r_len Try.underlying60 es) (nd_of rfl) rfl ?_
  refine x_val (r_move ec) (nd_of rfl) rfl ?_
  refine xw_nil ?_
  refine hK3 _ _ ?_
  refine xc_gen (fun g hg => ?_)
  have s0 := (hg 0).trans (en rfl (en rfl (en rfl (en rfl (en rfl (en rfl (en rfl (en rfl s0))))))))
  have s1 := (hg 1).trans (en rfl (en rfl (en rfl (en rfl (en rfl (en rfl (en rfl (en rfl s1))))))))
  have s6 := (hg 6).trans (en rfl (en rfl (en rfl (en rfl (en rfl (en rfl (en rfl (en rfl s6))))))))
  have s12 := (hg 12).trans (en rfl (en rfl es))
  have s13 := (hg 13).trans (en rfl es)
  have s14 := (hg 14).trans es
  clear hg
  refine xc_block ?_
  obtain ⟨G4, hG4⟩ : ∃ g0 : Nat → Value, g0 = g := ⟨_, rfl⟩
  have zG4_0 : G4 0 = _ := (congrFun hG4 0).trans s0
  have zG4_1 : G4 1 = _ := (congrFun hG4 1).trans s1
  have zG4_6 : G4 6 = _ := (congrFun hG4 6).trans s6
  have zG4_12 : G4 12 = _ := (congrFun hG4 12).trans s12
  have zG4_13 : G4 13 = _ := (congrFun hG4 13).trans s13
  refine xc_loop (fun m f w => (∃ k : Nat, m = pl.length - k ∧ k ≤ pl.length ∧ f 14 = .int .i64 (k : Int) ∧ SatL E w (Row 66 (I.KN + 1) (.slice gn (plA pl).length cn) (plA pl).length (placesC I.zN (plA pl)) :: Cells b #[.pointer (some ⟨ba, 0, none⟩)] 24 :: I.Ar ba (plA pl) fr :: IL k)) ∧ (f 0 = G4 0 ∧ f 1 = G4 1 ∧ f 6 = G4 6 ∧ f 12 = G4 12 ∧ f 13 = G4 13)) (pl.length) ⟨⟨0, by omega, by omega, s14, h⟩, ⟨congrFun hG4.symm 0, congrFun hG4.symm 1, congrFun hG4.symm 6, congrFun hG4.symm 12, congrFun hG4.symm 13⟩⟩ ?_
  rintro m g w ⟨⟨k, hm, hk, s14, h⟩, ⟨y0, y1, y6, y12, y13⟩⟩
  have s0 := y0.trans zG4_0
  have s1 := y1.trans zG4_1
  have s6 := y6.trans zG4_6
  have s12 := y12.trans zG4_12
  have s13 := y13.trans zG4_13
  refine xc_seq (fun K hK5 => ?_)
  refine xc_region ?_
  refine x_val (r_lss s14 s13 rfl) (nd_of rfl) rfl ?_
  refine xw_nil ?_
  refine hK5 _ _ ?_
  refine xc_gen (fun g hg => ?_)
  have s0 := (hg 0).trans (en rfl s0)
  have s1 := (hg 1).trans (en rfl s1)
  have s6 := (hg 6).trans (en rfl s6)
  have s12 := (hg 12).trans (en rfl s12)
  have s13 := (hg 13).trans (en rfl s13)
  have s14 := (hg 14).trans (en rfl s14)
  have s15 := (hg 15).trans es
  clear hg
  refine xc_seq (fun K hK6 => ?_)
  refine xc_cond s15 (fun hc => ?_) (fun hc => ?_)
  ·
    have hi : k < pl.length := by have := of_decide_eq_true hc; omega
    obtain ⟨o, ho⟩ : ∃ o, pl[k]? = some o := ⟨_, List.getElem?_eq_getElem hi⟩
    obtain ⟨g', cp2, cur, hr, h'⟩ := h.openRow (by omega)
    clear h
    have hvv := hr.val
    simp at hvv
    obtain ⟨rfl, rfl⟩ := hvv
    have h := h'
    have hpt := place_two hp hr ho
    have hok : Ok 2 #[Value.int .i64 (o.getD 0), Value.bool o.isSome] := ⟨rfl, by simp [Value.oneCell']⟩
    rcases o with _ | v
    ·
      skip
      refine xc_skip ?_
      refine hK6 _ _ ?_
      refine xc_seq (fun K hK7 => ?_)
      refine xc_block ?_
      refine xc_seq (fun K hK8 => ?_)
      refine xc_region ?_
      refine x_val (r_move s14) (nd_of rfl) rfl ?_
      refine x_val (r_indexAddrN Try.underlying60 Try.sizeOf66 (en rfl s12) (en rfl s14) (by omega)) (nd_of rfl) rfl ?_
      refine x_val (r_loadAgg h 0 rfl Try.isAgg66 Try.sizeOf66 es hpt.1 hpt.2) (nd_of rfl) rfl ?_
      refine x_allocA h Try.zeroValue66 rfl ?_
      intro b4 w h
      refine x_val (r_assign (en rfl (en rfl (en rfl es)))) (nd_of rfl) rfl ?_
      refine x_st (r_storeAgg h 0 rfl Try.sizeOf66 (en rfl es) (en rfl (en rfl es)) (Ok.size (by first | assumption | exact Ok.node (by assumption) | exact xOk.cells (by assumption) | exact ChOk.ok (by assumption))) (Ok.one (by first | assumption | exact Ok.node (by assumption) | exact xOk.cells (by assumption) | exact ChOk.ok (by assumption))) (by exact Nat.le_refl _)) rfl (h.r0 (over_full rfl)) ?_
      intro w h
      refine xw_nil ?_
      refine hK8 _ _ ?_
      refine xc_gen (fun g hg => ?_)
      have s0 := (hg 0).trans (en rfl (en rfl (en rfl (en rfl (en rfl s0)))))
      have s1 := (hg 1).trans (en rfl (en rfl (en rfl (en rfl (en rfl s1)))))
      have s3 := (hg 3).trans es
      have s4 := (hg 4).trans (en rfl es)
      have s6 := (hg 6).trans (en rfl (en rfl (en rfl (en rfl (en rfl s6)))))
      have s12 := (hg 12).trans (en rfl (en rfl (en rfl (en rfl (en rfl s12)))))
      have s13 := (hg 13).trans (en rfl (en rfl (en rfl (en rfl (en rfl s13)))))
      have s14 := (hg 14).trans (en rfl (en rfl (en rfl (en rfl (en rfl s14)))))
      have s15 := (hg 15).trans (en rfl (en rfl (en rfl (en rfl (en rfl s15)))))
      clear hg
      refine xc_seq (fun K hK9 => ?_)
      refine xc_region ?_
      refine x_val (r_fieldAddr (o' := 1) Try.underlying66 rfl Try.sizeOf4 rfl s4 rfl) (nd_of rfl) rfl ?_
      refine x_val (r_load h 0 rfl Try.isAgg4 es gc1) (nd_of rfl) rfl ?_
      have h := hS [_, _, _, _] k _ ho h
      refine x_val (r_move es) (nd_of rfl) rfl ?_
      refine x_pass (d := 21) rfl rfl es rfl ?_
      refine x_pass (d := 21) rfl rfl (en rfl es) rfl ?_
      refine x_pass (d := 21) rfl rfl (en rfl (en rfl es)) rfl ?_
      refine x_pass (d := 21) rfl rfl (en rfl (en rfl (en rfl es))) rfl ?_
      refine x_pass (d := 21) rfl rfl (en rfl (en rfl (en rfl (en rfl es)))) rfl ?_
      refine x_pass (d := 21) rfl rfl (en rfl (en rfl (en rfl (en rfl (en rfl es))))) rfl ?_
      refine x_val (r_pick_f (en rfl (en rfl (en rfl (en rfl (en rfl (en rfl es)))))) ec) (nd_of rfl) rfl ?_
      refine xw_nil ?_
      refine hK9 _ _ ?_
      refine xc_gen (fun g hg => ?_)
      have s0 := (hg 0).trans (en rfl (en rfl (en rfl (en rfl (en rfl (en rfl (en rfl (en rfl (en rfl (en rfl s0))))))))))
      have s1 := (hg 1).trans (en rfl (en rfl (en rfl (en rfl (en rfl (en rfl (en rfl (en rfl (en rfl (en rfl s1))))))))))
      have s3 := (hg 3).trans (en rfl (en rfl (en rfl (en rfl (en rfl (en rfl (en rfl (en rfl (en rfl (en rfl s3))))))))))
      have s4 := (hg 4).trans (en rfl (en rfl (en rfl (en rfl (en rfl (en rfl (en rfl (en rfl (en rfl (en rfl s4))))))))))
      have s6 := (hg 6).trans (en rfl (en rfl (en rfl (en rfl (en rfl (en rfl (en rfl (en rfl (en rfl (en rfl s6))))))))))
      have s12 := (hg 12).trans (en rfl (en rfl (en rfl (en rfl (en rfl (en rfl (en rfl (en rfl (en rfl (en rfl s12))))))))))
      have s13 := (hg 13).trans (en rfl (en rfl (en rfl (en rfl (en rfl (en rfl (en rfl (en rfl (en rfl (en rfl s13))))))))))
      have s14 := (hg 14).trans (en rfl (en rfl (en rfl (en rfl (en rfl (en rfl (en rfl (en rfl (en rfl (en rfl s14))))))))))
      have s15 := (hg 15).trans (en rfl (en rfl (en rfl (en rfl (en rfl (en rfl (en rfl (en rfl (en rfl (en rfl s15))))))))))
      have s28 := (hg 28).trans es
      clear hg
      refine xc_cond s28 (fun hc => by cases hc) (fun _ => ?_)
      refine xc_skip ?_
      refine hK7 _ _ ?_
      refine xc_region ?_
      refine x_val (r_add s14 ec (show _ = (((k + 1 : Nat) : Int) : Int) from by omega) (by unfold I64; omega)) (nd_of rfl) rfl ?_
      refine x_val (r_move es) (nd_of rfl) rfl ?_
      refine xw_nil ?_
      exact ⟨pl.length - (k + 1), by omega, ⟨k + 1, rfl, by omega, es, (h.drop.closeRow hr)⟩, ⟨((en rfl (en rfl s0))).trans zG4_0.symm, ((en rfl (en rfl s1))).trans zG4_1.symm, ((en rfl (en rfl s6))).trans zG4_6.symm, ((en rfl (en rfl s12))).trans zG4_12.symm, ((en rfl (en rfl s13))).trans zG4_13.symm⟩⟩
    ·
      skip
      refine xc_skip ?_
      refine hK6 _ _ ?_
      refine xc_seq (fun K hK10 => ?_)
      refine xc_block ?_
      refine xc_seq (fun K hK11 => ?_)
      refine xc_region ?_
      refine x_val (r_move s14) (nd_of rfl) rfl ?_
      refine x_val (r_indexAddrN Try.underlying60 Try.sizeOf66 (en rfl s12) (en rfl s14) (by omega)) (nd_of rfl) rfl ?_
      refine x_val (r_loadAgg h 0 rfl Try.isAgg66 Try.sizeOf66 es hpt.1 hpt.2) (nd_of rfl) rfl ?_
      refine x_allocA h Try.zeroValue66 rfl ?_
      intro b4 w h
      refine x_val (r_assign (en rfl (en rfl (en rfl es)))) (nd_of rfl) rfl ?_
      refine x_st (r_storeAgg h 0 rfl Try.sizeOf66 (en rfl es) (en rfl (en rfl es)) (Ok.size (by first | assumption | exact Ok.node (by assumption) | exact xOk.cells (by assumption) | exact ChOk.ok (by assumption))) (Ok.one (by first | assumption | exact Ok.node (by assumption) | exact xOk.cells (by assumption) | exact ChOk.ok (by assumption))) (by exact Nat.le_refl _)) rfl (h.r0 (over_full rfl)) ?_
      intro w h
      refine xw_nil ?_
      refine hK11 _ _ ?_
      refine xc_gen (fun g hg => ?_)
      have s0 := (hg 0).trans (en rfl (en rfl (en rfl (en rfl (en rfl s0)))))
      have s1 := (hg 1).trans (en rfl (en rfl (en rfl (en rfl (en rfl s1)))))
      have s3 := (hg 3).trans es
      have s4 := (hg 4).trans (en rfl es)
      have s6 := (hg 6).trans (en rfl (en rfl (en rfl (en rfl (en rfl s6)))))
      have s12 := (hg 12).trans (en rfl (en rfl (en rfl (en rfl (en rfl s12)))))
      have s13 := (hg 13).trans (en rfl (en rfl (en rfl (en rfl (en rfl s13)))))
      have s14 := (hg 14).trans (en rfl (en rfl (en rfl (en rfl (en rfl s14)))))
      have s15 := (hg 15).trans (en rfl (en rfl (en rfl (en rfl (en rfl s15)))))
      clear hg
      refine xc_seq (fun K hK12 => ?_)
      refine xc_region ?_
      refine x_val (r_fieldAddr (o' := 1) Try.underlying66 rfl Try.sizeOf4 rfl s4 rfl) (nd_of rfl) rfl ?_
      refine x_val (r_load h 0 rfl Try.isAgg4 es gc1) (nd_of rfl) rfl ?_
      refine x_val (r_move es) (nd_of rfl) rfl ?_
      refine x_take (d := 21) rfl rfl es ?_
      refine x_val (r_move (en rfl (en rfl (en rfl s0)))) (nd_of rfl) rfl ?_
      refine x_take (d := 21) rfl rfl (en rfl es) ?_
      refine x_val (r_move (en rfl (en rfl (en rfl (en rfl s3))))) (nd_of rfl) rfl ?_
      refine x_take (d := 21) rfl rfl (en rfl (en rfl es)) ?_
      refine x_val (r_fieldAddr (o' := 0) Try.underlying66 rfl Try.sizeOf2 rfl (en rfl (en rfl (en rfl (en rfl (en rfl s4))))) rfl) (nd_of rfl) rfl ?_
      refine x_take (d := 21) rfl rfl (en rfl (en rfl (en rfl es))) ?_
      refine x_val (r_load h 0 rfl Try.isAgg2 es gc0) (nd_of rfl) rfl ?_
      refine x_take (d := 21) rfl rfl (en rfl (en rfl (en rfl (en rfl es)))) ?_
      refine x_callY (en rfl (en rfl (en rfl es))) (.cons (en rfl (en rfl es)) (.cons es .nil)) rfl (hY [_, _, _, _] k v _ ho h) ?_; rintro _ w ⟨rfl, h⟩
      refine x_take (d := 21) rfl rfl (en rfl (en rfl (en rfl (en rfl (en rfl es))))) ?_
      refine x_val (r_not es rfl) (nd_of rfl) rfl ?_
      refine x_val (r_pick_t (en rfl (en rfl (en rfl (en rfl (en rfl (en rfl es)))))) es) (nd_of rfl) rfl ?_
      refine xw_nil ?_
      refine hK12 _ _ ?_
      refine xc_gen (fun g hg => ?_)
      have s0 := (hg 0).trans (en rfl (en rfl (en rfl (en rfl (en rfl (en rfl (en rfl (en rfl (en rfl (en rfl s0))))))))))
      have s1 := (hg 1).trans (en rfl (en rfl (en rfl (en rfl (en rfl (en rfl (en rfl (en rfl (en rfl (en rfl s1))))))))))
      have s3 := (hg 3).trans (en rfl (en rfl (en rfl (en rfl (en rfl (en rfl (en rfl (en rfl (en rfl (en rfl s3))))))))))
      have s4 := (hg 4).trans (en rfl (en rfl (en rfl (en rfl (en rfl (en rfl (en rfl (en rfl (en rfl (en rfl s4))))))))))
      have s6 := (hg 6).trans (en rfl (en rfl (en rfl (en rfl (en rfl (en rfl (en rfl (en rfl (en rfl (en rfl s6))))))))))
      have s12 := (hg 12).trans (en rfl (en rfl (en rfl (en rfl (en rfl (en rfl (en rfl (en rfl (en rfl (en rfl s12))))))))))
      have s13 := (hg 13).trans (en rfl (en rfl (en rfl (en rfl (en rfl (en rfl (en rfl (en rfl (en rfl (en rfl s13))))))))))
      have s14 := (hg 14).trans (en rfl (en rfl (en rfl (en rfl (en rfl (en rfl (en rfl (en rfl (en rfl (en rfl s14))))))))))
      have s15 := (hg 15).trans (en rfl (en rfl (en rfl (en rfl (en rfl (en rfl (en rfl (en rfl (en rfl (en rfl s15))))))))))
      have s28 := (hg 28).trans es
      clear hg
      refine xc_cond s28 (fun hc => by cases hc) (fun _ => ?_)
      refine xc_skip ?_
      refine hK10 _ _ ?_
      refine xc_region ?_
      refine x_val (r_add s14 ec (show _ = (((k + 1 : Nat) : Int) : Int) from by omega) (by unfold I64; omega)) (nd_of rfl) rfl ?_
      refine x_val (r_move es) (nd_of rfl) rfl ?_
      refine xw_nil ?_
      exact ⟨pl.length - (k + 1), by omega, ⟨k + 1, rfl, by omega, es, (h.drop.closeRow hr)⟩, ⟨((en rfl (en rfl s0))).trans zG4_0.symm, ((en rfl (en rfl s1))).trans zG4_1.symm, ((en rfl (en rfl s6))).trans zG4_6.symm, ((en rfl (en rfl s12))).trans zG4_12.symm, ((en rfl (en rfl s13))).trans zG4_13.symm⟩⟩
  ·
    refine xc_exit ?_
    refine bodyR_0 rfl ?_
    obtain rfl : k = pl.length := by have := of_decide_eq_false hc; omega
    exact h.drop
theorem it_stop {IL IX : List SProp} (hb : pl.length ≤ 1000000)
    (hY : ∀ (M : List SProp) (k : Nat) (v : Int) (w : World), SatL E w (M ++ IL) → FnOk Try.prog y [.int .i64 (k : Int), .int .i64 v] w (fun u w' => u = .bool false ∧ SatL E w' (M ++ IX)))
    (h : SatL E w (Cells b #[.pointer (some ⟨ba, 0, none⟩)] 24 :: I.Ar ba (plA pl) fr :: IL)) : Calls Try.prog 30 #[y, .pointer (some ⟨b, 0, none⟩)] w (Ret fun _ w' => SatL E w' (Cells b #[.pointer (some ⟨ba, 0, none⟩)] 24 :: I.Ar ba (plA pl) fr :: IL) ∨ SatL E w' (Cells b #[.pointer (some ⟨ba, 0, none⟩)] 24 :: I.Ar ba (plA pl) fr :: IX)) := by
  have hpl := plA_len (pl := pl)
  obtain ⟨ps, fs, hp, h⟩ := (h.f1).openArena
  obtain ⟨gp, cp, rfl, _, _⟩ := (h.f1).rowVal
  refine calls_x Try.func30 rfl Try.ntmps30 rfl ?_
  refine xc_gen (fun g hg => ?_)
  have s0 := (hg 0).trans arg0
  have s1 := (hg 1).trans arg1
  clear hg
  refine xc_seq (fun K hK1 => ?_)
  refine xc_seq (fun K hK2 => ?_)
  refine xc_region ?_
  refine x_val (r_load h 3 rfl Try.isAgg24 s1 gc0) (nd_of rfl) rfl ?_
  refine x_val (r_eqnil Try.underlying24 es ec (r := false) rfl) (nd_of rfl) rfl ?_
  refine xw_nil ?_
  refine hK2 _ _ ?_
  refine xc_gen (fun g hg => ?_)
  have s0 := (hg 0).trans (en rfl (en rfl s0))
  have s1 := (hg 1).trans (en rfl (en rfl s1))
  have s6 := (hg 6).trans es
  clear hg
  refine xc_cond s6 (fun hc => by cases hc) (fun _ => ?_)
  refine xc_skip ?_
  refine hK1 _ _ ?_
  refine xc_seq (fun K hK3 => ?_)
  refine xc_region ?_
  refine x_bslice0 h Try.underlying60 Try.sizeOf66 rfl ?_; intro bn w h
  refine x_val (r_load h 4 rfl Try.isAgg24 (en rfl s1) gc0) (nd_of rfl) rfl ?_
  refine x_val (r_nilCheck es) (nd_of rfl) rfl ?_
  refine x_val (r_fieldAddr (o' := 0) Try.underlying62 rfl Try.sizeOf60 rfl es rfl) (nd_of rfl) rfl ?_
  refine x_val (r_load h 1 rfl Try.isAgg60 es gc0) (nd_of rfl) rfl ?_
  obtain ⟨v2, w2, hrun, h2⟩ := append_rows (P := Try.prog) (ty := 60) (bytes := 16) (h.f2.f1) Try.underlying60 (by kernel_rfl) (places_one hp) (by omega) (by omega); clear h; refine x_val (r_append (en rfl (en rfl (en rfl (en rfl es)))) es hrun) (nd_of rfl) rfl ?_; have h := h2.f2.f1; clear h2; rw [Nat.zero_add, List.nil_append] at h; obtain ⟨gn, cn, rfl, _, _⟩ := h.rowVal
  have h : SatL E w2 (Row 66 (I.KN + 1) (.slice gn (plA pl).length cn) (plA pl).length (placesC I.zN (plA pl)) :: Cells b #[.pointer (some ⟨ba, 0, none⟩)] 24 :: I.Ar ba (plA pl) fr :: IL) := ((SatL.closeArena hp (h.f3.f3.f3 |> fun h => h.f2.f2.f2 |> fun h => h)).f2).f2
  refine x_val (r_len Try.underlying60 es) (nd_of rfl) rfl ?_
  refine x_val (r_move ec) (nd_of rfl) rfl ?_
  refine xw_nil ?_
  refine hK3 _ _ ?_
  refine xc_gen (fun g hg => ?_)
  have s0 := (hg 0).trans (en rfl (en rfl (en rfl (en rfl (en rfl (en rfl (en rfl (en rfl s0))))))))
  have s1 := (hg 1).trans (en rfl (en rfl (en rfl (en rfl (en rfl (en rfl (en rfl (en rfl s1))))))))
  have s6 := (hg 6).trans (en rfl (en rfl (en rfl (en rfl (en rfl (en rfl (en rfl (en rfl s6))))))))
  have s12 := (hg 12).trans (en rfl (en rfl es))
  have s13 := (hg 13).trans (en rfl es)
  have s14 := (hg 14).trans es
  clear hg
  refine xc_block ?_
  obtain ⟨G4, hG4⟩ : ∃ g0 : Nat → Value, g0 = g := ⟨_, rfl⟩
  have zG4_0 : G4 0 = _ := (congrFun hG4 0).trans s0
  have zG4_1 : G4 1 = _ := (congrFun hG4 1).trans s1
  have zG4_6 : G4 6 = _ := (congrFun hG4 6).trans s6
  have zG4_12 : G4 12 = _ := (congrFun hG4 12).trans s12
  have zG4_13 : G4 13 = _ := (congrFun hG4 13).trans s13
  refine xc_loop (fun m f w => (∃ k : Nat, m = pl.length - k ∧ k ≤ pl.length ∧ f 14 = .int .i64 (k : Int) ∧ SatL E w (Row 66 (I.KN + 1) (.slice gn (plA pl).length cn) (plA pl).length (placesC I.zN (plA pl)) :: Cells b #[.pointer (some ⟨ba, 0, none⟩)] 24 :: I.Ar ba (plA pl) fr :: IL)) ∧ (f 0 = G4 0 ∧ f 1 = G4 1 ∧ f 6 = G4 6 ∧ f 12 = G4 12 ∧ f 13 = G4 13)) (pl.length) ⟨⟨0, by omega, by omega, s14, h⟩, ⟨congrFun hG4.symm 0, congrFun hG4.symm 1, congrFun hG4.symm 6, congrFun hG4.symm 12, congrFun hG4.symm 13⟩⟩ ?_
  rintro m g w ⟨⟨k, hm, hk, s14, h⟩, ⟨y0, y1, y6, y12, y13⟩⟩
  have s0 := y0.trans zG4_0
  have s1 := y1.trans zG4_1
  have s6 := y6.trans zG4_6
  have s12 := y12.trans zG4_12
  have s13 := y13.trans zG4_13
  refine xc_seq (fun K hK5 => ?_)
  refine xc_region ?_
  refine x_val (r_lss s14 s13 rfl) (nd_of rfl) rfl ?_
  refine xw_nil ?_
  refine hK5 _ _ ?_
  refine xc_gen (fun g hg => ?_)
  have s0 := (hg 0).trans (en rfl s0)
  have s1 := (hg 1).trans (en rfl s1)
  have s6 := (hg 6).trans (en rfl s6)
  have s12 := (hg 12).trans (en rfl s12)
  have s13 := (hg 13).trans (en rfl s13)
  have s14 := (hg 14).trans (en rfl s14)
  have s15 := (hg 15).trans es
  clear hg
  refine xc_seq (fun K hK6 => ?_)
  refine xc_cond s15 (fun hc => ?_) (fun hc => ?_)
  ·
    have hi : k < pl.length := by have := of_decide_eq_true hc; omega
    obtain ⟨o, ho⟩ : ∃ o, pl[k]? = some o := ⟨_, List.getElem?_eq_getElem hi⟩
    obtain ⟨g', cp2, cur, hr, h'⟩ := h.openRow (by omega)
    clear h
    have hvv := hr.val
    simp at hvv
    obtain ⟨rfl, rfl⟩ := hvv
    have h := h'
    have hpt := place_two hp hr ho
    have hok : Ok 2 #[Value.int .i64 (o.getD 0), Value.bool o.isSome] := ⟨rfl, by simp [Value.oneCell']⟩
    rcases o with _ | v
    ·
      skip
      refine xc_skip ?_
      refine hK6 _ _ ?_
      refine xc_seq (fun K hK7 => ?_)
      refine xc_block ?_
      refine xc_seq (fun K hK8 => ?_)
      refine xc_region ?_
      refine x_val (r_move s14) (nd_of rfl) rfl ?_
      refine x_val (r_indexAddrN Try.underlying60 Try.sizeOf66 (en rfl s12) (en rfl s14) (by omega)) (nd_of rfl) rfl ?_
      refine x_val (r_loadAgg h 0 rfl Try.isAgg66 Try.sizeOf66 es hpt.1 hpt.2) (nd_of rfl) rfl ?_
      refine x_allocA h Try.zeroValue66 rfl ?_
      intro b4 w h
      refine x_val (r_assign (en rfl (en rfl (en rfl es)))) (nd_of rfl) rfl ?_
      refine x_st (r_storeAgg h 0 rfl Try.sizeOf66 (en rfl es) (en rfl (en rfl es)) (Ok.size (by first | assumption | exact Ok.node (by assumption) | exact xOk.cells (by assumption) | exact ChOk.ok (by assumption))) (Ok.one (by first | assumption | exact Ok.node (by assumption) | exact xOk.cells (by assumption) | exact ChOk.ok (by assumption))) (by exact Nat.le_refl _)) rfl (h.r0 (over_full rfl)) ?_
      intro w h
      refine xw_nil ?_
      refine hK8 _ _ ?_
      refine xc_gen (fun g hg => ?_)
      have s0 := (hg 0).trans (en rfl (en rfl (en rfl (en rfl (en rfl s0)))))
      have s1 := (hg 1).trans (en rfl (en rfl (en rfl (en rfl (en rfl s1)))))
      have s3 := (hg 3).trans es
      have s4 := (hg 4).trans (en rfl es)
      have s6 := (hg 6).trans (en rfl (en rfl (en rfl (en rfl (en rfl s6)))))
      have s12 := (hg 12).trans (en rfl (en rfl (en rfl (en rfl (en rfl s12)))))
      have s13 := (hg 13).trans (en rfl (en rfl (en rfl (en rfl (en rfl s13)))))
      have s14 := (hg 14).trans (en rfl (en rfl (en rfl (en rfl (en rfl s14)))))
      have s15 := (hg 15).trans (en rfl (en rfl (en rfl (en rfl (en rfl s15)))))
      clear hg
      refine xc_seq (fun K hK9 => ?_)
      refine xc_region ?_
      refine x_val (r_fieldAddr (o' := 1) Try.underlying66 rfl Try.sizeOf4 rfl s4 rfl) (nd_of rfl) rfl ?_
      refine x_val (r_load h 0 rfl Try.isAgg4 es gc1) (nd_of rfl) rfl ?_
      refine x_val (r_move es) (nd_of rfl) rfl ?_
      refine x_pass (d := 21) rfl rfl es rfl ?_
      refine x_pass (d := 21) rfl rfl (en rfl es) rfl ?_
      refine x_pass (d := 21) rfl rfl (en rfl (en rfl es)) rfl ?_
      refine x_pass (d := 21) rfl rfl (en rfl (en rfl (en rfl es))) rfl ?_
      refine x_pass (d := 21) rfl rfl (en rfl (en rfl (en rfl (en rfl es)))) rfl ?_
      refine x_pass (d := 21) rfl rfl (en rfl (en rfl (en rfl (en rfl (en rfl es))))) rfl ?_
      refine x_val (r_pick_f (en rfl (en rfl (en rfl (en rfl (en rfl (en rfl es)))))) ec) (nd_of rfl) rfl ?_
      refine xw_nil ?_
      refine hK9 _ _ ?_
      refine xc_gen (fun g hg => ?_)
      have s0 := (hg 0).trans (en rfl (en rfl (en rfl (en rfl (en rfl (en rfl (en rfl (en rfl (en rfl (en rfl s0))))))))))
      have s1 := (hg 1).trans (en rfl (en rfl (en rfl (en rfl (en rfl (en rfl (en rfl (en rfl (en rfl (en rfl s1))))))))))
      have s3 := (hg 3).trans (en rfl (en rfl (en rfl (en rfl (en rfl (en rfl (en rfl (en rfl (en rfl (en rfl s3))))))))))
      have s4 := (hg 4).trans (en rfl (en rfl (en rfl (en rfl (en rfl (en rfl (en rfl (en rfl (en rfl (en rfl s4))))))))))
      have s6 := (hg 6).trans (en rfl (en rfl (en rfl (en rfl (en rfl (en rfl (en rfl (en rfl (en rfl (en rfl s6))))))))))
      have s12 := (hg 12).trans (en rfl (en rfl (en rfl (en rfl (en rfl (en rfl (en rfl (en rfl (en rfl (en rfl s12))))))))))
      have s13 := (hg 13).trans (en rfl (en rfl (en rfl (en rfl (en rfl (en rfl (en rfl (en rfl (en rfl (en rfl s13))))))))))
      have s14 := (hg 14).trans (en rfl (en rfl (en rfl (en rfl (en rfl (en rfl (en rfl (en rfl (en rfl (en rfl s14))))))))))
      have s15 := (hg 15).trans (en rfl (en rfl (en rfl (en rfl (en rfl (en rfl (en rfl (en rfl (en rfl (en rfl s15))))))))))
      have s28 := (hg 28).trans es
      clear hg
      refine xc_cond s28 (fun hc => by cases hc) (fun _ => ?_)
      refine xc_skip ?_
      refine hK7 _ _ ?_
      refine xc_region ?_
      refine x_val (r_add s14 ec (show _ = (((k + 1 : Nat) : Int) : Int) from by omega) (by unfold I64; omega)) (nd_of rfl) rfl ?_
      refine x_val (r_move es) (nd_of rfl) rfl ?_
      refine xw_nil ?_
      exact ⟨pl.length - (k + 1), by omega, ⟨k + 1, rfl, by omega, es, (h.drop.closeRow hr)⟩, ⟨((en rfl (en rfl s0))).trans zG4_0.symm, ((en rfl (en rfl s1))).trans zG4_1.symm, ((en rfl (en rfl s6))).trans zG4_6.symm, ((en rfl (en rfl s12))).trans zG4_12.symm, ((en rfl (en rfl s13))).trans zG4_13.symm⟩⟩
    ·
      skip
      refine xc_skip ?_
      refine hK6 _ _ ?_
      refine xc_seq (fun K hK10 => ?_)
      refine xc_block ?_
      refine xc_seq (fun K hK11 => ?_)
      refine xc_region ?_
      refine x_val (r_move s14) (nd_of rfl) rfl ?_
      refine x_val (r_indexAddrN Try.underlying60 Try.sizeOf66 (en rfl s12) (en rfl s14) (by omega)) (nd_of rfl) rfl ?_
      refine x_val (r_loadAgg h 0 rfl Try.isAgg66 Try.sizeOf66 es hpt.1 hpt.2) (nd_of rfl) rfl ?_
      refine x_allocA h Try.zeroValue66 rfl ?_
      intro b4 w h
      refine x_val (r_assign (en rfl (en rfl (en rfl es)))) (nd_of rfl) rfl ?_
      refine x_st (r_storeAgg h 0 rfl Try.sizeOf66 (en rfl es) (en rfl (en rfl es)) (Ok.size (by first | assumption | exact Ok.node (by assumption) | exact xOk.cells (by assumption) | exact ChOk.ok (by assumption))) (Ok.one (by first | assumption | exact Ok.node (by assumption) | exact xOk.cells (by assumption) | exact ChOk.ok (by assumption))) (by exact Nat.le_refl _)) rfl (h.r0 (over_full rfl)) ?_
      intro w h
      refine xw_nil ?_
      refine hK11 _ _ ?_
      refine xc_gen (fun g hg => ?_)
      have s0 := (hg 0).trans (en rfl (en rfl (en rfl (en rfl (en rfl s0)))))
      have s1 := (hg 1).trans (en rfl (en rfl (en rfl (en rfl (en rfl s1)))))
      have s3 := (hg 3).trans es
      have s4 := (hg 4).trans (en rfl es)
      have s6 := (hg 6).trans (en rfl (en rfl (en rfl (en rfl (en rfl s6)))))
      have s12 := (hg 12).trans (en rfl (en rfl (en rfl (en rfl (en rfl s12)))))
      have s13 := (hg 13).trans (en rfl (en rfl (en rfl (en rfl (en rfl s13)))))
      have s14 := (hg 14).trans (en rfl (en rfl (en rfl (en rfl (en rfl s14)))))
      have s15 := (hg 15).trans (en rfl (en rfl (en rfl (en rfl (en rfl s15)))))
      clear hg
      refine xc_seq (fun K hK12 => ?_)
      refine xc_region ?_
      refine x_val (r_fieldAddr (o' := 1) Try.underlying66 rfl Try.sizeOf4 rfl s4 rfl) (nd_of rfl) rfl ?_
      refine x_val (r_load h 0 rfl Try.isAgg4 es gc1) (nd_of rfl) rfl ?_
      refine x_val (r_move es) (nd_of rfl) rfl ?_
      refine x_take (d := 21) rfl rfl es ?_
      refine x_val (r_move (en rfl (en rfl (en rfl s0)))) (nd_of rfl) rfl ?_
      refine x_take (d := 21) rfl rfl (en rfl es) ?_
      refine x_val (r_move (en rfl (en rfl (en rfl (en rfl s3))))) (nd_of rfl) rfl ?_
      refine x_take (d := 21) rfl rfl (en rfl (en rfl es)) ?_
      refine x_val (r_fieldAddr (o' := 0) Try.underlying66 rfl Try.sizeOf2 rfl (en rfl (en rfl (en rfl (en rfl (en rfl s4))))) rfl) (nd_of rfl) rfl ?_
      refine x_take (d := 21) rfl rfl (en rfl (en rfl (en rfl es))) ?_
      refine x_val (r_load h 0 rfl Try.isAgg2 es gc0) (nd_of rfl) rfl ?_
      refine x_take (d := 21) rfl rfl (en rfl (en rfl (en rfl (en rfl es)))) ?_
      refine x_callY (en rfl (en rfl (en rfl es))) (.cons (en rfl (en rfl es)) (.cons es .nil)) rfl (hY [_, _, _, _] k v _ h) ?_; rintro _ w ⟨rfl, h⟩
      refine x_take (d := 21) rfl rfl (en rfl (en rfl (en rfl (en rfl (en rfl es))))) ?_
      refine x_val (r_not es rfl) (nd_of rfl) rfl ?_
      refine x_val (r_pick_t (en rfl (en rfl (en rfl (en rfl (en rfl (en rfl es)))))) es) (nd_of rfl) rfl ?_
      refine xw_nil ?_
      refine hK12 _ _ ?_
      refine xc_gen (fun g hg => ?_)
      have s0 := (hg 0).trans (en rfl (en rfl (en rfl (en rfl (en rfl (en rfl (en rfl (en rfl (en rfl (en rfl s0))))))))))
      have s1 := (hg 1).trans (en rfl (en rfl (en rfl (en rfl (en rfl (en rfl (en rfl (en rfl (en rfl (en rfl s1))))))))))
      have s3 := (hg 3).trans (en rfl (en rfl (en rfl (en rfl (en rfl (en rfl (en rfl (en rfl (en rfl (en rfl s3))))))))))
      have s4 := (hg 4).trans (en rfl (en rfl (en rfl (en rfl (en rfl (en rfl (en rfl (en rfl (en rfl (en rfl s4))))))))))
      have s6 := (hg 6).trans (en rfl (en rfl (en rfl (en rfl (en rfl (en rfl (en rfl (en rfl (en rfl (en rfl s6))))))))))
      have s12 := (hg 12).trans (en rfl (en rfl (en rfl (en rfl (en rfl (en rfl (en rfl (en rfl (en rfl (en rfl s12))))))))))
      have s13 := (hg 13).trans (en rfl (en rfl (en rfl (en rfl (en rfl (en rfl (en rfl (en rfl (en rfl (en rfl s13))))))))))
      have s14 := (hg 14).trans (en rfl (en rfl (en rfl (en rfl (en rfl (en rfl (en rfl (en rfl (en rfl (en rfl s14))))))))))
      have s15 := (hg 15).trans (en rfl (en rfl (en rfl (en rfl (en rfl (en rfl (en rfl (en rfl (en rfl (en rfl s15))))))))))
      have s28 := (hg 28).trans es
      clear hg
      refine xc_cond s28 (fun _ => ?_) (fun hc => by cases hc)
      refine xc_ret ?_
      refine bodyR_r0 rfl ?_
      exact .inr h.drop.drop
  ·
    refine xc_exit ?_
    refine bodyR_0 rfl ?_
    obtain rfl : k = pl.length := by have := of_decide_eq_false hc; omega
    exact .inl h.drop
end
end Go.Proofs.Ytfmhcefjbghhlaa
