/-
Things melded: the walk.
-/
import Derived.Test.YtonnijghdlakfaaT7
namespace Go.Proofs.Ytonnijghdlakfaa
open Go Go.RowKit
section
variable {E : Env} {R : List SProp} {w : World} {bt ba : Nat} {ro : Int} {v : Value} {xs : List X}
theorem nil_or_snoc {α : Type} (l : List α) : l = [] ∨ ∃ o y, l = o ++ [y] := (List.eq_nil_or_concat l).imp id fun ⟨o, y, h⟩ => ⟨o, y, by rw [h, List.concat_eq_append]⟩
theorem sz_get : ∀ {l : List X} {k : Nat} {x : X}, l[k]? = some x → sz (l.take k) + xS x ≤ sz l
  | [], k, x, h => by simp at h
  | y :: l, 0, x, h => by simp at h; subst h; simp [sz]
  | y :: l, k + 1, x, h => by
    have ih := sz_get (l := l) (k := k) (x := x) (by simpa using h)
    simp only [List.take_succ_cons, sz]; omega
theorem melded_t (ho : ∀ x ∈ xs, xOk x) (hb : Bd xs) (h : SatL E w (TC bt ba ro :: XRow v xs :: R)) :
    Calls Try.prog 45 #[pT bt, v] w (Ret fun u w' => SatL E w' (XRow u (meldL xs) :: TC bt ba ro :: XRow v xs :: R)) := by
  obtain ⟨a0, cp0, rfl, _, _⟩ := (h.f1).rowVal
  have hbs := hb.2.1
  have hbl := hb.1
  refine calls_x Try.func45 rfl Try.ntmps45 rfl ?_
  refine xc_gen (fun g hg => ?_)
  have s0 := (hg 0).trans arg0
  have s1 := (hg 1).trans arg1
  clear hg
  refine xc_seq (fun K hK1 => ?_)
  refine xc_region ?_
  refine x_val (r_assign ec) (nd_of rfl) rfl ?_
  refine xw_nil ?_
  refine hK1 _ _ ?_
  refine xc_gen (fun g hg => ?_)
  have s0 := (hg 0).trans (en rfl s0)
  have s1 := (hg 1).trans (en rfl s1)
  have s4 := (hg 4).trans es
  clear hg
  refine xc_seq (fun K hK2 => ?_)
  refine xc_seq (fun K hK3 => ?_)
  refine xc_region ?_
  refine x_val (r_move s1) (nd_of rfl) rfl ?_
  refine x_val (r_len Try.underlying23 es) (nd_of rfl) rfl ?_
  refine x_val (r_move ec) (nd_of rfl) rfl ?_
  refine xw_nil ?_
  refine hK3 _ _ ?_
  refine xc_gen (fun g hg => ?_)
  have s0 := (hg 0).trans (en rfl (en rfl (en rfl s0)))
  have s1 := (hg 1).trans (en rfl (en rfl (en rfl s1)))
  have s4 := (hg 4).trans (en rfl (en rfl (en rfl s4)))
  have s12 := (hg 12).trans (en rfl (en rfl es))
  have s13 := (hg 13).trans (en rfl es)
  have s14 := (hg 14).trans es
  clear hg
  refine xc_block ?_
  obtain ⟨G4, hG4⟩ : ∃ g0 : Nat → Value, g0 = g := ⟨_, rfl⟩
  have zG4_0 : G4 0 = _ := (congrFun hG4 0).trans s0
  have zG4_1 : G4 1 = _ := (congrFun hG4 1).trans s1
  have zG4_12 : G4 12 = _ := (congrFun hG4 12).trans s12
  have zG4_13 : G4 13 = _ := (congrFun hG4 13).trans s13
  refine xc_loop (fun m f w => (∃ (k : Nat) (u : Value) (out : List X), m = xs.length - k ∧ k ≤ xs.length ∧ out = (xs.take k).foldl mstep [] ∧ f 14 = .int .i64 (k : Int) ∧ f 4 = u ∧ SatL E w (XRow u out :: TC bt ba ro :: XRow (.slice a0 xs.length cp0) xs :: R)) ∧ (f 0 = G4 0 ∧ f 1 = G4 1 ∧ f 12 = G4 12 ∧ f 13 = G4 13)) (xs.length) ⟨⟨0, _, [], by omega, by omega, rfl, s14, s4, h.rowNil⟩, ⟨congrFun hG4.symm 0, congrFun hG4.symm 1, congrFun hG4.symm 12, congrFun hG4.symm 13⟩⟩ ?_
  rintro m g w ⟨⟨k, u, out, hm, hk, hout, s14, s4, h⟩, ⟨y0, y1, y12, y13⟩⟩
  have s0 := y0.trans zG4_0
  have s1 := y1.trans zG4_1
  have s12 := y12.trans zG4_12
  have s13 := y13.trans zG4_13
  refine xc_seq (fun K hK5 => ?_)
  refine xc_region ?_
  refine x_val (r_lss s14 s13 rfl) (nd_of rfl) rfl ?_
  refine xw_nil ?_
  refine hK5 _ _ ?_
  refine xc_gen (fun g hg => ?_)
  have s0 := (hg 0).trans (en rfl s0)
  have s1 := (hg 1).trans (en rfl s1)
  have s4 := (hg 4).trans (en rfl s4)
  have s12 := (hg 12).trans (en rfl s12)
  have s13 := (hg 13).trans (en rfl s13)
  have s14 := (hg 14).trans (en rfl s14)
  have s15 := (hg 15).trans es
  clear hg
  refine xc_seq (fun K hK6 => ?_)
  refine xc_cond s15 (fun hc => ?_) (fun hc => ?_)
  ·
    refine xc_skip ?_
    refine hK6 _ _ ?_
    refine xc_seq (fun K hK7 => ?_)
    refine xc_block ?_
    refine xc_seq (fun K hK8 => ?_)
    have hi : k < xs.length := by have := of_decide_eq_true hc; omega
    obtain ⟨x, hx⟩ : ∃ x, xs[k]? = some x := ⟨_, List.getElem?_eq_getElem hi⟩
    have hxo := ho x (List.mem_of_getElem? hx)
    have hox := hxo.cells
    have hstep := foldl_take mstep [] xs hx
    have hmd : Md out (sz (xs.take k)) (mks (xs.take k)) (xs.take k).length := by have hq := sz_get hx; have h9 := Md.meld (l := xs.take k) (fun y hy => ho y (List.mem_of_mem_take hy)) (by omega); rw [hout]; exact h9
    rw [← hout] at hstep
    have hsg := sz_get hx
    have hll : (xs.take k).length ≤ xs.length := by rw [List.length_take]; omega
    have hml := hmd.lenE
    have hmz := hmd.szE
    clear hout
    obtain ⟨gi, ci, curi, hri, hh⟩ := (h.f2).openRow (by omega)
    clear h
    have hvi := hri.val
    simp only [Value.slice.injEq] at hvi
    obtain ⟨rfl, _, rfl⟩ := hvi
    have h := hh
    have hth := hri.thing ho hx
    refine xc_region ?_
    refine x_val (r_indexAddrN Try.underlying23 Try.sizeOf38 s12 s14 (by omega)) (nd_of rfl) rfl ?_
    refine x_val (r_load h 0 rfl Try.isAgg38 es (one_thing hth)) (nd_of rfl) rfl ?_
    refine x_val (r_assign es) (nd_of rfl) rfl ?_
    refine xw_nil ?_
    refine hK8 _ _ ?_
    refine xc_gen (fun g hg => ?_)
    have s0 := (hg 0).trans (en rfl (en rfl (en rfl s0)))
    have s1 := (hg 1).trans (en rfl (en rfl (en rfl s1)))
    have s4 := (hg 4).trans (en rfl (en rfl (en rfl s4)))
    have s6 := (hg 6).trans es
    have s12 := (hg 12).trans (en rfl (en rfl (en rfl s12)))
    have s13 := (hg 13).trans (en rfl (en rfl (en rfl s13)))
    have s14 := (hg 14).trans (en rfl (en rfl (en rfl s14)))
    have s15 := (hg 15).trans (en rfl (en rfl (en rfl s15)))
    clear hg
    refine xc_seq (fun K hK9 => ?_)
    refine xc_seq (fun K hK10 => ?_)
    have h := (h.closeRow hri)
    refine xc_region ?_
    refine x_val (r_move s0) (nd_of rfl) rfl ?_
    refine x_val (r_nilCheck es) (nd_of rfl) rfl ?_
    refine x_val (r_fieldAddr (o' := 0) Try.underlying83 rfl Try.sizeOf78 rfl es rfl) (nd_of rfl) rfl ?_
    refine x_val (r_fieldAddr (o' := 0) Try.underlying78 rfl Try.sizeOf74 rfl es rfl) (nd_of rfl) rfl ?_
    refine x_val (r_load h 2 rfl Try.isAgg74 es gc0) (nd_of rfl) rfl ?_
    refine x_val (r_move (en rfl (en rfl (en rfl (en rfl (en rfl s6)))))) (nd_of rfl) rfl ?_
    refine x_enter (r_callv Try.call37 (en rfl es) (.cons es .nil)) (nd_of rfl) rfl (measure_ok hxo h) ?_
    rintro _ w ⟨rfl, h⟩
    refine x_val (r_move es) (nd_of rfl) rfl ?_
    refine x_val (r_extract es gc0) (nd_of rfl) rfl ?_
    refine x_val (r_extract (en rfl es) gc1) (nd_of rfl) rfl ?_
    refine x_val (r_assign (en rfl es)) (nd_of rfl) rfl ?_
    refine x_val (r_assign (en rfl es)) (nd_of rfl) rfl ?_
    refine xw_nil ?_
    refine hK10 _ _ ?_
    refine xc_gen (fun g hg => ?_)
    have s0 := (hg 0).trans (en rfl (en rfl (en rfl (en rfl (en rfl (en rfl (en rfl (en rfl (en rfl (en rfl (en rfl (en rfl s0))))))))))))
    have s1 := (hg 1).trans (en rfl (en rfl (en rfl (en rfl (en rfl (en rfl (en rfl (en rfl (en rfl (en rfl (en rfl (en rfl s1))))))))))))
    have s4 := (hg 4).trans (en rfl (en rfl (en rfl (en rfl (en rfl (en rfl (en rfl (en rfl (en rfl (en rfl (en rfl (en rfl s4))))))))))))
    have s6 := (hg 6).trans (en rfl (en rfl (en rfl (en rfl (en rfl (en rfl (en rfl (en rfl (en rfl (en rfl (en rfl (en rfl s6))))))))))))
    have s7 := (hg 7).trans (en rfl es)
    have s12 := (hg 12).trans (en rfl (en rfl (en rfl (en rfl (en rfl (en rfl (en rfl (en rfl (en rfl (en rfl (en rfl (en rfl s12))))))))))))
    have s13 := (hg 13).trans (en rfl (en rfl (en rfl (en rfl (en rfl (en rfl (en rfl (en rfl (en rfl (en rfl (en rfl (en rfl s13))))))))))))
    have s14 := (hg 14).trans (en rfl (en rfl (en rfl (en rfl (en rfl (en rfl (en rfl (en rfl (en rfl (en rfl (en rfl (en rfl s14))))))))))))
    have s15 := (hg 15).trans (en rfl (en rfl (en rfl (en rfl (en rfl (en rfl (en rfl (en rfl (en rfl (en rfl (en rfl (en rfl s15))))))))))))
    clear hg
    refine xc_seq (fun K hK11 => ?_)
    refine xc_region ?_
    refine x_val (r_move s7) (nd_of rfl) rfl ?_
    refine x_val (r_eql es ec rfl) (nd_of rfl) rfl ?_
    refine xw_nil ?_
    refine hK11 _ _ ?_
    refine xc_gen (fun g hg => ?_)
    have s0 := (hg 0).trans (en rfl (en rfl s0))
    have s1 := (hg 1).trans (en rfl (en rfl s1))
    have s4 := (hg 4).trans (en rfl (en rfl s4))
    have s6 := (hg 6).trans (en rfl (en rfl s6))
    have s7 := (hg 7).trans (en rfl (en rfl s7))
    have s12 := (hg 12).trans (en rfl (en rfl s12))
    have s13 := (hg 13).trans (en rfl (en rfl s13))
    have s14 := (hg 14).trans (en rfl (en rfl s14))
    have s15 := (hg 15).trans (en rfl (en rfl s15))
    have s29 := (hg 29).trans es
    clear hg
    refine xc_cond s29 (fun hc => ?_) (fun hc => ?_)
    ·
      refine xc_exit ?_
      refine hK7 _ _ ?_
      have hz : xS x = 0 := by have := of_decide_eq_true hc; omega
      refine xc_region ?_
      refine x_val (r_add s14 ec (show _ = (((k + 1 : Nat) : Int) : Int) from by omega) (by unfold I64; omega)) (nd_of rfl) rfl ?_
      refine x_val (r_move es) (nd_of rfl) rfl ?_
      refine xw_nil ?_
      have h := h.f2
      have h := h.f2
      exact ⟨xs.length - (k + 1), by omega, ⟨k + 1, u, out, rfl, by omega, by rw [hstep, mstep_zero hz], es, (en rfl (en rfl s4)), h⟩, ⟨((en rfl (en rfl s0))).trans zG4_0.symm, ((en rfl (en rfl s1))).trans zG4_1.symm, ((en rfl (en rfl s12))).trans zG4_12.symm, ((en rfl (en rfl s13))).trans zG4_13.symm⟩⟩
    ·
      have hz : xS x ≠ 0 := by have := of_decide_eq_false hc; omega
      have h := h.f1
      have hcur := h
      obtain ⟨ao, co, rfl, _, _⟩ := hcur.rowVal
      rcases nil_or_snoc out with rfl | ⟨o, y, rfl⟩
      ·
        skip
        refine xc_skip ?_
        refine hK9 _ _ ?_
        refine xc_seq (fun K hK12 => ?_)
        refine xc_seq (fun K hK13 => ?_)
        have h := hcur
        refine xc_region ?_
        refine x_val (r_move s4) (nd_of rfl) rfl ?_
        refine x_val (r_len Try.underlying23 es) (nd_of rfl) rfl ?_
        refine x_val (r_sub es ec (show _ = ((-1 : Int) : Int) from by rfl) (by unfold I64; omega)) (nd_of rfl) rfl ?_
        refine x_val (r_assign es) (nd_of rfl) rfl ?_
        refine xw_nil ?_
        refine hK13 _ _ ?_
        refine xc_gen (fun g hg => ?_)
        have s0 := (hg 0).trans (en rfl (en rfl (en rfl (en rfl s0))))
        have s1 := (hg 1).trans (en rfl (en rfl (en rfl (en rfl s1))))
        have s4 := (hg 4).trans (en rfl (en rfl (en rfl (en rfl s4))))
        have s6 := (hg 6).trans (en rfl (en rfl (en rfl (en rfl s6))))
        have s7 := (hg 7).trans (en rfl (en rfl (en rfl (en rfl s7))))
        have s9 := (hg 9).trans es
        have s12 := (hg 12).trans (en rfl (en rfl (en rfl (en rfl s12))))
        have s13 := (hg 13).trans (en rfl (en rfl (en rfl (en rfl s13))))
        have s14 := (hg 14).trans (en rfl (en rfl (en rfl (en rfl s14))))
        have s15 := (hg 15).trans (en rfl (en rfl (en rfl (en rfl s15))))
        have s29 := (hg 29).trans (en rfl (en rfl (en rfl (en rfl s29))))
        clear hg
        refine xc_seq (fun K hK14 => ?_)
        refine xc_region ?_
        refine x_val (r_move s9) (nd_of rfl) rfl ?_
        refine x_val (r_geq es ec (decide_eq_false (by omega))) (nd_of rfl) rfl ?_
        refine xw_nil ?_
        refine hK14 _ _ ?_
        refine xc_gen (fun g hg => ?_)
        have s0 := (hg 0).trans (en rfl (en rfl s0))
        have s1 := (hg 1).trans (en rfl (en rfl s1))
        have s4 := (hg 4).trans (en rfl (en rfl s4))
        have s6 := (hg 6).trans (en rfl (en rfl s6))
        have s7 := (hg 7).trans (en rfl (en rfl s7))
        have s9 := (hg 9).trans (en rfl (en rfl s9))
        have s12 := (hg 12).trans (en rfl (en rfl s12))
        have s13 := (hg 13).trans (en rfl (en rfl s13))
        have s14 := (hg 14).trans (en rfl (en rfl s14))
        have s15 := (hg 15).trans (en rfl (en rfl s15))
        have s29 := (hg 29).trans (en rfl (en rfl s29))
        have s34 := (hg 34).trans es
        clear hg
        refine xc_cond s34 (fun hc => by cases hc) (fun _ => ?_)
        refine xc_skip ?_
        refine hK12 _ _ ?_
        refine xc_region ?_
        refine x_val (r_move s4) (nd_of rfl) rfl ?_
        refine x_val (r_move (en rfl s6)) (nd_of rfl) rfl ?_
        refine x_bslice (c := xC x) h Try.underlying23 Try.sizeOf38 zX rfl rfl es (xV_cells hxo) hox rfl ?_; intro bn w h; have h := h.f1
        refine x_append (bytes := 24) h Try.underlying23 (by kernel_rfl) (en rfl (en rfl es)) es ((Nat.one_mul _).symm ▸ hox) (by simp) (by simp) rfl ?_; intro u2 w h; have h := h.f1.drop
        refine x_val (r_assign es) (nd_of rfl) rfl ?_
        refine xw_nil ?_
        refine hK7 _ _ ?_
        refine xc_gen (fun g hg => ?_)
        have s0 := (hg 0).trans (en rfl (en rfl (en rfl (en rfl (en rfl s0)))))
        have s1 := (hg 1).trans (en rfl (en rfl (en rfl (en rfl (en rfl s1)))))
        have s4 := (hg 4).trans es
        have s6 := (hg 6).trans (en rfl (en rfl (en rfl (en rfl (en rfl s6)))))
        have s7 := (hg 7).trans (en rfl (en rfl (en rfl (en rfl (en rfl s7)))))
        have s9 := (hg 9).trans (en rfl (en rfl (en rfl (en rfl (en rfl s9)))))
        have s12 := (hg 12).trans (en rfl (en rfl (en rfl (en rfl (en rfl s12)))))
        have s13 := (hg 13).trans (en rfl (en rfl (en rfl (en rfl (en rfl s13)))))
        have s14 := (hg 14).trans (en rfl (en rfl (en rfl (en rfl (en rfl s14)))))
        have s15 := (hg 15).trans (en rfl (en rfl (en rfl (en rfl (en rfl s15)))))
        have s29 := (hg 29).trans (en rfl (en rfl (en rfl (en rfl (en rfl s29)))))
        have s34 := (hg 34).trans (en rfl (en rfl (en rfl (en rfl (en rfl s34)))))
        clear hg
        refine xc_region ?_
        refine x_val (r_add s14 ec (show _ = (((k + 1 : Nat) : Int) : Int) from by omega) (by unfold I64; omega)) (nd_of rfl) rfl ?_
        refine x_val (r_move es) (nd_of rfl) rfl ?_
        refine xw_nil ?_
        have h := h.f1
        have h := h.f2
        have h := h.f2
        exact ⟨xs.length - (k + 1), by omega, ⟨k + 1, u2, [x], rfl, by omega, by rw [hstep, mstep_nil hz], es, (en rfl (en rfl s4)), (show SatL E w (Row _ KX u2 [x].length (flat [x]) :: _) by rw [xflat_one]; exact h)⟩, ⟨((en rfl (en rfl s0))).trans zG4_0.symm, ((en rfl (en rfl s1))).trans zG4_1.symm, ((en rfl (en rfl s12))).trans zG4_12.symm, ((en rfl (en rfl s13))).trans zG4_13.symm⟩⟩
      ·
        skip
        refine xc_skip ?_
        refine hK9 _ _ ?_
        refine xc_seq (fun K hK15 => ?_)
        refine xc_seq (fun K hK16 => ?_)
        have h := hcur
        have hol : o.length + 1 ≤ (xs.take k).length := by simpa using hml
        have hyo := hmd.ok y (by simp)
        have hoy := hyo.cells
        have hsy : xS y + xS x ≤ 1000000000000 := by simp only [sz_app, sz] at hmz; omega
        have hxm := (hyo.meld hxo hsy).cells
        refine xc_region ?_
        refine x_val (r_move s4) (nd_of rfl) rfl ?_
        refine x_val (r_len Try.underlying23 es) (nd_of rfl) rfl ?_
        refine x_val (r_sub es ec (show _ = ((o.length : Int) : Int) from by (simp)) (by unfold I64; omega)) (nd_of rfl) rfl ?_
        refine x_val (r_assign es) (nd_of rfl) rfl ?_
        refine xw_nil ?_
        refine hK16 _ _ ?_
        refine xc_gen (fun g hg => ?_)
        have s0 := (hg 0).trans (en rfl (en rfl (en rfl (en rfl s0))))
        have s1 := (hg 1).trans (en rfl (en rfl (en rfl (en rfl s1))))
        have s4 := (hg 4).trans (en rfl (en rfl (en rfl (en rfl s4))))
        have s6 := (hg 6).trans (en rfl (en rfl (en rfl (en rfl s6))))
        have s7 := (hg 7).trans (en rfl (en rfl (en rfl (en rfl s7))))
        have s9 := (hg 9).trans es
        have s12 := (hg 12).trans (en rfl (en rfl (en rfl (en rfl s12))))
        have s13 := (hg 13).trans (en rfl (en rfl (en rfl (en rfl s13))))
        have s14 := (hg 14).trans (en rfl (en rfl (en rfl (en rfl s14))))
        have s15 := (hg 15).trans (en rfl (en rfl (en rfl (en rfl s15))))
        have s29 := (hg 29).trans (en rfl (en rfl (en rfl (en rfl s29))))
        clear hg
        refine xc_seq (fun K hK17 => ?_)
        refine xc_region ?_
        refine x_val (r_move s9) (nd_of rfl) rfl ?_
        refine x_val (r_geq es ec (decide_eq_true (by omega))) (nd_of rfl) rfl ?_
        refine xw_nil ?_
        refine hK17 _ _ ?_
        refine xc_gen (fun g hg => ?_)
        have s0 := (hg 0).trans (en rfl (en rfl s0))
        have s1 := (hg 1).trans (en rfl (en rfl s1))
        have s4 := (hg 4).trans (en rfl (en rfl s4))
        have s6 := (hg 6).trans (en rfl (en rfl s6))
        have s7 := (hg 7).trans (en rfl (en rfl s7))
        have s9 := (hg 9).trans (en rfl (en rfl s9))
        have s12 := (hg 12).trans (en rfl (en rfl s12))
        have s13 := (hg 13).trans (en rfl (en rfl s13))
        have s14 := (hg 14).trans (en rfl (en rfl s14))
        have s15 := (hg 15).trans (en rfl (en rfl s15))
        have s29 := (hg 29).trans (en rfl (en rfl s29))
        have s34 := (hg 34).trans es
        clear hg
        refine xc_cond s34 (fun _ => ?_) (fun hc => by cases hc)
        obtain ⟨go, co2, curo, hro, hh2⟩ := h.openRow (by simp)
        clear h hcur
        have hvo := hro.val
        simp only [Value.slice.injEq] at hvo
        obtain ⟨rfl, _, rfl⟩ := hvo
        have h := hh2
        have hto := hro.thing hmd.ok (i := o.length) (x := y) (by simp)
        obtain ⟨G18, hG18⟩ : ∃ g0 : Nat → Value, g0 = g := ⟨_, rfl⟩
        have zG18_0 : G18 0 = _ := (congrFun hG18 0).trans s0
        have zG18_1 : G18 1 = _ := (congrFun hG18 1).trans s1
        have zG18_4 : G18 4 = _ := (congrFun hG18 4).trans s4
        have zG18_6 : G18 6 = _ := (congrFun hG18 6).trans s6
        have zG18_7 : G18 7 = _ := (congrFun hG18 7).trans s7
        have zG18_9 : G18 9 = _ := (congrFun hG18 9).trans s9
        have zG18_12 : G18 12 = _ := (congrFun hG18 12).trans s12
        have zG18_13 : G18 13 = _ := (congrFun hG18 13).trans s13
        have zG18_14 : G18 14 = _ := (congrFun hG18 14).trans s14
        have zG18_15 : G18 15 = _ := (congrFun hG18 15).trans s15
        have zG18_29 : G18 29 = _ := (congrFun hG18 29).trans s29
        have zG18_34 : G18 34 = _ := (congrFun hG18 34).trans s34
        refine xc_cut (fun f w => (f 10 = xV (xMeld y x) ∧ f 11 = .bool (xMelds y x) ∧ (xMelds y x = true → Ok KX (xC (xMeld y x))) ∧ SatL E w (Cells go curo 38 :: XRow (.slice (some ⟨gi, 0, none⟩) xs.length cp0) xs :: TC bt ba ro :: R)) ∧ (f 0 = G18 0 ∧ f 1 = G18 1 ∧ f 4 = G18 4 ∧ f 6 = G18 6 ∧ f 7 = G18 7 ∧ f 9 = G18 9 ∧ f 12 = G18 12 ∧ f 13 = G18 13 ∧ f 14 = G18 14 ∧ f 15 = G18 15 ∧ f 29 = G18 29 ∧ f 34 = G18 34)) ?_ ?_
        ·
          skip
          refine xc_plan 16 [(0, 2), (1, 2), (2, 2), (3, 2), (4, 1), (5, 2), (6, 2), (7, 2), (8, 1), (9, 2), (10, 0), (11, 2), (12, 2), (13, 2), (14, 2), (15, 2)] (by kernel_rfl) rfl (by kernel_rfl) h ?_
          have h := h.drew
          refine xp_read (i := 0) rfl (fun W => r_move s0) rfl (fun _ _ _ hh => by first | exact bodyR_np hh | exact bodyY_np hh | exact hh) ?_
          refine xp_read (i := 1) rfl (fun W => r_nilCheck es) rfl (fun _ _ _ hh => by first | exact bodyR_np hh | exact bodyY_np hh | exact hh) ?_
          refine xp_read (i := 2) rfl (fun W => r_fieldAddr (o' := 0) Try.underlying83 rfl Try.sizeOf78 rfl es rfl) rfl (fun _ _ _ hh => by first | exact bodyR_np hh | exact bodyY_np hh | exact hh) ?_
          refine xp_read (i := 3) rfl (fun W => r_fieldAddr (o' := 2) Try.underlying78 rfl Try.sizeOf76 rfl es rfl) rfl (fun _ _ _ hh => by first | exact bodyR_np hh | exact bodyY_np hh | exact hh) ?_
          refine xp_load (i := 4) rfl (fun W hW => r_load hW 2 rfl Try.isAgg76 es gc2) rfl (fun _ _ _ hh => by first | exact bodyR_np hh | exact bodyY_np hh | exact hh) ?_
          refine xp_read (i := 5) rfl (fun W => r_move (en rfl (en rfl (en rfl (en rfl (en rfl s4)))))) rfl (fun _ _ _ hh => by first | exact bodyR_np hh | exact bodyY_np hh | exact hh) ?_
          refine xp_read (i := 6) rfl (fun W => r_move (en rfl (en rfl (en rfl (en rfl (en rfl (en rfl s9))))))) rfl (fun _ _ _ hh => by first | exact bodyR_np hh | exact bodyY_np hh | exact hh) ?_
          refine xp_read (i := 7) rfl (fun W => r_indexAddrN Try.underlying23 Try.sizeOf38 (en rfl es) es ((by simp))) rfl (fun _ _ _ hh => by first | exact bodyR_np hh | exact bodyY_np hh | exact hh) ?_
          refine xp_load (i := 8) rfl (fun W hW => r_load hW 0 rfl Try.isAgg38 es (one_thing hto)) rfl (fun _ _ _ hh => by first | exact bodyR_np hh | exact bodyY_np hh | exact hh) ?_
          refine xp_read (i := 9) rfl (fun W => r_move (en rfl (en rfl (en rfl (en rfl (en rfl (en rfl (en rfl (en rfl (en rfl s6)))))))))) rfl (fun _ _ _ hh => by first | exact bodyR_np hh | exact bodyY_np hh | exact hh) ?_
          refine xp_enter (i := 10) rfl (r_callv Try.call39 (en rfl (en rfl (en rfl (en rfl (en rfl es))))) (.cons (en rfl es) (.cons es .nil))) rfl (meld_ok hyo hxo h) ?_
          rintro _ w ⟨rfl, h⟩
          refine ⟨(fun _ => h), ?_⟩
          refine xp_read (i := 11) rfl (fun W => r_move es) rfl (fun _ _ _ hh => by first | exact bodyR_np hh | exact bodyY_np hh | exact hh) ?_
          refine xp_read (i := 12) rfl (fun W => r_extract es gc0) rfl (fun _ _ _ hh => by first | exact bodyR_np hh | exact bodyY_np hh | exact hh) ?_
          refine xp_read (i := 13) rfl (fun W => r_extract (en rfl es) gc1) rfl (fun _ _ _ hh => by first | exact bodyR_np hh | exact bodyY_np hh | exact hh) ?_
          refine xp_read (i := 14) rfl (fun W => r_assign (en rfl es)) rfl (fun _ _ _ hh => by first | exact bodyR_np hh | exact bodyY_np hh | exact hh) ?_
          refine xp_read (i := 15) rfl (fun W => r_assign (en rfl es)) rfl (fun _ _ _ hh => by first | exact bodyR_np hh | exact bodyY_np hh | exact hh) ?_
          refine xp_nil ?_
          exact ⟨⟨(en rfl es), es, fun hm => (hyo.meld hxo hsy).cells, h⟩, ⟨((en rfl (en rfl (en rfl (en rfl (en rfl (en rfl (en rfl (en rfl (en rfl (en rfl (en rfl (en rfl (en rfl (en rfl (en rfl (en rfl s0))))))))))))))))).trans zG18_0.symm, ((en rfl (en rfl (en rfl (en rfl (en rfl (en rfl (en rfl (en rfl (en rfl (en rfl (en rfl (en rfl (en rfl (en rfl (en rfl (en rfl s1))))))))))))))))).trans zG18_1.symm, ((en rfl (en rfl (en rfl (en rfl (en rfl (en rfl (en rfl (en rfl (en rfl (en rfl (en rfl (en rfl (en rfl (en rfl (en rfl (en rfl s4))))))))))))))))).trans zG18_4.symm, ((en rfl (en rfl (en rfl (en rfl (en rfl (en rfl (en rfl (en rfl (en rfl (en rfl (en rfl (en rfl (en rfl (en rfl (en rfl (en rfl s6))))))))))))))))).trans zG18_6.symm, ((en rfl (en rfl (en rfl (en rfl (en rfl (en rfl (en rfl (en rfl (en rfl (en rfl (en rfl (en rfl (en rfl (en rfl (en rfl (en rfl s7))))))))))))))))).trans zG18_7.symm, ((en rfl (en rfl (en rfl (en rfl (en rfl (en rfl (en rfl (en rfl (en rfl (en rfl (en rfl (en rfl (en rfl (en rfl (en rfl (en rfl s9))))))))))))))))).trans zG18_9.symm, ((en rfl (en rfl (en rfl (en rfl (en rfl (en rfl (en rfl (en rfl (en rfl (en rfl (en rfl (en rfl (en rfl (en rfl (en rfl (en rfl s12))))))))))))))))).trans zG18_12.symm, ((en rfl (en rfl (en rfl (en rfl (en rfl (en rfl (en rfl (en rfl (en rfl (en rfl (en rfl (en rfl (en rfl (en rfl (en rfl (en rfl s13))))))))))))))))).trans zG18_13.symm, ((en rfl (en rfl (en rfl (en rfl (en rfl (en rfl (en rfl (en rfl (en rfl (en rfl (en rfl (en rfl (en rfl (en rfl (en rfl (en rfl s14))))))))))))))))).trans zG18_14.symm, ((en rfl (en rfl (en rfl (en rfl (en rfl (en rfl (en rfl (en rfl (en rfl (en rfl (en rfl (en rfl (en rfl (en rfl (en rfl (en rfl s15))))))))))))))))).trans zG18_15.symm, ((en rfl (en rfl (en rfl (en rfl (en rfl (en rfl (en rfl (en rfl (en rfl (en rfl (en rfl (en rfl (en rfl (en rfl (en rfl (en rfl s29))))))))))))))))).trans zG18_29.symm, ((en rfl (en rfl (en rfl (en rfl (en rfl (en rfl (en rfl (en rfl (en rfl (en rfl (en rfl (en rfl (en rfl (en rfl (en rfl (en rfl s34))))))))))))))))).trans zG18_34.symm⟩⟩
        ·
          rintro g w ⟨⟨s10, s11, hom, h⟩, ⟨y0, y1, y4, y6, y7, y9, y12, y13, y14, y15, y29, y34⟩⟩
          have s0 := y0.trans zG18_0
          have s1 := y1.trans zG18_1
          have s4 := y4.trans zG18_4
          have s6 := y6.trans zG18_6
          have s7 := y7.trans zG18_7
          have s9 := y9.trans zG18_9
          have s12 := y12.trans zG18_12
          have s13 := y13.trans zG18_13
          have s14 := y14.trans zG18_14
          have s15 := y15.trans zG18_15
          have s29 := y29.trans zG18_29
          have s34 := y34.trans zG18_34
          refine xc_seq (fun K hK19 => ?_)
          refine xc_region ?_
          refine x_val (r_move s11) (nd_of rfl) rfl ?_
          refine xw_nil ?_
          refine hK19 _ _ ?_
          refine xc_gen (fun g hg => ?_)
          have s0 := (hg 0).trans (en rfl s0)
          have s1 := (hg 1).trans (en rfl s1)
          have s4 := (hg 4).trans (en rfl s4)
          have s6 := (hg 6).trans (en rfl s6)
          have s7 := (hg 7).trans (en rfl s7)
          have s9 := (hg 9).trans (en rfl s9)
          have s10 := (hg 10).trans (en rfl s10)
          have s11 := (hg 11).trans (en rfl s11)
          have s12 := (hg 12).trans (en rfl s12)
          have s13 := (hg 13).trans (en rfl s13)
          have s14 := (hg 14).trans (en rfl s14)
          have s15 := (hg 15).trans (en rfl s15)
          have s29 := (hg 29).trans (en rfl s29)
          have s34 := (hg 34).trans (en rfl s34)
          have s49 := (hg 49).trans es
          clear hg
          refine xc_cond s49 (fun hc => ?_) (fun hc => ?_)
          ·
            refine xc_seq (fun K hK20 => ?_)
            have hom := hom hc
            have hlast := hro.lastSet hmd.ok (hyo.meld hxo hsy)
            refine xc_region ?_
            refine x_val (r_move s4) (nd_of rfl) rfl ?_
            refine x_val (r_move (en rfl s9)) (nd_of rfl) rfl ?_
            refine x_val (r_move (en rfl (en rfl s10))) (nd_of rfl) rfl ?_
            refine x_val (r_indexAddrN Try.underlying23 Try.sizeOf38 (en rfl (en rfl es)) (en rfl es) ((by simp))) (nd_of rfl) rfl ?_
            refine x_st (r_store h 0 rfl Try.sizeOf38 es (en rfl es) rfl (Array.getElem?_eq_getElem (by have h9 : o.length * 1 + 1 ≤ curo.size := hlast.1; omega))) rfl (h.u0 (one_put hlast.1)) ?_
            intro w h
            refine xw_nil ?_
            refine hK20 _ _ ?_
            refine xc_gen (fun g hg => ?_)
            have s0 := (hg 0).trans (en rfl (en rfl (en rfl (en rfl s0))))
            have s1 := (hg 1).trans (en rfl (en rfl (en rfl (en rfl s1))))
            have s4 := (hg 4).trans (en rfl (en rfl (en rfl (en rfl s4))))
            have s6 := (hg 6).trans (en rfl (en rfl (en rfl (en rfl s6))))
            have s7 := (hg 7).trans (en rfl (en rfl (en rfl (en rfl s7))))
            have s9 := (hg 9).trans (en rfl (en rfl (en rfl (en rfl s9))))
            have s10 := (hg 10).trans (en rfl (en rfl (en rfl (en rfl s10))))
            have s11 := (hg 11).trans (en rfl (en rfl (en rfl (en rfl s11))))
            have s12 := (hg 12).trans (en rfl (en rfl (en rfl (en rfl s12))))
            have s13 := (hg 13).trans (en rfl (en rfl (en rfl (en rfl s13))))
            have s14 := (hg 14).trans (en rfl (en rfl (en rfl (en rfl s14))))
            have s15 := (hg 15).trans (en rfl (en rfl (en rfl (en rfl s15))))
            have s29 := (hg 29).trans (en rfl (en rfl (en rfl (en rfl s29))))
            have s34 := (hg 34).trans (en rfl (en rfl (en rfl (en rfl s34))))
            have s49 := (hg 49).trans (en rfl (en rfl (en rfl (en rfl s49))))
            clear hg
            refine xc_exit ?_
            refine hK7 _ _ ?_
            refine xc_region ?_
            refine x_val (r_add s14 ec (show _ = (((k + 1 : Nat) : Int) : Int) from by omega) (by unfold I64; omega)) (nd_of rfl) rfl ?_
            refine x_val (r_move es) (nd_of rfl) rfl ?_
            refine xw_nil ?_
            have h := h.f1
            have h := h.f2
            have h := h.f2
            exact ⟨xs.length - (k + 1), by omega, ⟨k + 1, _, o ++ [xMeld y x], rfl, by omega, by rw [hstep, mstep_yes hz hc], es, (en rfl (en rfl s4)), h.closeRow hlast.2⟩, ⟨((en rfl (en rfl s0))).trans zG4_0.symm, ((en rfl (en rfl s1))).trans zG4_1.symm, ((en rfl (en rfl s12))).trans zG4_12.symm, ((en rfl (en rfl s13))).trans zG4_13.symm⟩⟩
          ·
            refine xc_skip ?_
            refine hK15 _ _ ?_
            have h := h.closeRow hro
            refine xc_region ?_
            refine x_val (r_move s4) (nd_of rfl) rfl ?_
            refine x_val (r_move (en rfl s6)) (nd_of rfl) rfl ?_
            refine x_bslice (c := xC x) h Try.underlying23 Try.sizeOf38 zX rfl rfl es (xV_cells hxo) hox rfl ?_; intro bn w h; have h := h.f1
            refine x_append (bytes := 24) h Try.underlying23 (by kernel_rfl) (en rfl (en rfl es)) es ((Nat.one_mul _).symm ▸ hox) (by omega) (by omega) rfl ?_; intro u2 w h; have h := h.f1.drop
            refine x_val (r_assign es) (nd_of rfl) rfl ?_
            refine xw_nil ?_
            refine hK7 _ _ ?_
            refine xc_gen (fun g hg => ?_)
            have s0 := (hg 0).trans (en rfl (en rfl (en rfl (en rfl (en rfl s0)))))
            have s1 := (hg 1).trans (en rfl (en rfl (en rfl (en rfl (en rfl s1)))))
            have s4 := (hg 4).trans es
            have s6 := (hg 6).trans (en rfl (en rfl (en rfl (en rfl (en rfl s6)))))
            have s7 := (hg 7).trans (en rfl (en rfl (en rfl (en rfl (en rfl s7)))))
            have s9 := (hg 9).trans (en rfl (en rfl (en rfl (en rfl (en rfl s9)))))
            have s10 := (hg 10).trans (en rfl (en rfl (en rfl (en rfl (en rfl s10)))))
            have s11 := (hg 11).trans (en rfl (en rfl (en rfl (en rfl (en rfl s11)))))
            have s12 := (hg 12).trans (en rfl (en rfl (en rfl (en rfl (en rfl s12)))))
            have s13 := (hg 13).trans (en rfl (en rfl (en rfl (en rfl (en rfl s13)))))
            have s14 := (hg 14).trans (en rfl (en rfl (en rfl (en rfl (en rfl s14)))))
            have s15 := (hg 15).trans (en rfl (en rfl (en rfl (en rfl (en rfl s15)))))
            have s29 := (hg 29).trans (en rfl (en rfl (en rfl (en rfl (en rfl s29)))))
            have s34 := (hg 34).trans (en rfl (en rfl (en rfl (en rfl (en rfl s34)))))
            have s49 := (hg 49).trans (en rfl (en rfl (en rfl (en rfl (en rfl s49)))))
            clear hg
            refine xc_region ?_
            refine x_val (r_add s14 ec (show _ = (((k + 1 : Nat) : Int) : Int) from by omega) (by unfold I64; omega)) (nd_of rfl) rfl ?_
            refine x_val (r_move es) (nd_of rfl) rfl ?_
            refine xw_nil ?_
            have h := h.f1
            have h := h.f2
            have h := h.f2
            exact ⟨xs.length - (k + 1), by omega, ⟨k + 1, u2, o ++ [y] ++ [x], rfl, by omega, by rw [hstep, mstep_no hz hc], es, (en rfl (en rfl s4)), (show SatL E w (Row _ KX u2 (o ++ [y] ++ [x]).length (flat (o ++ [y] ++ [x])) :: _) by rw [flat_app, xflat_one, List.length_append]; exact h)⟩, ⟨((en rfl (en rfl s0))).trans zG4_0.symm, ((en rfl (en rfl s1))).trans zG4_1.symm, ((en rfl (en rfl s12))).trans zG4_12.symm, ((en rfl (en rfl s13))).trans zG4_13.symm⟩⟩
  ·
    refine xc_exit ?_
    refine hK2 _ _ ?_
    refine xc_seq (fun K hK21 => ?_)
    obtain rfl : k = xs.length := by have := of_decide_eq_false hc; omega
    rw [List.take_length] at hout
    change out = meldL xs at hout
    subst hout
    refine xc_region ?_
    refine x_val (r_move s4) (nd_of rfl) rfl ?_
    refine x_val (r_assign es) (nd_of rfl) rfl ?_
    refine xw_nil ?_
    refine hK21 _ _ ?_
    refine xc_gen (fun g hg => ?_)
    have s0 := (hg 0).trans (en rfl (en rfl s0))
    have s1 := (hg 1).trans (en rfl (en rfl s1))
    have s4 := (hg 4).trans es
    have s12 := (hg 12).trans (en rfl (en rfl s12))
    have s13 := (hg 13).trans (en rfl (en rfl s13))
    have s14 := (hg 14).trans (en rfl (en rfl s14))
    have s15 := (hg 15).trans (en rfl (en rfl s15))
    clear hg
    refine xc_ret ?_
    refine bodyR_1 rfl s4 ?_
    exact h
end
end Go.Proofs.Ytonnijghdlakfaa
