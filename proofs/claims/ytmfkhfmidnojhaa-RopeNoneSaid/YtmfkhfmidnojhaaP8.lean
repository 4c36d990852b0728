/-
The reference's Insert into an empty rope.
-/
import Derived.Test.YtmfkhfmidnojhaaP7
namespace Go.Proofs.Ytmfkhfmidnojhaa
open Go Go.RowKit
section
variable {P : Program} {f : Nat → Value} {w : World} {d : Option Tmp} {ty : TypeId} {pos : String} {af : Array Edge} {g : Option (Tmp × Bool)}
theorem r_slice00 {T e : TypeId} {x y : Operand} {s : Nat} {kk : IntKind} {a : Option Addr} (hu : P.underlying T = some (.slice e)) (hs : ∀ w, (sizeOf e).run P w = .ok s w)
    (hx : ev f x = .slice a 0 0) (hy : ev f y = .int kk 0) :
    (execOp (ev f) ⟨d, .slice T x none (some y) none, ty, pos, af, g⟩).run P w = .ok (.value (.slice a 0 0)) w := by
  have e0 : a.map (fun b => b.add 0) = a := by cases a <;> simp [Addr.add]
  simp [execOp, hx, hy, Instr.sliceAt, Instr.slice, Instr.sliceBounds, Instr.sliceBound, asIntOf, run_underlying hu, hs, e0]
theorem append_two {t t2 e e2 ty : TypeId} {s l c : Nat} {b : Option Addr} {x : Value} (h1 : P.underlying t = some (.slice e)) (h2 : P.underlying t2 = some (.slice e2)) (hs : ∀ w, (sizeOf e).run P w = .ok s w) :
    (Builtin.append_ #[t, t2] ty #[.slice b l c, x]).run P w = (Builtin.append_ #[t, t] ty #[.slice b l c, x]).run P w := by
  unfold Builtin.append_
  simp [run_underlying h1, run_underlying h2, hs]
theorem r_append2 {t t2 e e2 : TypeId} {s l c : Nat} {x y : Operand} {o : Option Addr} {b v' : Value} {w' : World} (h1 : P.underlying t = some (.slice e)) (h2 : P.underlying t2 = some (.slice e2)) (hs : ∀ w, (sizeOf e).run P w = .ok s w) (hx : ev f x = .slice o l c) (hy : ev f y = b)
    (hr : (Builtin.append_ #[t, t] ty #[.slice o l c, b]).run P w = .ok v' w') : (execOp (ev f) ⟨d, .call { callee := .builtin .append, args := #[x, y], argTypes := #[t, t2] }, ty, pos, af, g⟩).run P w = .ok (.value v') w' := by
  rw [← append_two h1 h2 hs] at hr
  simp [execOp, resolve, invoke, builtin, hx, hy, hr]
end
section
variable {E : Env} {R : List SProp} {w : World} {v : Value} {zs : List Int} {b : Nat}
theorem refIns_bad {i : Int} (hv : Reads E R v .i32 zs) (hb : ∃ r ∈ zs, ¬ rune r) (hz : zs.length ≤ 1000000) (h : SatL E w R) : Calls Try.prog 22 #[.slice (some ⟨b, 0, none⟩) 0 0, .int .i64 i, v] w (Ret fun u w' => u = .tuple #[.slice (some ⟨b, 0, none⟩) 0 0, .int .i64 3] ∧ SatL E w' R) := by
  obtain ⟨a, cap, rfl, _, _⟩ := hv.slice h
  refine calls_x Try.func22 rfl Try.ntmps22 rfl ?_
  refine xc_gen (fun g hg => ?_)
  have s0 := (hg 0).trans arg0
  have s1 := (hg 1).trans arg1
  have s2 := (hg 2).trans arg2
  clear hg
  refine xc_seq (fun K hK1 => ?_)
  refine xc_region ?_
  refine x_val (r_assign ec) (nd_of rfl) rfl ?_
  refine x_val (r_assign ec) (nd_of rfl) rfl ?_
  refine xw_nil ?_
  refine hK1 _ _ ?_
  refine xc_gen (fun g hg => ?_)
  have s0 := (hg 0).trans (en rfl (en rfl s0))
  have s1 := (hg 1).trans (en rfl (en rfl s1))
  have s2 := (hg 2).trans (en rfl (en rfl s2))
  have s6 := (hg 6).trans (en rfl es)
  have s7 := (hg 7).trans es
  clear hg
  refine xc_seq (fun K hK2 => ?_)
  refine xc_seq (fun K hK3 => ?_)
  refine xc_region ?_
  refine x_val (r_assign ec) (nd_of rfl) rfl ?_
  refine xw_nil ?_
  refine hK3 _ _ ?_
  refine xc_gen (fun g hg => ?_)
  have s0 := (hg 0).trans (en rfl s0)
  have s1 := (hg 1).trans (en rfl s1)
  have s2 := (hg 2).trans (en rfl s2)
  have s6 := (hg 6).trans (en rfl s6)
  have s7 := (hg 7).trans (en rfl s7)
  have s8 := (hg 8).trans es
  clear hg
  refine xc_block ?_
  obtain ⟨G4, hG4⟩ : ∃ g0 : Nat → Value, g0 = g := ⟨_, rfl⟩
  have zG4_0 : G4 0 = _ := (congrFun hG4 0).trans s0
  have zG4_1 : G4 1 = _ := (congrFun hG4 1).trans s1
  have zG4_2 : G4 2 = _ := (congrFun hG4 2).trans s2
  refine xc_loop (fun m f w => (∃ k : Nat, m = zs.length - k ∧ k ≤ zs.length ∧ (∀ j r, j < k → zs[j]? = some r → rune r) ∧ f 8 = .int .i64 (k : Int) ∧ SatL E w R) ∧ (f 0 = G4 0 ∧ f 1 = G4 1 ∧ f 2 = G4 2)) (zs.length) ⟨⟨0, by omega, by omega, fun j r hj => by omega, s8, h⟩, ⟨congrFun hG4.symm 0, congrFun hG4.symm 1, congrFun hG4.symm 2⟩⟩ ?_
  rintro m g w ⟨⟨k, hm, hk, hgo, s8, h⟩, ⟨y0, y1, y2⟩⟩
  have s0 := y0.trans zG4_0
  have s1 := y1.trans zG4_1
  have s2 := y2.trans zG4_2
  refine xc_seq (fun K hK5 => ?_)
  refine xc_seq (fun K hK6 => ?_)
  refine xc_region ?_
  refine x_val (r_move s8) (nd_of rfl) rfl ?_
  refine x_val (r_move (en rfl s2)) (nd_of rfl) rfl ?_
  refine x_val (r_len Try.underlying23 es) (nd_of rfl) rfl ?_
  refine x_val (r_lss (en rfl (en rfl es)) es rfl) (nd_of rfl) rfl ?_
  refine xw_nil ?_
  refine hK6 _ _ ?_
  refine xc_gen (fun g hg => ?_)
  have s0 := (hg 0).trans (en rfl (en rfl (en rfl (en rfl s0))))
  have s1 := (hg 1).trans (en rfl (en rfl (en rfl (en rfl s1))))
  have s2 := (hg 2).trans (en rfl (en rfl (en rfl (en rfl s2))))
  have s8 := (hg 8).trans (en rfl (en rfl (en rfl (en rfl s8))))
  have s13 := (hg 13).trans es
  clear hg
  refine xc_cond s13 (fun hc => ?_) (fun hc => ?_)
  ·
    refine xc_skip ?_
    refine hK5 _ _ ?_
    refine xc_seq (fun K hK7 => ?_)
    refine xc_block ?_
    refine xc_seq (fun K hK8 => ?_)
    have hi : k < zs.length := by have := of_decide_eq_true hc; omega
    obtain ⟨r, hr⟩ : ∃ r, zs[k]? = some r := ⟨_, List.getElem?_eq_getElem hi⟩
    obtain ⟨a', rfl, _⟩ := hv.get h hr
    refine xc_region ?_
    refine x_val (r_move s2) (nd_of rfl) rfl ?_
    refine x_val (r_move (en rfl s8)) (nd_of rfl) rfl ?_
    refine x_val (r_index1 Try.underlying23 Try.sizeOf21 (en rfl es) es hi) (nd_of rfl) rfl ?_
    refine x_val (r_loadCell Try.isAgg21 es (by obtain ⟨b1, e1, c1⟩ := hv.get h hr; cases e1; exact c1)) (nd_of rfl) rfl ?_
    refine x_enter (r_call Try.call42 (.cons es .nil)) (nd_of rfl) rfl (refCode_ok h) ?_
    rintro _ w ⟨rfl, h⟩
    refine x_val (r_not es rfl) (nd_of rfl) rfl ?_
    refine xw_nil ?_
    refine hK8 _ _ ?_
    refine xc_gen (fun g hg => ?_)
    have s0 := (hg 0).trans (en rfl (en rfl (en rfl (en rfl (en rfl (en rfl s0))))))
    have s1 := (hg 1).trans (en rfl (en rfl (en rfl (en rfl (en rfl (en rfl s1))))))
    have s2 := (hg 2).trans (en rfl (en rfl (en rfl (en rfl (en rfl (en rfl s2))))))
    have s8 := (hg 8).trans (en rfl (en rfl (en rfl (en rfl (en rfl (en rfl s8))))))
    have s13 := (hg 13).trans (en rfl (en rfl (en rfl (en rfl (en rfl (en rfl s13))))))
    have s21 := (hg 21).trans es
    clear hg
    refine xc_cond s21 (fun hc => ?_) (fun hc => ?_)
    ·
      refine xc_seq (fun K hK9 => ?_)
      refine xc_region ?_
      refine x_val (r_move s0) (nd_of rfl) rfl ?_
      refine x_val (r_assign es) (nd_of rfl) rfl ?_
      refine x_val (r_assign ec) (nd_of rfl) rfl ?_
      refine xw_nil ?_
      refine hK9 _ _ ?_
      refine xc_gen (fun g hg => ?_)
      have s0 := (hg 0).trans (en rfl (en rfl (en rfl s0)))
      have s1 := (hg 1).trans (en rfl (en rfl (en rfl s1)))
      have s2 := (hg 2).trans (en rfl (en rfl (en rfl s2)))
      have s6 := (hg 6).trans (en rfl es)
      have s7 := (hg 7).trans es
      have s8 := (hg 8).trans (en rfl (en rfl (en rfl s8)))
      have s13 := (hg 13).trans (en rfl (en rfl (en rfl s13)))
      have s21 := (hg 21).trans (en rfl (en rfl (en rfl s21)))
      clear hg
      refine xc_ret ?_
      refine bodyR_2 rfl s6 s7 ?_
      exact ⟨rfl, h⟩
    ·
      refine xc_skip ?_
      refine hK7 _ _ ?_
      have hru : rune r := by simpa using hc
      refine xc_region ?_
      refine x_val (r_move s8) (nd_of rfl) rfl ?_
      refine x_val (r_add es ec (show _ = (((k + 1 : Nat) : Int) : Int) from by omega) (by unfold I64; omega)) (nd_of rfl) rfl ?_
      refine x_val (r_assign es) (nd_of rfl) rfl ?_
      refine xw_nil ?_
      exact ⟨zs.length - (k + 1), by omega, ⟨k + 1, rfl, by omega, fun j r' hj' hr' => by rcases Nat.lt_or_ge j k with h1 | h1; exact hgo j r' h1 hr'; obtain rfl : j = k := (by omega); rw [hr] at hr'; cases hr'; exact hru, es, h⟩, ⟨((en rfl (en rfl (en rfl s0)))).trans zG4_0.symm, ((en rfl (en rfl (en rfl s1)))).trans zG4_1.symm, ((en rfl (en rfl (en rfl s2)))).trans zG4_2.symm⟩⟩
  ·
    obtain ⟨r, hr, hnr⟩ := hb
    obtain ⟨j, hj, he⟩ := List.mem_iff_getElem.1 hr
    have hkl : ¬ k < zs.length := by have := of_decide_eq_false hc; omega
    exact absurd (hgo j r (by omega) (by rw [List.getElem?_eq_getElem hj, he])) hnr
theorem refIns_no {i : Int} (hv : Reads E R v .i32 zs) (ha : ∀ r ∈ zs, rune r) (hi : i ≠ 0) (hz : zs.length ≤ 1000000) (h : SatL E w R) : Calls Try.prog 22 #[.slice (some ⟨b, 0, none⟩) 0 0, .int .i64 i, v] w (Ret fun u w' => u = .tuple #[.slice (some ⟨b, 0, none⟩) 0 0, .int .i64 5] ∧ SatL E w' R) := by
  obtain ⟨a, cap, rfl, _, _⟩ := hv.slice h
  have he : i < 0 ∨ 0 < i := by omega
  refine calls_x Try.func22 rfl Try.ntmps22 rfl ?_
  refine xc_gen (fun g hg => ?_)
  have s0 := (hg 0).trans arg0
  have s1 := (hg 1).trans arg1
  have s2 := (hg 2).trans arg2
  clear hg
  refine xc_seq (fun K hK1 => ?_)
  refine xc_region ?_
  refine x_val (r_assign ec) (nd_of rfl) rfl ?_
  refine x_val (r_assign ec) (nd_of rfl) rfl ?_
  refine xw_nil ?_
  refine hK1 _ _ ?_
  refine xc_gen (fun g hg => ?_)
  have s0 := (hg 0).trans (en rfl (en rfl s0))
  have s1 := (hg 1).trans (en rfl (en rfl s1))
  have s2 := (hg 2).trans (en rfl (en rfl s2))
  have s6 := (hg 6).trans (en rfl es)
  have s7 := (hg 7).trans es
  clear hg
  refine xc_seq (fun K hK2 => ?_)
  refine xc_seq (fun K hK3 => ?_)
  refine xc_region ?_
  refine x_val (r_assign ec) (nd_of rfl) rfl ?_
  refine xw_nil ?_
  refine hK3 _ _ ?_
  refine xc_gen (fun g hg => ?_)
  have s0 := (hg 0).trans (en rfl s0)
  have s1 := (hg 1).trans (en rfl s1)
  have s2 := (hg 2).trans (en rfl s2)
  have s6 := (hg 6).trans (en rfl s6)
  have s7 := (hg 7).trans (en rfl s7)
  have s8 := (hg 8).trans es
  clear hg
  refine xc_block ?_
  obtain ⟨G4, hG4⟩ : ∃ g0 : Nat → Value, g0 = g := ⟨_, rfl⟩
  have zG4_0 : G4 0 = _ := (congrFun hG4 0).trans s0
  have zG4_1 : G4 1 = _ := (congrFun hG4 1).trans s1
  have zG4_2 : G4 2 = _ := (congrFun hG4 2).trans s2
  refine xc_loop (fun m f w => (∃ k : Nat, m = zs.length - k ∧ k ≤ zs.length ∧ f 8 = .int .i64 (k : Int) ∧ SatL E w R) ∧ (f 0 = G4 0 ∧ f 1 = G4 1 ∧ f 2 = G4 2)) (zs.length) ⟨⟨0, by omega, by omega, s8, h⟩, ⟨congrFun hG4.symm 0, congrFun hG4.symm 1, congrFun hG4.symm 2⟩⟩ ?_
  rintro m g w ⟨⟨k, hm, hk, s8, h⟩, ⟨y0, y1, y2⟩⟩
  have s0 := y0.trans zG4_0
  have s1 := y1.trans zG4_1
  have s2 := y2.trans zG4_2
  refine xc_seq (fun K hK5 => ?_)
  refine xc_seq (fun K hK6 => ?_)
  refine xc_region ?_
  refine x_val (r_move s8) (nd_of rfl) rfl ?_
  refine x_val (r_move (en rfl s2)) (nd_of rfl) rfl ?_
  refine x_val (r_len Try.underlying23 es) (nd_of rfl) rfl ?_
  refine x_val (r_lss (en rfl (en rfl es)) es rfl) (nd_of rfl) rfl ?_
  refine xw_nil ?_
  refine hK6 _ _ ?_
  refine xc_gen (fun g hg => ?_)
  have s0 := (hg 0).trans (en rfl (en rfl (en rfl (en rfl s0))))
  have s1 := (hg 1).trans (en rfl (en rfl (en rfl (en rfl s1))))
  have s2 := (hg 2).trans (en rfl (en rfl (en rfl (en rfl s2))))
  have s8 := (hg 8).trans (en rfl (en rfl (en rfl (en rfl s8))))
  have s13 := (hg 13).trans es
  clear hg
  refine xc_cond s13 (fun hc => ?_) (fun hc => ?_)
  ·
    refine xc_skip ?_
    refine hK5 _ _ ?_
    refine xc_seq (fun K hK7 => ?_)
    refine xc_block ?_
    refine xc_seq (fun K hK8 => ?_)
    have hi : k < zs.length := by have := of_decide_eq_true hc; omega
    obtain ⟨r, hr⟩ : ∃ r, zs[k]? = some r := ⟨_, List.getElem?_eq_getElem hi⟩
    obtain ⟨a', rfl, hcell⟩ := hv.get h hr
    refine xc_region ?_
    refine x_val (r_move s2) (nd_of rfl) rfl ?_
    refine x_val (r_move (en rfl s8)) (nd_of rfl) rfl ?_
    refine x_val (r_index1 Try.underlying23 Try.sizeOf21 (en rfl es) es hi) (nd_of rfl) rfl ?_
    refine x_val (r_loadCell Try.isAgg21 es hcell) (nd_of rfl) rfl ?_
    refine x_enter (r_call Try.call42 (.cons es .nil)) (nd_of rfl) rfl (refCode_ok h) ?_
    rintro _ w ⟨rfl, h⟩
    refine x_val (r_not es rfl) (nd_of rfl) rfl ?_
    refine xw_nil ?_
    refine hK8 _ _ ?_
    refine xc_gen (fun g hg => ?_)
    have s0 := (hg 0).trans (en rfl (en rfl (en rfl (en rfl (en rfl (en rfl s0))))))
    have s1 := (hg 1).trans (en rfl (en rfl (en rfl (en rfl (en rfl (en rfl s1))))))
    have s2 := (hg 2).trans (en rfl (en rfl (en rfl (en rfl (en rfl (en rfl s2))))))
    have s8 := (hg 8).trans (en rfl (en rfl (en rfl (en rfl (en rfl (en rfl s8))))))
    have s13 := (hg 13).trans (en rfl (en rfl (en rfl (en rfl (en rfl (en rfl s13))))))
    have s21 := (hg 21).trans es
    clear hg
    refine xc_cond s21 (fun hc => absurd hc (by simp [ha r (List.mem_of_getElem? hr)])) (fun _ => ?_)
    refine xc_skip ?_
    refine hK7 _ _ ?_
    refine xc_region ?_
    refine x_val (r_move s8) (nd_of rfl) rfl ?_
    refine x_val (r_add es ec (show _ = (((k + 1 : Nat) : Int) : Int) from by omega) (by unfold I64; omega)) (nd_of rfl) rfl ?_
    refine x_val (r_assign es) (nd_of rfl) rfl ?_
    refine xw_nil ?_
    exact ⟨zs.length - (k + 1), by omega, ⟨k + 1, rfl, by omega, es, h⟩, ⟨((en rfl (en rfl (en rfl s0)))).trans zG4_0.symm, ((en rfl (en rfl (en rfl s1)))).trans zG4_1.symm, ((en rfl (en rfl (en rfl s2)))).trans zG4_2.symm⟩⟩
  ·
    rcases he with he | he
    ·
      skip
      refine xc_exit ?_
      refine hK2 _ _ ?_
      refine xc_seq (fun K hK9 => ?_)
      refine xc_seq (fun K hK10 => ?_)
      refine xc_region ?_
      refine x_val (r_move s1) (nd_of rfl) rfl ?_
      refine x_val (r_lss es ec (decide_eq_true (by omega))) (nd_of rfl) rfl ?_
      refine x_val (r_move es) (nd_of rfl) rfl ?_
      refine x_pass (d := 25) rfl rfl es rfl ?_
      refine x_pass (d := 25) rfl rfl (en rfl es) rfl ?_
      refine x_pass (d := 25) rfl rfl (en rfl (en rfl es)) rfl ?_
      refine x_pass (d := 25) rfl rfl (en rfl (en rfl (en rfl es))) rfl ?_
      refine x_val (r_pick_t (en rfl (en rfl (en rfl (en rfl es)))) ec) (nd_of rfl) rfl ?_
      refine xw_nil ?_
      refine hK10 _ _ ?_
      refine xc_gen (fun g hg => ?_)
      have s0 := (hg 0).trans (en rfl (en rfl (en rfl (en rfl (en rfl (en rfl (en rfl (en rfl s0))))))))
      have s1 := (hg 1).trans (en rfl (en rfl (en rfl (en rfl (en rfl (en rfl (en rfl (en rfl s1))))))))
      have s2 := (hg 2).trans (en rfl (en rfl (en rfl (en rfl (en rfl (en rfl (en rfl (en rfl s2))))))))
      have s8 := (hg 8).trans (en rfl (en rfl (en rfl (en rfl (en rfl (en rfl (en rfl (en rfl s8))))))))
      have s13 := (hg 13).trans (en rfl (en rfl (en rfl (en rfl (en rfl (en rfl (en rfl (en rfl s13))))))))
      have s30 := (hg 30).trans es
      clear hg
      refine xc_cond s30 (fun _ => ?_) (fun hc => by cases hc)
      refine xc_seq (fun K hK11 => ?_)
      refine xc_region ?_
      refine x_val (r_move s0) (nd_of rfl) rfl ?_
      refine x_val (r_assign es) (nd_of rfl) rfl ?_
      refine x_val (r_assign ec) (nd_of rfl) rfl ?_
      refine xw_nil ?_
      refine hK11 _ _ ?_
      refine xc_gen (fun g hg => ?_)
      have s0 := (hg 0).trans (en rfl (en rfl (en rfl s0)))
      have s1 := (hg 1).trans (en rfl (en rfl (en rfl s1)))
      have s2 := (hg 2).trans (en rfl (en rfl (en rfl s2)))
      have s6 := (hg 6).trans (en rfl es)
      have s7 := (hg 7).trans es
      have s8 := (hg 8).trans (en rfl (en rfl (en rfl s8)))
      have s13 := (hg 13).trans (en rfl (en rfl (en rfl s13)))
      have s30 := (hg 30).trans (en rfl (en rfl (en rfl s30)))
      clear hg
      refine xc_ret ?_
      refine bodyR_2 rfl s6 s7 ?_
      exact ⟨rfl, h⟩
    ·
      skip
      refine xc_exit ?_
      refine hK2 _ _ ?_
      refine xc_seq (fun K hK12 => ?_)
      refine xc_seq (fun K hK13 => ?_)
      refine xc_region ?_
      refine x_val (r_move s1) (nd_of rfl) rfl ?_
      refine x_val (r_lss es ec (decide_eq_false (by omega))) (nd_of rfl) rfl ?_
      refine x_val (r_move es) (nd_of rfl) rfl ?_
      refine x_take (d := 25) rfl rfl es ?_
      refine x_val (r_move (en rfl (en rfl (en rfl s1)))) (nd_of rfl) rfl ?_
      refine x_take (d := 25) rfl rfl (en rfl es) ?_
      refine x_val (r_move (en rfl (en rfl (en rfl (en rfl s0))))) (nd_of rfl) rfl ?_
      refine x_take (d := 25) rfl rfl (en rfl (en rfl es)) ?_
      refine x_val (r_len Try.underlying47 es) (nd_of rfl) rfl ?_
      refine x_take (d := 25) rfl rfl (en rfl (en rfl (en rfl es))) ?_
      refine x_val (r_gtr (en rfl (en rfl es)) es (decide_eq_true (by omega))) (nd_of rfl) rfl ?_
      refine x_val (r_pick_f (en rfl (en rfl (en rfl (en rfl es)))) es) (nd_of rfl) rfl ?_
      refine xw_nil ?_
      refine hK13 _ _ ?_
      refine xc_gen (fun g hg => ?_)
      have s0 := (hg 0).trans (en rfl (en rfl (en rfl (en rfl (en rfl (en rfl (en rfl (en rfl s0))))))))
      have s1 := (hg 1).trans (en rfl (en rfl (en rfl (en rfl (en rfl (en rfl (en rfl (en rfl s1))))))))
      have s2 := (hg 2).trans (en rfl (en rfl (en rfl (en rfl (en rfl (en rfl (en rfl (en rfl s2))))))))
      have s8 := (hg 8).trans (en rfl (en rfl (en rfl (en rfl (en rfl (en rfl (en rfl (en rfl s8))))))))
      have s13 := (hg 13).trans (en rfl (en rfl (en rfl (en rfl (en rfl (en rfl (en rfl (en rfl s13))))))))
      have s30 := (hg 30).trans es
      clear hg
      refine xc_cond s30 (fun _ => ?_) (fun hc => by cases hc)
      refine xc_seq (fun K hK14 => ?_)
      refine xc_region ?_
      refine x_val (r_move s0) (nd_of rfl) rfl ?_
      refine x_val (r_assign es) (nd_of rfl) rfl ?_
      refine x_val (r_assign ec) (nd_of rfl) rfl ?_
      refine xw_nil ?_
      refine hK14 _ _ ?_
      refine xc_gen (fun g hg => ?_)
      have s0 := (hg 0).trans (en rfl (en rfl (en rfl s0)))
      have s1 := (hg 1).trans (en rfl (en rfl (en rfl s1)))
      have s2 := (hg 2).trans (en rfl (en rfl (en rfl s2)))
      have s6 := (hg 6).trans (en rfl es)
      have s7 := (hg 7).trans es
      have s8 := (hg 8).trans (en rfl (en rfl (en rfl s8)))
      have s13 := (hg 13).trans (en rfl (en rfl (en rfl s13)))
      have s30 := (hg 30).trans (en rfl (en rfl (en rfl s30)))
      clear hg
      refine xc_ret ?_
      refine bodyR_2 rfl s6 s7 ?_
      exact ⟨rfl, h⟩
theorem append_ints {P : Program} {e t ty : TypeId} {bytes k : Nat} {v v2 : Value} {xs : List Value} {L : List SProp} (h : SatL E w (Row e 1 v k xs :: L)) (hv : ReadsW w v2 .i32 zs) (ht : P.underlying t = some (.slice e)) (hinfo : (P.info? e).map (fun i => (i.zero.map (·.cells.size), i.size, i.bytes)) = some (some 1, 1, bytes))
    (hbytes : (k + zs.length) * bytes ≤ 140737488355328) (h63 : k + zs.length ≤ 9223372036854775807) :
    ∃ v' w', (Builtin.append_ #[t, t] ty #[v, v2]).run P w = .ok v' w' ∧ SatL E w' (Row e 1 v' (k + zs.length) (xs ++ i32s zs) :: L) := by
  obtain ⟨a, cap, rfl, _, _, hr⟩ := hv
  cases a with
  | none =>
    have hn : zs = [] := by
      cases zs with
      | nil => rfl
      | cons x l => obtain ⟨_, e, _⟩ := hr 0 x rfl; cases e
    subst hn
    obtain ⟨i, hi, _⟩ := Option.map_eq_some_iff.1 hinfo
    obtain ⟨a, c, rfl, hle, _⟩ := h.rowVal
    exact ⟨_, w, append_none_run ht hi hle, by simpa [i32s] using h⟩
  | some a =>
    exact run_append_at (ty := ty) h ht hinfo (by rw [i32s_len, Nat.mul_one]) (fun j u hj => by
      rw [i32s, List.getElem?_map] at hj
      obtain ⟨r, hr2, rfl⟩ := Option.map_eq_some_iff.1 hj
      obtain ⟨a', e, hc⟩ := hr j r hr2
      cases e; exact hc) i32s_one hbytes h63
theorem refIns_yes (hv : Reads E R v .i32 zs) (ha : ∀ r ∈ zs, rune r) (hz : zs.length ≤ 1000000) (h : SatL E w R) : Calls Try.prog 22 #[.slice (some ⟨b, 0, none⟩) 0 0, .int .i64 0, v] w (Ret fun u w' => ∃ a c, u = .tuple #[.slice a zs.length c, .int .i64 0] ∧ SatL E w' R) := by
  have hv0 := hv
  obtain ⟨a, cap, rfl, _, _⟩ := hv.slice h
  obtain ⟨inf, hinf⟩ : ∃ inf, Try.prog.info? 21 = some inf := Option.isSome_iff_exists.1 (by kernel_rfl)
  refine calls_x Try.func22 rfl Try.ntmps22 rfl ?_
  refine xc_gen (fun g hg => ?_)
  have s0 := (hg 0).trans arg0
  have s1 := (hg 1).trans arg1
  have s2 := (hg 2).trans arg2
  clear hg
  refine xc_seq (fun K hK1 => ?_)
  refine xc_region ?_
  refine x_val (r_assign ec) (nd_of rfl) rfl ?_
  refine x_val (r_assign ec) (nd_of rfl) rfl ?_
  refine xw_nil ?_
  refine hK1 _ _ ?_
  refine xc_gen (fun g hg => ?_)
  have s0 := (hg 0).trans (en rfl (en rfl s0))
  have s1 := (hg 1).trans (en rfl (en rfl s1))
  have s2 := (hg 2).trans (en rfl (en rfl s2))
  have s6 := (hg 6).trans (en rfl es)
  have s7 := (hg 7).trans es
  clear hg
  refine xc_seq (fun K hK2 => ?_)
  refine xc_seq (fun K hK3 => ?_)
  refine xc_region ?_
  refine x_val (r_assign ec) (nd_of rfl) rfl ?_
  refine xw_nil ?_
  refine hK3 _ _ ?_
  refine xc_gen (fun g hg => ?_)
  have s0 := (hg 0).trans (en rfl s0)
  have s1 := (hg 1).trans (en rfl s1)
  have s2 := (hg 2).trans (en rfl s2)
  have s6 := (hg 6).trans (en rfl s6)
  have s7 := (hg 7).trans (en rfl s7)
  have s8 := (hg 8).trans es
  clear hg
  refine xc_block ?_
  obtain ⟨G4, hG4⟩ : ∃ g0 : Nat → Value, g0 = g := ⟨_, rfl⟩
  have zG4_0 : G4 0 = _ := (congrFun hG4 0).trans s0
  have zG4_1 : G4 1 = _ := (congrFun hG4 1).trans s1
  have zG4_2 : G4 2 = _ := (congrFun hG4 2).trans s2
  refine xc_loop (fun m f w => (∃ k : Nat, m = zs.length - k ∧ k ≤ zs.length ∧ f 8 = .int .i64 (k : Int) ∧ SatL E w R) ∧ (f 0 = G4 0 ∧ f 1 = G4 1 ∧ f 2 = G4 2)) (zs.length) ⟨⟨0, by omega, by omega, s8, h⟩, ⟨congrFun hG4.symm 0, congrFun hG4.symm 1, congrFun hG4.symm 2⟩⟩ ?_
  rintro m g w ⟨⟨k, hm, hk, s8, h⟩, ⟨y0, y1, y2⟩⟩
  have s0 := y0.trans zG4_0
  have s1 := y1.trans zG4_1
  have s2 := y2.trans zG4_2
  refine xc_seq (fun K hK5 => ?_)
  refine xc_seq (fun K hK6 => ?_)
  refine xc_region ?_
  refine x_val (r_move s8) (nd_of rfl) rfl ?_
  refine x_val (r_move (en rfl s2)) (nd_of rfl) rfl ?_
  refine x_val (r_len Try.underlying23 es) (nd_of rfl) rfl ?_
  refine x_val (r_lss (en rfl (en rfl es)) es rfl) (nd_of rfl) rfl ?_
  refine xw_nil ?_
  refine hK6 _ _ ?_
  refine xc_gen (fun g hg => ?_)
  have s0 := (hg 0).trans (en rfl (en rfl (en rfl (en rfl s0))))
  have s1 := (hg 1).trans (en rfl (en rfl (en rfl (en rfl s1))))
  have s2 := (hg 2).trans (en rfl (en rfl (en rfl (en rfl s2))))
  have s8 := (hg 8).trans (en rfl (en rfl (en rfl (en rfl s8))))
  have s13 := (hg 13).trans es
  clear hg
  refine xc_cond s13 (fun hc => ?_) (fun hc => ?_)
  ·
    refine xc_skip ?_
    refine hK5 _ _ ?_
    refine xc_seq (fun K hK7 => ?_)
    refine xc_block ?_
    refine xc_seq (fun K hK8 => ?_)
    have hi : k < zs.length := by have := of_decide_eq_true hc; omega
    obtain ⟨r, hr⟩ : ∃ r, zs[k]? = some r := ⟨_, List.getElem?_eq_getElem hi⟩
    obtain ⟨a', rfl, hcell⟩ := hv.get h hr
    refine xc_region ?_
    refine x_val (r_move s2) (nd_of rfl) rfl ?_
    refine x_val (r_move (en rfl s8)) (nd_of rfl) rfl ?_
    refine x_val (r_index1 Try.underlying23 Try.sizeOf21 (en rfl es) es hi) (nd_of rfl) rfl ?_
    refine x_val (r_loadCell Try.isAgg21 es hcell) (nd_of rfl) rfl ?_
    refine x_enter (r_call Try.call42 (.cons es .nil)) (nd_of rfl) rfl (refCode_ok h) ?_
    rintro _ w ⟨rfl, h⟩
    refine x_val (r_not es rfl) (nd_of rfl) rfl ?_
    refine xw_nil ?_
    refine hK8 _ _ ?_
    refine xc_gen (fun g hg => ?_)
    have s0 := (hg 0).trans (en rfl (en rfl (en rfl (en rfl (en rfl (en rfl s0))))))
    have s1 := (hg 1).trans (en rfl (en rfl (en rfl (en rfl (en rfl (en rfl s1))))))
    have s2 := (hg 2).trans (en rfl (en rfl (en rfl (en rfl (en rfl (en rfl s2))))))
    have s8 := (hg 8).trans (en rfl (en rfl (en rfl (en rfl (en rfl (en rfl s8))))))
    have s13 := (hg 13).trans (en rfl (en rfl (en rfl (en rfl (en rfl (en rfl s13))))))
    have s21 := (hg 21).trans es
    clear hg
    refine xc_cond s21 (fun hc => absurd hc (by simp [ha r (List.mem_of_getElem? hr)])) (fun _ => ?_)
    refine xc_skip ?_
    refine hK7 _ _ ?_
    refine xc_region ?_
    refine x_val (r_move s8) (nd_of rfl) rfl ?_
    refine x_val (r_add es ec (show _ = (((k + 1 : Nat) : Int) : Int) from by omega) (by unfold I64; omega)) (nd_of rfl) rfl ?_
    refine x_val (r_assign es) (nd_of rfl) rfl ?_
    refine xw_nil ?_
    exact ⟨zs.length - (k + 1), by omega, ⟨k + 1, rfl, by omega, es, h⟩, ⟨((en rfl (en rfl (en rfl s0)))).trans zG4_0.symm, ((en rfl (en rfl (en rfl s1)))).trans zG4_1.symm, ((en rfl (en rfl (en rfl s2)))).trans zG4_2.symm⟩⟩
  ·
    refine xc_exit ?_
    refine hK2 _ _ ?_
    refine xc_seq (fun K hK9 => ?_)
    refine xc_seq (fun K hK10 => ?_)
    refine xc_region ?_
    refine x_val (r_move s1) (nd_of rfl) rfl ?_
    refine x_val (r_lss es ec (decide_eq_false (by omega))) (nd_of rfl) rfl ?_
    refine x_val (r_move es) (nd_of rfl) rfl ?_
    refine x_take (d := 25) rfl rfl es ?_
    refine x_val (r_move (en rfl (en rfl (en rfl s1)))) (nd_of rfl) rfl ?_
    refine x_take (d := 25) rfl rfl (en rfl es) ?_
    refine x_val (r_move (en rfl (en rfl (en rfl (en rfl s0))))) (nd_of rfl) rfl ?_
    refine x_take (d := 25) rfl rfl (en rfl (en rfl es)) ?_
    refine x_val (r_len Try.underlying47 es) (nd_of rfl) rfl ?_
    refine x_take (d := 25) rfl rfl (en rfl (en rfl (en rfl es))) ?_
    refine x_val (r_gtr (en rfl (en rfl es)) es (decide_eq_false (by omega))) (nd_of rfl) rfl ?_
    refine x_val (r_pick_f (en rfl (en rfl (en rfl (en rfl es)))) es) (nd_of rfl) rfl ?_
    refine xw_nil ?_
    refine hK10 _ _ ?_
    refine xc_gen (fun g hg => ?_)
    have s0 := (hg 0).trans (en rfl (en rfl (en rfl (en rfl (en rfl (en rfl (en rfl (en rfl s0))))))))
    have s1 := (hg 1).trans (en rfl (en rfl (en rfl (en rfl (en rfl (en rfl (en rfl (en rfl s1))))))))
    have s2 := (hg 2).trans (en rfl (en rfl (en rfl (en rfl (en rfl (en rfl (en rfl (en rfl s2))))))))
    have s8 := (hg 8).trans (en rfl (en rfl (en rfl (en rfl (en rfl (en rfl (en rfl (en rfl s8))))))))
    have s13 := (hg 13).trans (en rfl (en rfl (en rfl (en rfl (en rfl (en rfl (en rfl (en rfl s13))))))))
    have s30 := (hg 30).trans es
    clear hg
    refine xc_cond s30 (fun hc => by cases hc) (fun _ => ?_)
    refine xc_skip ?_
    refine hK9 _ _ ?_
    refine xc_seq (fun K hK11 => ?_)
    refine xc_region ?_
    refine x_bslice0 h Try.underlying47 Try.sizeOf21 rfl ?_; intro bn w h
    refine x_val (r_move (en rfl s0)) (nd_of rfl) rfl ?_
    refine x_val (r_move (en rfl (en rfl s1))) (nd_of rfl) rfl ?_
    refine x_val (r_slice00 Try.underlying47 Try.sizeOf21 (en rfl es) es) (nd_of rfl) rfl ?_
    refine x_val (r_append (en rfl (en rfl (en rfl es))) es (append_none_run Try.underlying47 hinf (Nat.le_refl _))) (nd_of rfl) rfl ?_
    obtain ⟨v2, w2, hr2, h⟩ := append_ints (ty := 47) (bytes := 4) h (hv0 w h.drop) Try.underlying47 (by kernel_rfl) (by omega) (by omega)
    rw [Nat.zero_add, List.nil_append] at h
    obtain ⟨a3, c3, rfl, hle3, _⟩ := h.rowVal
    refine x_val (r_assign es) (nd_of rfl) rfl ?_
    refine xw_nil ?_
    refine hK11 _ _ ?_
    refine xc_gen (fun g hg => ?_)
    have s0 := (hg 0).trans (en rfl (en rfl (en rfl (en rfl (en rfl (en rfl s0))))))
    have s1 := (hg 1).trans (en rfl (en rfl (en rfl (en rfl (en rfl (en rfl s1))))))
    have s2 := (hg 2).trans (en rfl (en rfl (en rfl (en rfl (en rfl (en rfl s2))))))
    have s8 := (hg 8).trans (en rfl (en rfl (en rfl (en rfl (en rfl (en rfl s8))))))
    have s9 := (hg 9).trans es
    have s13 := (hg 13).trans (en rfl (en rfl (en rfl (en rfl (en rfl (en rfl s13))))))
    have s30 := (hg 30).trans (en rfl (en rfl (en rfl (en rfl (en rfl (en rfl s30))))))
    clear hg
    refine xc_seq (fun K hK12 => ?_)
    refine xc_region ?_
    refine x_val (r_move s9) (nd_of rfl) rfl ?_
    refine x_val (r_move (en rfl s2)) (nd_of rfl) rfl ?_
    refine x_val (r_append2 Try.underlying47 Try.underlying23 Try.sizeOf21 (en rfl es) es hr2) (nd_of rfl) rfl ?_
    refine x_val (r_assign es) (nd_of rfl) rfl ?_
    refine xw_nil ?_
    refine hK12 _ _ ?_
    refine xc_gen (fun g hg => ?_)
    have s0 := (hg 0).trans (en rfl (en rfl (en rfl (en rfl s0))))
    have s1 := (hg 1).trans (en rfl (en rfl (en rfl (en rfl s1))))
    have s2 := (hg 2).trans (en rfl (en rfl (en rfl (en rfl s2))))
    have s8 := (hg 8).trans (en rfl (en rfl (en rfl (en rfl s8))))
    have s9 := (hg 9).trans es
    have s13 := (hg 13).trans (en rfl (en rfl (en rfl (en rfl s13))))
    have s30 := (hg 30).trans (en rfl (en rfl (en rfl (en rfl s30))))
    clear hg
    refine xc_seq (fun K hK13 => ?_)
    refine xc_region ?_
    refine x_val (r_move s9) (nd_of rfl) rfl ?_
    refine x_val (r_move (en rfl s0)) (nd_of rfl) rfl ?_
    refine x_val (r_move (en rfl (en rfl s1))) (nd_of rfl) rfl ?_
    refine x_val (r_sliceFromN (l := 0) Try.underlying47 Try.sizeOf21 (en rfl es) es (Nat.le_refl _) (Nat.le_refl _)) (nd_of rfl) rfl ?_
    refine x_val (r_append (en rfl (en rfl (en rfl es))) es (append_none_run Try.underlying47 hinf hle3)) (nd_of rfl) rfl ?_
    refine x_val (r_assign es) (nd_of rfl) rfl ?_
    refine x_val (r_assign ec) (nd_of rfl) rfl ?_
    refine xw_nil ?_
    refine hK13 _ _ ?_
    refine xc_gen (fun g hg => ?_)
    have s0 := (hg 0).trans (en rfl (en rfl (en rfl (en rfl (en rfl (en rfl (en rfl s0)))))))
    have s1 := (hg 1).trans (en rfl (en rfl (en rfl (en rfl (en rfl (en rfl (en rfl s1)))))))
    have s2 := (hg 2).trans (en rfl (en rfl (en rfl (en rfl (en rfl (en rfl (en rfl s2)))))))
    have s6 := (hg 6).trans (en rfl es)
    have s7 := (hg 7).trans es
    have s8 := (hg 8).trans (en rfl (en rfl (en rfl (en rfl (en rfl (en rfl (en rfl s8)))))))
    have s9 := (hg 9).trans (en rfl (en rfl (en rfl (en rfl (en rfl (en rfl (en rfl s9)))))))
    have s13 := (hg 13).trans (en rfl (en rfl (en rfl (en rfl (en rfl (en rfl (en rfl s13)))))))
    have s30 := (hg 30).trans (en rfl (en rfl (en rfl (en rfl (en rfl (en rfl (en rfl s30)))))))
    clear hg
    refine xc_ret ?_
    refine bodyR_2 rfl s6 s7 ?_
    exact ⟨_, _, rfl, h.drop⟩
end
end Go.Proofs.Ytmfkhfmidnojhaa
