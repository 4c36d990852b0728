/-
Spans compared; the known case.
-/
import Derived.Test.YtbmdbjnkkbefmaaS5
import Derived.DeepKeys
namespace Go.Proofs.Ytbmdbjnkkbefmaa
open Go Go.RowKit
theorem i64_wf {r : Int} (h : I64 r) : (Lit.int .i64 r).wf = true := by
  obtain ⟨h1, h2⟩ := h
  simp [Lit.wf, IntKind.min, IntKind.max, IntKind.bits, IntKind.signed]
  omega
def wfR (p : RS) : Prop := I64 p.1 ∧ I64 p.2
section
variable {P : Program} {f : Nat → Value} {w : World} {d : Option Tmp} {ty : TypeId} {pos : String} {af : Array Edge} {g : Option (Tmp × Bool)}
theorem run_eqSp {T : TypeId} {p q : RS} {f0 f1 : Field} (hp : wfR p) (hq : wfR q)
    (hu : P.underlying T = some (.struct #[f0, f1])) (h0 : P.underlying f0.type = some (.int .i64)) (h1 : P.underlying f1.type = some (.int .i64))
    (hc : P.cellsOf T = 2) (hc0 : P.cellsOf f0.type = 1) (hc1 : P.cellsOf f1.type = 1) (ho0 : f0.offset = 0) (ho1 : f1.offset = 1) (hn0 : f0.name ≠ "_") (hn1 : f1.name ≠ "_") (hk : P.keyTypeAt 3 T = true) {r : Bool} (hr : decide (p = q) = r) : (Op.equal T (.agg (rawC p).toArray) (.agg (rawC q).toArray)).run P w = .ok r w := by
  have key : ∀ {p : RS}, wfR p → P.keyLits 4 T (Value.agg (rawC p).toArray).cells.toList = some [Lit.int .i64 p.1, Lit.int .i64 p.2] := by
    intro p hp
    have e1 : (Value.agg (rawC p).toArray).cells.toList = [Value.int .i64 p.1, Value.int .i64 p.2] := rfl
    have g0 : P.keyLits 3 f0.type [Value.int .i64 p.1] = some [Lit.int .i64 p.1] := by
      rw [Program.keyLits, if_pos ⟨rfl, i64_wf hp.1⟩]; exact h0
    have g1 : P.keyLits 3 f1.type [Value.int .i64 p.2] = some [Lit.int .i64 p.2] := by
      rw [Program.keyLits, if_pos ⟨rfl, i64_wf hp.2⟩]; exact h1
    rw [e1]
    have e0 : P.keyLits 4 T [Value.int .i64 p.1, Value.int .i64 p.2] = (if ([Value.int .i64 p.1, Value.int .i64 p.2] : List Value).length = P.cellsOf T ∧ (#[f0, f1] : Array Field).all (·.name != "_") = true then ((#[f0, f1] : Array Field).toList.mapM fun f => P.keyLits 3 f.type ((([Value.int .i64 p.1, Value.int .i64 p.2] : List Value).drop f.offset).take (P.cellsOf f.type))).map List.flatten else none) := by
      rw [Program.keyLits.eq_6 _ _ _ _ _ hu]
    rw [e0, if_pos ⟨by simp [hc], by simp [hn0, hn1]⟩]
    have t0 : (([Value.int .i64 p.1, Value.int .i64 p.2] : List Value).drop f0.offset).take (P.cellsOf f0.type) = [Value.int .i64 p.1] := by rw [ho0, hc0]; rfl
    have t1 : (([Value.int .i64 p.1, Value.int .i64 p.2] : List Value).drop f1.offset).take (P.cellsOf f1.type) = [Value.int .i64 p.2] := by rw [ho1, hc1]; rfl
    simp only [List.mapM_cons, List.mapM_nil, t0, t1, g0, g1]
    rfl
  have fm : ∀ {p : RS}, (Value.agg (rawC p).toArray).formed P T = true := by
    intro p
    simp [Value.formed, hu, rawC, hc]
  obtain ⟨rr, hrr, hiff⟩ := run_equalIn_deep (P := P) 9997 3 T hk w 4 4 (.agg (rawC p).toArray) (.agg (rawC q).toArray) _ _ fm fm (key hp) (key hq)
  have hrl : rr = r := by
    subst hr
    rw [Bool.eq_iff_iff, hiff, decide_eq_true_iff]
    constructor
    · intro h
      simp only [List.cons.injEq, Lit.int.injEq] at h
      exact Prod.ext h.1.2 h.2.1.2
    · rintro rfl; rfl
  subst hrl
  exact hrr
theorem r_neqSp {T yt : TypeId} {x y : Operand} {p q : RS} {f0 f1 : Field} (hp : wfR p) (hq : wfR q) (hx : ev f x = .agg (rawC p).toArray) (hy : ev f y = .agg (rawC q).toArray)
    (hu : P.underlying T = some (.struct #[f0, f1])) (h0 : P.underlying f0.type = some (.int .i64)) (h1 : P.underlying f1.type = some (.int .i64))
    (hc : P.cellsOf T = 2) (hc0 : P.cellsOf f0.type = 1) (hc1 : P.cellsOf f1.type = 1) (ho0 : f0.offset = 0) (ho1 : f1.offset = 1) (hn0 : f0.name ≠ "_") (hn1 : f1.name ≠ "_") (hk : P.keyTypeAt 3 T = true)
    (hg : P.eqGuardType P.depth T = false) {r : Bool} (hr : (!decide (p = q)) = r) :
    (execOp (ev f) ⟨d, .binOp .neq T x y yt, ty, pos, af, g⟩).run P w = .ok (.value (.bool r)) w := by
  have e2 := run_eqSp (w := w) hp hq hu h0 h1 hc hc0 hc1 ho0 ho1 hn0 hn1 hk rfl
  subst hr
  simp [execOp, hx, hy, eqGuard, hg, binOp, e2]
end
section
variable {E : Env} {R : List SProp} {w : World} {b B B' : Nat} {xs l : List X} {v v2 : Value} {ps : List RS}
theorem same_yes (hv : RSlc E R v ps) (hv2 : RSlc E R v2 ps) (hw : ∀ p ∈ ps, wfR p) (hb : ps.length ≤ 1000000000) (h : SatL E w R) : Calls Try.prog 21 #[v, v2] w (Ret fun u w' => u = .bool true ∧ SatL E w' R) := by
  obtain ⟨a, cap, rfl, hrd⟩ := hv
  obtain ⟨a2, cap2, rfl, hrd2⟩ := hv2
  refine calls_x Try.func21 rfl Try.ntmps21 rfl ?_
  refine xc_gen (fun g hg => ?_)
  have s0 := (hg 0).trans arg0
  have s1 := (hg 1).trans arg1
  clear hg
  refine xc_seq (fun K hK1 => ?_)
  refine xc_region ?_
  refine x_val (r_assign ec) (nd_of rfl) rfl ?_
  refine xw_nil ?_
  refine hK1 _ _ ?_
  refine xc_gen (fun g hg => ?_)
  have s0 := (hg 0).trans (en rfl s0)
  have s1 := (hg 1).trans (en rfl s1)
  have s4 := (hg 4).trans es
  clear hg
  refine xc_seq (fun K hK2 => ?_)
  refine xc_seq (fun K hK3 => ?_)
  refine xc_region ?_
  refine x_val (r_move s0) (nd_of rfl) rfl ?_
  refine x_val (r_len Try.underlying26 es) (nd_of rfl) rfl ?_
  refine x_val (r_move (en rfl (en rfl s1))) (nd_of rfl) rfl ?_
  refine x_val (r_len Try.underlying26 es) (nd_of rfl) rfl ?_
  refine x_val (r_neq (en rfl (en rfl es)) es (decide_eq_false (by omega))) (nd_of rfl) rfl ?_
  refine xw_nil ?_
  refine hK3 _ _ ?_
  refine xc_gen (fun g hg => ?_)
  have s0 := (hg 0).trans (en rfl (en rfl (en rfl (en rfl (en rfl s0)))))
  have s1 := (hg 1).trans (en rfl (en rfl (en rfl (en rfl (en rfl s1)))))
  have s4 := (hg 4).trans (en rfl (en rfl (en rfl (en rfl (en rfl s4)))))
  have s10 := (hg 10).trans es
  clear hg
  refine xc_cond s10 (fun hc => by cases hc) (fun _ => ?_)
  refine xc_skip ?_
  refine hK2 _ _ ?_
  refine xc_seq (fun K hK4 => ?_)
  refine xc_seq (fun K hK5 => ?_)
  refine xc_region ?_
  refine x_val (r_assign ec) (nd_of rfl) rfl ?_
  refine xw_nil ?_
  refine hK5 _ _ ?_
  refine xc_gen (fun g hg => ?_)
  have s0 := (hg 0).trans (en rfl s0)
  have s1 := (hg 1).trans (en rfl s1)
  have s4 := (hg 4).trans (en rfl s4)
  have s5 := (hg 5).trans es
  have s10 := (hg 10).trans (en rfl s10)
  clear hg
  refine xc_block ?_
  obtain ⟨G6, hG6⟩ : ∃ g0 : Nat → Value, g0 = g := ⟨_, rfl⟩
  have zG6_0 : G6 0 = _ := (congrFun hG6 0).trans s0
  have zG6_1 : G6 1 = _ := (congrFun hG6 1).trans s1
  have zG6_10 : G6 10 = _ := (congrFun hG6 10).trans s10
  refine xc_loop (fun m f w => (∃ k : Nat, m = ps.length - k ∧ k ≤ ps.length ∧ f 5 = .int .i64 (k : Int) ∧ SatL E w R) ∧ (f 0 = G6 0 ∧ f 1 = G6 1 ∧ f 10 = G6 10)) (ps.length) ⟨⟨0, by omega, by omega, s5, h⟩, ⟨congrFun hG6.symm 0, congrFun hG6.symm 1, congrFun hG6.symm 10⟩⟩ ?_
  rintro m g w ⟨⟨k, hm, hk, s5, h⟩, ⟨y0, y1, y10⟩⟩
  have s0 := y0.trans zG6_0
  have s1 := y1.trans zG6_1
  have s10 := y10.trans zG6_10
  refine xc_seq (fun K hK7 => ?_)
  refine xc_seq (fun K hK8 => ?_)
  refine xc_region ?_
  refine x_val (r_move s5) (nd_of rfl) rfl ?_
  refine x_val (r_move (en rfl s0)) (nd_of rfl) rfl ?_
  refine x_val (r_len Try.underlying26 es) (nd_of rfl) rfl ?_
  refine x_val (r_lss (en rfl (en rfl es)) es rfl) (nd_of rfl) rfl ?_
  refine xw_nil ?_
  refine hK8 _ _ ?_
  refine xc_gen (fun g hg => ?_)
  have s0 := (hg 0).trans (en rfl (en rfl (en rfl (en rfl s0))))
  have s1 := (hg 1).trans (en rfl (en rfl (en rfl (en rfl s1))))
  have s5 := (hg 5).trans (en rfl (en rfl (en rfl (en rfl s5))))
  have s10 := (hg 10).trans (en rfl (en rfl (en rfl (en rfl s10))))
  have s14 := (hg 14).trans es
  clear hg
  refine xc_cond s14 (fun hc => ?_) (fun hc => ?_)
  ·
    refine xc_skip ?_
    refine hK7 _ _ ?_
    refine xc_seq (fun K hK9 => ?_)
    refine xc_block ?_
    refine xc_seq (fun K hK10 => ?_)
    have hi : k < ps.length := by have := of_decide_eq_true hc; omega
    obtain ⟨p, hp⟩ : ∃ p, ps[k]? = some p := ⟨_, List.getElem?_eq_getElem hi⟩
    obtain ⟨ad, rfl, hcell⟩ := hrd _ h k p hp
    obtain ⟨ad2, rfl, hcell2⟩ := hrd2 _ h k p hp
    have hwp := hw p (List.mem_of_getElem? hp)
    refine xc_plan 9 [(0, 2), (1, 2), (2, 2), (3, 1), (4, 2), (5, 2), (6, 2), (7, 1), (8, 2)] (by kernel_rfl) rfl (by kernel_rfl) h ?_
    have h := h.drew
    refine xp_read (i := 0) rfl (fun W => r_move s0) rfl (fun _ _ _ hh => by first | exact bodyR_np hh | exact bodyY_np hh | exact hh) ?_
    refine xp_read (i := 1) rfl (fun W => r_move (en rfl s5)) rfl (fun _ _ _ hh => by first | exact bodyR_np hh | exact bodyY_np hh | exact hh) ?_
    refine xp_read (i := 2) rfl (fun W => r_indexAny Try.underlying26 Try.sizeOf34 (en rfl es) es (by omega) (by omega)) rfl (fun _ _ _ hh => by first | exact bodyR_np hh | exact bodyY_np hh | exact hh) ?_
    refine xp_load (i := 3) rfl (fun W hW => r_loadAggAt Try.isAgg34 Try.sizeOf34 es rfl (by obtain ⟨b1, e1, c1⟩ := hrd _ hW k p hp; cases e1; exact c1)) rfl (fun _ _ _ hh => by first | exact bodyR_np hh | exact bodyY_np hh | exact hh) ?_
    refine xp_read (i := 4) rfl (fun W => r_move (en rfl (en rfl (en rfl (en rfl s1))))) rfl (fun _ _ _ hh => by first | exact bodyR_np hh | exact bodyY_np hh | exact hh) ?_
    refine xp_read (i := 5) rfl (fun W => r_move (en rfl (en rfl (en rfl (en rfl (en rfl s5)))))) rfl (fun _ _ _ hh => by first | exact bodyR_np hh | exact bodyY_np hh | exact hh) ?_
    refine xp_read (i := 6) rfl (fun W => r_indexAny Try.underlying26 Try.sizeOf34 (en rfl es) es (by omega) (by omega)) rfl (fun _ _ _ hh => by first | exact bodyR_np hh | exact bodyY_np hh | exact hh) ?_
    refine xp_load (i := 7) rfl (fun W hW => r_loadAggAt Try.isAgg34 Try.sizeOf34 es rfl (by obtain ⟨b1, e1, c1⟩ := hrd2 _ hW k p hp; cases e1; exact c1)) rfl (fun _ _ _ hh => by first | exact bodyR_np hh | exact bodyY_np hh | exact hh) ?_
    refine xp_read (i := 8) rfl (fun W => r_neqSp hwp hwp (en rfl (en rfl (en rfl (en rfl es)))) es Try.underlying34 Try.underlying3 Try.underlying3 (by kernel_rfl) (by kernel_rfl) (by kernel_rfl) rfl rfl (by decide) (by decide) (by kernel_rfl) (by kernel_rfl) (r := false) (by simp)) rfl (fun _ _ _ hh => by first | exact bodyR_np hh | exact bodyY_np hh | exact hh) ?_
    refine xp_nil ?_
    refine hK10 _ _ ?_
    refine xc_gen (fun g hg => ?_)
    have s0 := (hg 0).trans (en rfl (en rfl (en rfl (en rfl (en rfl (en rfl (en rfl (en rfl (en rfl s0)))))))))
    have s1 := (hg 1).trans (en rfl (en rfl (en rfl (en rfl (en rfl (en rfl (en rfl (en rfl (en rfl s1)))))))))
    have s5 := (hg 5).trans (en rfl (en rfl (en rfl (en rfl (en rfl (en rfl (en rfl (en rfl (en rfl s5)))))))))
    have s10 := (hg 10).trans (en rfl (en rfl (en rfl (en rfl (en rfl (en rfl (en rfl (en rfl (en rfl s10)))))))))
    have s14 := (hg 14).trans (en rfl (en rfl (en rfl (en rfl (en rfl (en rfl (en rfl (en rfl (en rfl s14)))))))))
    have s25 := (hg 25).trans es
    clear hg
    refine xc_cond s25 (fun hc => by cases hc) (fun _ => ?_)
    refine xc_skip ?_
    refine hK9 _ _ ?_
    refine xc_region ?_
    refine x_val (r_move s5) (nd_of rfl) rfl ?_
    refine x_val (r_add es ec (show _ = (((k + 1 : Nat) : Int) : Int) from by omega) (by unfold I64; omega)) (nd_of rfl) rfl ?_
    refine x_val (r_assign es) (nd_of rfl) rfl ?_
    refine xw_nil ?_
    exact ⟨ps.length - (k + 1), by omega, ⟨k + 1, rfl, by omega, es, h⟩, ⟨((en rfl (en rfl (en rfl s0)))).trans zG6_0.symm, ((en rfl (en rfl (en rfl s1)))).trans zG6_1.symm, ((en rfl (en rfl (en rfl s10)))).trans zG6_10.symm⟩⟩
  ·
    refine xc_exit ?_
    refine hK4 _ _ ?_
    refine xc_seq (fun K hK11 => ?_)
    refine xc_region ?_
    refine x_val (r_assign ec) (nd_of rfl) rfl ?_
    refine xw_nil ?_
    refine hK11 _ _ ?_
    refine xc_gen (fun g hg => ?_)
    have s0 := (hg 0).trans (en rfl s0)
    have s1 := (hg 1).trans (en rfl s1)
    have s4 := (hg 4).trans es
    have s5 := (hg 5).trans (en rfl s5)
    have s10 := (hg 10).trans (en rfl s10)
    have s14 := (hg 14).trans (en rfl s14)
    clear hg
    refine xc_ret ?_
    refine bodyR_1 rfl s4 ?_
    exact ⟨rfl, h⟩
theorem rslc_cells {n c : Nat} {cs : Array Value} {t : TypeId} (hc : cs.toList = rflat ps) (hn : n = ps.length) : RSlc E (Cells c cs t :: R) (.slice (some ⟨c, 0, none⟩) n n) ps := by
  subst hn
  refine ⟨_, _, rfl, fun w h k p hp => ⟨_, rfl, fun j u hj => ?_⟩⟩
  rw [add_pt, add_pt, Nat.zero_add]
  have hj2 : j < 2 := by have := (List.getElem?_eq_some_iff.1 hj).1; simpa [rawC] using this
  refine h.cell 0 rfl ?_
  rw [← Array.getElem?_toList, hc, rflat_get hp j hj2]; exact hj
end
end Go.Proofs.Ytbmdbjnkkbefmaa
