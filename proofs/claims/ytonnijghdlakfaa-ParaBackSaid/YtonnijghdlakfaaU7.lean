/-
Scopes; sets and patches read: Same, Get, Rising.
-/
import Derived.Test.YtonnijghdlakfaaU6
import Derived.Scope
namespace Go.Proofs.Ytonnijghdlakfaa
open Go Go.RowKit
section
variable {P : Program} {R : Exit → (Nat → Value) → World → Prop} {n : Nat} {ds : List Deferred} {f : Nat → Value} {w : World} {ro : Option Nat}
def noGoto (R : Exit → (Nat → Value) → World → Prop) : Exit → (Nat → Value) → World → Prop
  | .goto _, _, _ => False
  | e, f, w => R e f w
theorem xc_scope {c : Code} (h : xc none P (noGoto R) n ds c f w) : xc none P R n ds (.scope c) f w := by
  intro a ha
  refine (wpIn_wide (n := 0)).2 (wp_scope_straight ?_)
  have h1 : c.wpIn Fence.wide 0 P (Exit.noGoto (qf n ds R)) a w := Go.wpIn_mono (h a ha) (fun e a w ⟨f, h1, h2⟩ => by
    cases e with
    | goto l => exact h2.elim
    | normal => exact ⟨f, h1, h2⟩
    | exit i => exact ⟨f, h1, h2⟩
    | ret => exact ⟨f, h1, h2⟩
    | panic c => exact ⟨f, h1, h2⟩
    | outgrown => exact ⟨f, h1, h2⟩)
  exact (wpIn_wide (n := 0)).1 h1
theorem xc_label {l : Nat} (h : R .normal f w) : xc ro P R n ds (.label l) f w := fun _ ha => wpIn_label ⟨f, ha, h⟩
end
section
variable {P : Program} {f : Nat → Value} {w : World} {d : Option Tmp} {ty : TypeId} {pos : String} {af : Array Edge} {g : Option (Tmp × Bool)}
theorem r_loadCell {T : TypeId} {x : Operand} {a : Addr} {v : Value} (ha : ∀ w, (isAgg T).run P w = .ok false w) (hx : ev f x = .pointer (some a)) (hv : w.cell? a = some v) : (execOp (ev f) ⟨d, .load T x, ty, pos, af, g⟩).run P w = .ok (.value v) w := by
  simp [execOp, hx, Instr.loadAt, Instr.sureAddr, loadVar, ha, hv]
theorem r_loadAggAt {T : TypeId} {x : Operand} {a : Addr} {n : Nat} {cs : List Value} (ha : ∀ w, (isAgg T).run P w = .ok true w) (hs : ∀ w, (sizeOf T).run P w = .ok n w) (hx : ev f x = .pointer (some a)) (hn : cs.length = n) (hc : ∀ (j : Nat) (u : Value), cs[j]? = some u → w.cell? (a.add j) = some u) :
    (execOp (ev f) ⟨d, .load T x, ty, pos, af, g⟩).run P w = .ok (.value (.agg cs.toArray)) w := by
  subst hn
  have hl := run_loadCells_list (P := P) w a cs hc
  simp [execOp, hx, Instr.loadAt, Instr.sureAddr, loadVar, ha, hs, hl]
theorem r_fieldAddrA {T : TypeId} {fs : Array Field} {fd : Field} {x : Operand} {k s : Nat} {a : Addr} (hu : P.underlying T = some (.struct fs)) (hf : fs[k]? = some fd) (hs : ∀ w, (sizeOf fd.type).run P w = .ok s w) (hs0 : (s == 0) = false)
    (hx : ev f x = .pointer (some a)) : (execOp (ev f) ⟨d, .fieldAddr T x k, ty, pos, af, g⟩).run P w = .ok (.value (.pointer (some (a.add fd.offset)))) w := by
  have h0 : s ≠ 0 := by simpa using hs0
  simp [execOp, hx, Instr.fieldAt, run_underlying hu, hf, Instr.sureAddr, fieldPlace, hs, h0]
theorem r_build04 {T : TypeId} {zs : Array Value} {f0 f1 f2 f3 : Field} {s0 s1 s2 s3 : Nat} (hu : P.underlying T = some (.struct #[f0, f1, f2, f3])) (hz : ∀ w, (zeroValue T).run P w = .ok (.agg zs) w) (hs0 : ∀ w, (sizeOf f0.type).run P w = .ok s0 w) (hs1 : ∀ w, (sizeOf f1.type).run P w = .ok s1 w) (hs2 : ∀ w, (sizeOf f2.type).run P w = .ok s2 w) (hs3 : ∀ w, (sizeOf f3.type).run P w = .ok s3 w) :
    (execOp (ev f) ⟨d, .build T #[], ty, pos, af, g⟩).run P w = .ok (.value (.agg zs)) w := by
  have e : (Value.agg zs).cells = zs := rfl
  simp [execOp, Instr.build, hz, run_underlying hu, hs0, hs1, hs2, hs3, Instr.fill, e]
end
/-- a patch whose changes can be read wherever the list of assertions holds -/
def CReads (E : Env) (R : List SProp) (v : Value) (l : List Chg) : Prop :=
  ∃ a cap, v = .slice a l.length cap ∧ ∀ w, SatL E w R → ∀ (k : Nat) (x : Chg), l[k]? = some x → ∃ ad, a = some ad ∧ ∀ (j : Nat) (u : Value), (cgC x)[j]? = some u → w.cell? ((ad.add (k * 6)).add j) = some u
theorem CReads.weak {E : Env} {R R' : List SProp} {v : Value} {l : List Chg} (h : CReads E R v l) (hp : ∀ w, SatL E w R' → SatL E w R) : CReads E R' v l := by
  obtain ⟨a, cap, e, h1⟩ := h
  exact ⟨a, cap, e, fun w hw => h1 w (hp w hw)⟩
theorem shift4 {w : World} {ad : Addr} {k : Nat} {y : Value} {zs : List Value} (hc : ∀ (j : Nat) (u : Value), (y :: zs)[j]? = some u → w.cell? ((ad.add k).add j) = some u) : ∀ (j : Nat) (u : Value), zs[j]? = some u → w.cell? (((ad.add k).add 1).add j) = some u := by
  intro j u hj
  rw [Addr.add_add, Nat.add_comm 1 j]
  exact hc (j + 1) u (by simpa using hj)
section
variable {E : Env} {R : List SProp} {w : World} {v v2 : Value} {l : List Atr} {X : List Chg}
theorem same_yes (hv : AReads E R v l) (hv2 : AReads E R v2 l) (hw : ∀ a ∈ l, wfA a) (hb : l.length ≤ 1000000000) (h : SatL E w R) : Calls Try.prog 16 #[v, v2] w (Ret fun u w' => u = .bool true ∧ SatL E w' R) := by
  obtain ⟨a, cap, rfl, _, hrd⟩ := hv
  obtain ⟨a2, cap2, rfl, _, hrd2⟩ := hv2
  refine calls_x Try.func16 rfl Try.ntmps16 rfl ?_
  refine xc_gen (fun g hg => ?_)
  have s0 := (hg 0).trans arg0
  have s1 := (hg 1).trans arg1
  clear hg
  refine xc_seq (fun K hK1 => ?_)
  refine xc_region ?_
  refine x_val (r_assign ec) (nd_of rfl) rfl ?_
  refine xw_nil ?_
  refine hK1 _ _ ?_
  refine xc_gen (fun g hg => ?_)
  have s0 := (hg 0).trans (en rfl s0)
  have s1 := (hg 1).trans (en rfl s1)
  have s4 := (hg 4).trans es
  clear hg
  refine xc_seq (fun K hK2 => ?_)
  refine xc_seq (fun K hK3 => ?_)
  refine xc_region ?_
  refine x_val (r_move s0) (nd_of rfl) rfl ?_
  refine x_val (r_len Try.underlying38 es) (nd_of rfl) rfl ?_
  refine x_val (r_move (en rfl (en rfl s1))) (nd_of rfl) rfl ?_
  refine x_val (r_len Try.underlying38 es) (nd_of rfl) rfl ?_
  refine x_val (r_neq (en rfl (en rfl es)) es (decide_eq_false (by omega))) (nd_of rfl) rfl ?_
  refine xw_nil ?_
  refine hK3 _ _ ?_
  refine xc_gen (fun g hg => ?_)
  have s0 := (hg 0).trans (en rfl (en rfl (en rfl (en rfl (en rfl s0)))))
  have s1 := (hg 1).trans (en rfl (en rfl (en rfl (en rfl (en rfl s1)))))
  have s4 := (hg 4).trans (en rfl (en rfl (en rfl (en rfl (en rfl s4)))))
  have s10 := (hg 10).trans es
  clear hg
  refine xc_cond s10 (fun hc => by cases hc) (fun _ => ?_)
  refine xc_skip ?_
  refine hK2 _ _ ?_
  refine xc_seq (fun K hK4 => ?_)
  refine xc_seq (fun K hK5 => ?_)
  refine xc_region ?_
  refine x_val (r_assign ec) (nd_of rfl) rfl ?_
  refine xw_nil ?_
  refine hK5 _ _ ?_
  refine xc_gen (fun g hg => ?_)
  have s0 := (hg 0).trans (en rfl s0)
  have s1 := (hg 1).trans (en rfl s1)
  have s4 := (hg 4).trans (en rfl s4)
  have s5 := (hg 5).trans es
  have s10 := (hg 10).trans (en rfl s10)
  clear hg
  refine xc_block ?_
  obtain ⟨G6, hG6⟩ : ∃ g0 : Nat → Value, g0 = g := ⟨_, rfl⟩
  have zG6_0 : G6 0 = _ := (congrFun hG6 0).trans s0
  have zG6_1 : G6 1 = _ := (congrFun hG6 1).trans s1
  have zG6_10 : G6 10 = _ := (congrFun hG6 10).trans s10
  refine xc_loop (fun m f w => (∃ k : Nat, m = l.length - k ∧ k ≤ l.length ∧ f 5 = .int .i64 (k : Int) ∧ SatL E w R) ∧ (f 0 = G6 0 ∧ f 1 = G6 1 ∧ f 10 = G6 10)) (l.length) ⟨⟨0, by omega, by omega, s5, h⟩, ⟨congrFun hG6.symm 0, congrFun hG6.symm 1, congrFun hG6.symm 10⟩⟩ ?_
  rintro m g w ⟨⟨k, hm, hk, s5, h⟩, ⟨y0, y1, y10⟩⟩
  have s0 := y0.trans zG6_0
  have s1 := y1.trans zG6_1
  have s10 := y10.trans zG6_10
  refine xc_seq (fun K hK7 => ?_)
  refine xc_seq (fun K hK8 => ?_)
  refine xc_region ?_
  refine x_val (r_move s5) (nd_of rfl) rfl ?_
  refine x_val (r_move (en rfl s0)) (nd_of rfl) rfl ?_
  refine x_val (r_len Try.underlying38 es) (nd_of rfl) rfl ?_
  refine x_val (r_lss (en rfl (en rfl es)) es rfl) (nd_of rfl) rfl ?_
  refine xw_nil ?_
  refine hK8 _ _ ?_
  refine xc_gen (fun g hg => ?_)
  have s0 := (hg 0).trans (en rfl (en rfl (en rfl (en rfl s0))))
  have s1 := (hg 1).trans (en rfl (en rfl (en rfl (en rfl s1))))
  have s5 := (hg 5).trans (en rfl (en rfl (en rfl (en rfl s5))))
  have s10 := (hg 10).trans (en rfl (en rfl (en rfl (en rfl s10))))
  have s14 := (hg 14).trans es
  clear hg
  refine xc_cond s14 (fun hc => ?_) (fun hc => ?_)
  ·
    refine xc_skip ?_
    refine hK7 _ _ ?_
    refine xc_seq (fun K hK9 => ?_)
    refine xc_block ?_
    refine xc_seq (fun K hK10 => ?_)
    have hi : k < l.length := by have := of_decide_eq_true hc; omega
    obtain ⟨p, hp⟩ : ∃ p, l[k]? = some p := ⟨_, List.getElem?_eq_getElem hi⟩
    obtain ⟨ad, rfl, hcell⟩ := hrd _ h k p hp
    obtain ⟨ad2, rfl, hcell2⟩ := hrd2 _ h k p hp
    have hwp := hw p (List.mem_of_getElem? hp)
    refine xc_plan 9 [(0, 2), (1, 2), (2, 2), (3, 1), (4, 2), (5, 2), (6, 2), (7, 1), (8, 2)] (by kernel_rfl) rfl (by kernel_rfl) h ?_
    have h := h.drew
    refine xp_read (i := 0) rfl (fun W => r_move s0) rfl (fun _ _ _ hh => by first | exact bodyR_np hh | exact bodyY_np hh | exact hh) ?_
    refine xp_read (i := 1) rfl (fun W => r_move (en rfl s5)) rfl (fun _ _ _ hh => by first | exact bodyR_np hh | exact bodyY_np hh | exact hh) ?_
    refine xp_read (i := 2) rfl (fun W => r_indexAny Try.underlying38 Try.sizeOf72 (en rfl es) es (by omega) (by omega)) rfl (fun _ _ _ hh => by first | exact bodyR_np hh | exact bodyY_np hh | exact hh) ?_
    refine xp_load (i := 3) rfl (fun W hW => r_loadAggAt Try.isAgg72 Try.sizeOf72 es rfl (by obtain ⟨b1, e1, c1⟩ := hrd _ hW k p hp; cases e1; exact c1)) rfl (fun _ _ _ hh => by first | exact bodyR_np hh | exact bodyY_np hh | exact hh) ?_
    refine xp_read (i := 4) rfl (fun W => r_move (en rfl (en rfl (en rfl (en rfl s1))))) rfl (fun _ _ _ hh => by first | exact bodyR_np hh | exact bodyY_np hh | exact hh) ?_
    refine xp_read (i := 5) rfl (fun W => r_move (en rfl (en rfl (en rfl (en rfl (en rfl s5)))))) rfl (fun _ _ _ hh => by first | exact bodyR_np hh | exact bodyY_np hh | exact hh) ?_
    refine xp_read (i := 6) rfl (fun W => r_indexAny Try.underlying38 Try.sizeOf72 (en rfl es) es (by omega) (by omega)) rfl (fun _ _ _ hh => by first | exact bodyR_np hh | exact bodyY_np hh | exact hh) ?_
    refine xp_load (i := 7) rfl (fun W hW => r_loadAggAt Try.isAgg72 Try.sizeOf72 es rfl (by obtain ⟨b1, e1, c1⟩ := hrd2 _ hW k p hp; cases e1; exact c1)) rfl (fun _ _ _ hh => by first | exact bodyR_np hh | exact bodyY_np hh | exact hh) ?_
    refine xp_read (i := 8) rfl (fun W => r_neqSelf (en rfl (en rfl (en rfl (en rfl es)))) es (by kernel_rfl) (by kernel_rfl) (keyA (n := 1) hwp) (by kernel_rfl)) rfl (fun _ _ _ hh => by first | exact bodyR_np hh | exact bodyY_np hh | exact hh) ?_
    refine xp_nil ?_
    refine hK10 _ _ ?_
    refine xc_gen (fun g hg => ?_)
    have s0 := (hg 0).trans (en rfl (en rfl (en rfl (en rfl (en rfl (en rfl (en rfl (en rfl (en rfl s0)))))))))
    have s1 := (hg 1).trans (en rfl (en rfl (en rfl (en rfl (en rfl (en rfl (en rfl (en rfl (en rfl s1)))))))))
    have s5 := (hg 5).trans (en rfl (en rfl (en rfl (en rfl (en rfl (en rfl (en rfl (en rfl (en rfl s5)))))))))
    have s10 := (hg 10).trans (en rfl (en rfl (en rfl (en rfl (en rfl (en rfl (en rfl (en rfl (en rfl s10)))))))))
    have s14 := (hg 14).trans (en rfl (en rfl (en rfl (en rfl (en rfl (en rfl (en rfl (en rfl (en rfl s14)))))))))
    have s25 := (hg 25).trans es
    clear hg
    refine xc_cond s25 (fun hc => by cases hc) (fun _ => ?_)
    refine xc_skip ?_
    refine hK9 _ _ ?_
    refine xc_region ?_
    refine x_val (r_move s5) (nd_of rfl) rfl ?_
    refine x_val (r_add es ec (show _ = (((k + 1 : Nat) : Int) : Int) from by omega) (by unfold I64; omega)) (nd_of rfl) rfl ?_
    refine x_val (r_assign es) (nd_of rfl) rfl ?_
    refine xw_nil ?_
    exact ⟨l.length - (k + 1), by omega, ⟨k + 1, rfl, by omega, es, h⟩, ⟨((en rfl (en rfl (en rfl s0)))).trans zG6_0.symm, ((en rfl (en rfl (en rfl s1)))).trans zG6_1.symm, ((en rfl (en rfl (en rfl s10)))).trans zG6_10.symm⟩⟩
  ·
    refine xc_exit ?_
    refine hK4 _ _ ?_
    refine xc_seq (fun K hK11 => ?_)
    refine xc_region ?_
    refine x_val (r_assign ec) (nd_of rfl) rfl ?_
    refine xw_nil ?_
    refine hK11 _ _ ?_
    refine xc_gen (fun g hg => ?_)
    have s0 := (hg 0).trans (en rfl s0)
    have s1 := (hg 1).trans (en rfl s1)
    have s4 := (hg 4).trans es
    have s5 := (hg 5).trans (en rfl s5)
    have s10 := (hg 10).trans (en rfl s10)
    have s14 := (hg 14).trans (en rfl s14)
    clear hg
    refine xc_ret ?_
    refine bodyR_1 rfl s4 ?_
    exact ⟨rfl, h⟩
theorem get_yes {key : Int} {k0 : Nat} {a0 : Atr} (hv : AReads E R v l) (h0 : l[k0]? = some a0) (hk0 : a0.1 = key) (hb0 : ∀ (j : Nat) (x : Atr), j < k0 → l[j]? = some x → x.1 ≠ key) (hb : l.length ≤ 1000000000) (h : SatL E w R) :
    Calls Try.prog 17 #[v, .int .i64 key] w (Ret fun u w' => u = .tuple #[.agg (valC a0.2).toArray, .bool true] ∧ SatL E w' R) := by
  obtain ⟨a, cap, rfl, _, hrd⟩ := hv
  have hkl := (List.getElem?_eq_some_iff.1 h0).1
  refine calls_x Try.func17 rfl Try.ntmps17 rfl ?_
  refine xc_gen (fun g hg => ?_)
  have s0 := (hg 0).trans arg0
  have s1 := (hg 1).trans arg1
  clear hg
  have h0' := h
  refine xc_seq (fun K hK1 => ?_)
  refine xc_region ?_
  refine x_allocA h Try.zeroValue44 rfl ?_
  intro b4 w h
  refine x_val (r_assign ec) (nd_of rfl) rfl ?_
  refine xw_nil ?_
  refine hK1 _ _ ?_
  refine xc_gen (fun g hg => ?_)
  have s0 := (hg 0).trans (en rfl (en rfl s0))
  have s1 := (hg 1).trans (en rfl (en rfl s1))
  have s4 := (hg 4).trans (en rfl es)
  have s5 := (hg 5).trans es
  clear hg
  refine xc_seq (fun K hK2 => ?_)
  refine xc_seq (fun K hK3 => ?_)
  refine xc_region ?_
  refine x_val (r_assign ec) (nd_of rfl) rfl ?_
  refine xw_nil ?_
  refine hK3 _ _ ?_
  refine xc_gen (fun g hg => ?_)
  have s0 := (hg 0).trans (en rfl s0)
  have s1 := (hg 1).trans (en rfl s1)
  have s4 := (hg 4).trans (en rfl s4)
  have s5 := (hg 5).trans (en rfl s5)
  have s6 := (hg 6).trans es
  clear hg
  refine xc_block ?_
  obtain ⟨G4, hG4⟩ : ∃ g0 : Nat → Value, g0 = g := ⟨_, rfl⟩
  have zG4_0 : G4 0 = _ := (congrFun hG4 0).trans s0
  have zG4_1 : G4 1 = _ := (congrFun hG4 1).trans s1
  have zG4_4 : G4 4 = _ := (congrFun hG4 4).trans s4
  refine xc_loop (fun m f w => (∃ (k : Nat), m = l.length - k ∧ k ≤ k0 ∧ f 6 = .int .i64 (k : Int) ∧ SatL E w (Cells b4 #[.int .u8 0, .int .i64 0, .int .u64 0, .string ⟨#[]⟩] 44 :: R)) ∧ (f 0 = G4 0 ∧ f 1 = G4 1 ∧ f 4 = G4 4)) (l.length) ⟨⟨0, by omega, by omega, s6, h⟩, ⟨congrFun hG4.symm 0, congrFun hG4.symm 1, congrFun hG4.symm 4⟩⟩ ?_
  rintro m g w ⟨⟨k, hm, hk, s6, h⟩, ⟨y0, y1, y4⟩⟩
  have s0 := y0.trans zG4_0
  have s1 := y1.trans zG4_1
  have s4 := y4.trans zG4_4
  refine xc_seq (fun K hK5 => ?_)
  refine xc_seq (fun K hK6 => ?_)
  refine xc_region ?_
  refine x_val (r_move s6) (nd_of rfl) rfl ?_
  refine x_val (r_move (en rfl s0)) (nd_of rfl) rfl ?_
  refine x_val (r_len Try.underlying38 es) (nd_of rfl) rfl ?_
  refine x_val (r_lss (en rfl (en rfl es)) es (decide_eq_true (by omega))) (nd_of rfl) rfl ?_
  refine xw_nil ?_
  refine hK6 _ _ ?_
  refine xc_gen (fun g hg => ?_)
  have s0 := (hg 0).trans (en rfl (en rfl (en rfl (en rfl s0))))
  have s1 := (hg 1).trans (en rfl (en rfl (en rfl (en rfl s1))))
  have s4 := (hg 4).trans (en rfl (en rfl (en rfl (en rfl s4))))
  have s6 := (hg 6).trans (en rfl (en rfl (en rfl (en rfl s6))))
  have s10 := (hg 10).trans es
  clear hg
  refine xc_cond s10 (fun _ => ?_) (fun hc => by cases hc)
  refine xc_skip ?_
  refine hK5 _ _ ?_
  refine xc_seq (fun K hK7 => ?_)
  refine xc_block ?_
  refine xc_seq (fun K hK8 => ?_)
  obtain ⟨p, hp⟩ : ∃ p, l[k]? = some p := ⟨_, List.getElem?_eq_getElem (by omega)⟩
  obtain ⟨ad, rfl, hcell⟩ := hrd _ h.drop k p hp
  refine xc_region ?_
  refine x_val (r_move s0) (nd_of rfl) rfl ?_
  refine x_val (r_move (en rfl s6)) (nd_of rfl) rfl ?_
  refine x_val (r_indexAny Try.underlying38 Try.sizeOf72 (en rfl es) es (by omega) (by omega)) (nd_of rfl) rfl ?_
  refine x_val (r_fieldAddrA Try.underlying72 rfl Try.sizeOf3 rfl es) (nd_of rfl) rfl ?_
  refine x_val (r_loadCell Try.isAgg3 es (hcell 0 _ rfl)) (nd_of rfl) rfl ?_
  refine x_val (r_move (en rfl (en rfl (en rfl (en rfl (en rfl s1)))))) (nd_of rfl) rfl ?_
  refine x_val (r_eql (en rfl es) es rfl) (nd_of rfl) rfl ?_
  refine xw_nil ?_
  refine hK8 _ _ ?_
  refine xc_gen (fun g hg => ?_)
  have s0 := (hg 0).trans (en rfl (en rfl (en rfl (en rfl (en rfl (en rfl (en rfl s0)))))))
  have s1 := (hg 1).trans (en rfl (en rfl (en rfl (en rfl (en rfl (en rfl (en rfl s1)))))))
  have s4 := (hg 4).trans (en rfl (en rfl (en rfl (en rfl (en rfl (en rfl (en rfl s4)))))))
  have s6 := (hg 6).trans (en rfl (en rfl (en rfl (en rfl (en rfl (en rfl (en rfl s6)))))))
  have s10 := (hg 10).trans (en rfl (en rfl (en rfl (en rfl (en rfl (en rfl (en rfl s10)))))))
  have s19 := (hg 19).trans es
  clear hg
  refine xc_cond s19 (fun hc => ?_) (fun hc => ?_)
  ·
    refine xc_seq (fun K hK9 => ?_)
    have he := of_decide_eq_true hc
    obtain rfl : k = k0 := by rcases Nat.lt_or_ge k k0 with h1 | h1; exact absurd he (hb0 k p h1 hp); omega
    have hokp : Ok 4 (valC a0.2).toArray := ⟨rfl, by simp [valC, Value.oneCell']⟩
    obtain rfl : p = a0 := by rw [h0] at hp; exact (Option.some.inj hp).symm
    refine xc_region ?_
    refine x_val (r_move s0) (nd_of rfl) rfl ?_
    refine x_val (r_move (en rfl s6)) (nd_of rfl) rfl ?_
    refine x_val (r_indexAny Try.underlying38 Try.sizeOf72 (en rfl es) es (by omega) (by omega)) (nd_of rfl) rfl ?_
    refine x_val (r_fieldAddrA Try.underlying72 rfl Try.sizeOf44 rfl es) (nd_of rfl) rfl ?_
    refine x_val (r_loadAggAt (cs := valC p.2) Try.isAgg44 Try.sizeOf44 es rfl (shift4 hcell)) (nd_of rfl) rfl ?_
    refine x_st (r_storeAgg h 0 rfl Try.sizeOf44 (en rfl (en rfl (en rfl (en rfl (en rfl s4))))) es (Ok.size (by first | assumption | exact Ok.node (by assumption) | exact xOk.cells (by assumption) | exact ChOk.ok (by assumption))) (Ok.one (by first | assumption | exact Ok.node (by assumption) | exact xOk.cells (by assumption) | exact ChOk.ok (by assumption))) (by exact Nat.le_refl _)) rfl (h.r0 (over_full rfl)) ?_
    intro w h
    refine x_val (r_assign ec) (nd_of rfl) rfl ?_
    refine xw_nil ?_
    refine hK9 _ _ ?_
    refine xc_gen (fun g hg => ?_)
    have s0 := (hg 0).trans (en rfl (en rfl (en rfl (en rfl (en rfl (en rfl s0))))))
    have s1 := (hg 1).trans (en rfl (en rfl (en rfl (en rfl (en rfl (en rfl s1))))))
    have s4 := (hg 4).trans (en rfl (en rfl (en rfl (en rfl (en rfl (en rfl s4))))))
    have s5 := (hg 5).trans es
    have s6 := (hg 6).trans (en rfl (en rfl (en rfl (en rfl (en rfl (en rfl s6))))))
    have s10 := (hg 10).trans (en rfl (en rfl (en rfl (en rfl (en rfl (en rfl s10))))))
    have s19 := (hg 19).trans (en rfl (en rfl (en rfl (en rfl (en rfl (en rfl s19))))))
    clear hg
    refine xc_ret ?_
    refine bodyR_ct rfl s4 (lv_agg h 0 rfl Try.isAgg44 Try.sizeOf44 rfl) s5 ?_
    exact ⟨rfl, h.drop⟩
  ·
    refine xc_skip ?_
    refine hK7 _ _ ?_
    have he := of_decide_eq_false hc
    have hne : k ≠ k0 := fun e => by subst e; rw [h0] at hp; cases hp; exact he hk0
    refine xc_region ?_
    refine x_val (r_move s6) (nd_of rfl) rfl ?_
    refine x_val (r_add es ec (show _ = (((k + 1 : Nat) : Int) : Int) from by omega) (by unfold I64; omega)) (nd_of rfl) rfl ?_
    refine x_val (r_assign es) (nd_of rfl) rfl ?_
    refine xw_nil ?_
    exact ⟨l.length - (k + 1), by omega, ⟨k + 1, rfl, by omega, es, h⟩, ⟨((en rfl (en rfl (en rfl s0)))).trans zG4_0.symm, ((en rfl (en rfl (en rfl s1)))).trans zG4_1.symm, ((en rfl (en rfl (en rfl s4)))).trans zG4_4.symm⟩⟩
theorem get_no {key : Int} (hv : AReads E R v l) (hb0 : ∀ a ∈ l, a.1 ≠ key) (hb : l.length ≤ 1000000000) (h : SatL E w R) :
    Calls Try.prog 17 #[v, .int .i64 key] w (Ret fun u w' => ∃ z, u = .tuple #[.agg z, .bool false] ∧ Ok 4 z ∧ SatL E w' R) := by
  obtain ⟨a, cap, rfl, _, hrd⟩ := hv
  refine calls_x Try.func17 rfl Try.ntmps17 rfl ?_
  refine xc_gen (fun g hg => ?_)
  have s0 := (hg 0).trans arg0
  have s1 := (hg 1).trans arg1
  clear hg
  refine xc_seq (fun K hK1 => ?_)
  refine xc_region ?_
  refine x_allocA h Try.zeroValue44 rfl ?_
  intro b4 w h
  refine x_val (r_assign ec) (nd_of rfl) rfl ?_
  refine xw_nil ?_
  refine hK1 _ _ ?_
  refine xc_gen (fun g hg => ?_)
  have s0 := (hg 0).trans (en rfl (en rfl s0))
  have s1 := (hg 1).trans (en rfl (en rfl s1))
  have s4 := (hg 4).trans (en rfl es)
  have s5 := (hg 5).trans es
  clear hg
  refine xc_seq (fun K hK2 => ?_)
  refine xc_seq (fun K hK3 => ?_)
  refine xc_region ?_
  refine x_val (r_assign ec) (nd_of rfl) rfl ?_
  refine xw_nil ?_
  refine hK3 _ _ ?_
  refine xc_gen (fun g hg => ?_)
  have s0 := (hg 0).trans (en rfl s0)
  have s1 := (hg 1).trans (en rfl s1)
  have s4 := (hg 4).trans (en rfl s4)
  have s5 := (hg 5).trans (en rfl s5)
  have s6 := (hg 6).trans es
  clear hg
  refine xc_block ?_
  obtain ⟨G4, hG4⟩ : ∃ g0 : Nat → Value, g0 = g := ⟨_, rfl⟩
  have zG4_0 : G4 0 = _ := (congrFun hG4 0).trans s0
  have zG4_1 : G4 1 = _ := (congrFun hG4 1).trans s1
  have zG4_4 : G4 4 = _ := (congrFun hG4 4).trans s4
  refine xc_loop (fun m f w => (∃ (k : Nat), m = l.length - k ∧ k ≤ l.length ∧ f 6 = .int .i64 (k : Int) ∧ SatL E w (Cells b4 #[.int .u8 0, .int .i64 0, .int .u64 0, .string ⟨#[]⟩] 44 :: R)) ∧ (f 0 = G4 0 ∧ f 1 = G4 1 ∧ f 4 = G4 4)) (l.length) ⟨⟨0, by omega, by omega, s6, h⟩, ⟨congrFun hG4.symm 0, congrFun hG4.symm 1, congrFun hG4.symm 4⟩⟩ ?_
  rintro m g w ⟨⟨k, hm, hk, s6, h⟩, ⟨y0, y1, y4⟩⟩
  have s0 := y0.trans zG4_0
  have s1 := y1.trans zG4_1
  have s4 := y4.trans zG4_4
  refine xc_seq (fun K hK5 => ?_)
  refine xc_seq (fun K hK6 => ?_)
  refine xc_region ?_
  refine x_val (r_move s6) (nd_of rfl) rfl ?_
  refine x_val (r_move (en rfl s0)) (nd_of rfl) rfl ?_
  refine x_val (r_len Try.underlying38 es) (nd_of rfl) rfl ?_
  refine x_val (r_lss (en rfl (en rfl es)) es rfl) (nd_of rfl) rfl ?_
  refine xw_nil ?_
  refine hK6 _ _ ?_
  refine xc_gen (fun g hg => ?_)
  have s0 := (hg 0).trans (en rfl (en rfl (en rfl (en rfl s0))))
  have s1 := (hg 1).trans (en rfl (en rfl (en rfl (en rfl s1))))
  have s4 := (hg 4).trans (en rfl (en rfl (en rfl (en rfl s4))))
  have s6 := (hg 6).trans (en rfl (en rfl (en rfl (en rfl s6))))
  have s10 := (hg 10).trans es
  clear hg
  refine xc_cond s10 (fun hc => ?_) (fun hc => ?_)
  ·
    refine xc_skip ?_
    refine hK5 _ _ ?_
    refine xc_seq (fun K hK7 => ?_)
    refine xc_block ?_
    refine xc_seq (fun K hK8 => ?_)
    have hi : k < l.length := by have := of_decide_eq_true hc; omega
    obtain ⟨p, hp⟩ : ∃ p, l[k]? = some p := ⟨_, List.getElem?_eq_getElem hi⟩
    obtain ⟨ad, rfl, hcell⟩ := hrd _ h.drop k p hp
    refine xc_region ?_
    refine x_val (r_move s0) (nd_of rfl) rfl ?_
    refine x_val (r_move (en rfl s6)) (nd_of rfl) rfl ?_
    refine x_val (r_indexAny Try.underlying38 Try.sizeOf72 (en rfl es) es (by omega) (by omega)) (nd_of rfl) rfl ?_
    refine x_val (r_fieldAddrA Try.underlying72 rfl Try.sizeOf3 rfl es) (nd_of rfl) rfl ?_
    refine x_val (r_loadCell Try.isAgg3 es (hcell 0 _ rfl)) (nd_of rfl) rfl ?_
    refine x_val (r_move (en rfl (en rfl (en rfl (en rfl (en rfl s1)))))) (nd_of rfl) rfl ?_
    refine x_val (r_eql (en rfl es) es (decide_eq_false (by exact hb0 p (List.mem_of_getElem? hp)))) (nd_of rfl) rfl ?_
    refine xw_nil ?_
    refine hK8 _ _ ?_
    refine xc_gen (fun g hg => ?_)
    have s0 := (hg 0).trans (en rfl (en rfl (en rfl (en rfl (en rfl (en rfl (en rfl s0)))))))
    have s1 := (hg 1).trans (en rfl (en rfl (en rfl (en rfl (en rfl (en rfl (en rfl s1)))))))
    have s4 := (hg 4).trans (en rfl (en rfl (en rfl (en rfl (en rfl (en rfl (en rfl s4)))))))
    have s6 := (hg 6).trans (en rfl (en rfl (en rfl (en rfl (en rfl (en rfl (en rfl s6)))))))
    have s10 := (hg 10).trans (en rfl (en rfl (en rfl (en rfl (en rfl (en rfl (en rfl s10)))))))
    have s19 := (hg 19).trans es
    clear hg
    refine xc_cond s19 (fun hc => by cases hc) (fun _ => ?_)
    refine xc_skip ?_
    refine hK7 _ _ ?_
    refine xc_region ?_
    refine x_val (r_move s6) (nd_of rfl) rfl ?_
    refine x_val (r_add es ec (show _ = (((k + 1 : Nat) : Int) : Int) from by omega) (by unfold I64; omega)) (nd_of rfl) rfl ?_
    refine x_val (r_assign es) (nd_of rfl) rfl ?_
    refine xw_nil ?_
    exact ⟨l.length - (k + 1), by omega, ⟨k + 1, rfl, by omega, es, h⟩, ⟨((en rfl (en rfl (en rfl s0)))).trans zG4_0.symm, ((en rfl (en rfl (en rfl s1)))).trans zG4_1.symm, ((en rfl (en rfl (en rfl s4)))).trans zG4_4.symm⟩⟩
  ·
    refine xc_exit ?_
    refine hK2 _ _ ?_
    refine xc_seq (fun K hK9 => ?_)
    have hokz : Ok 4 #[.int .u8 0, .int .i64 0, .int .u64 0, .string ⟨#[]⟩] := ⟨rfl, by simp [Value.oneCell']⟩
    refine xc_region ?_
    refine x_val (r_build04 (zs := #[.int .u8 0, .int .i64 0, .int .u64 0, .string ⟨#[]⟩]) Try.underlying44 (fun _ => by kernel_rfl) Try.sizeOf5 Try.sizeOf2 Try.sizeOf42 Try.sizeOf9) (nd_of rfl) rfl ?_
    refine x_st (r_storeAgg h 0 rfl Try.sizeOf44 (en rfl s4) es (Ok.size (by first | assumption | exact Ok.node (by assumption) | exact xOk.cells (by assumption) | exact ChOk.ok (by assumption))) (Ok.one (by first | assumption | exact Ok.node (by assumption) | exact xOk.cells (by assumption) | exact ChOk.ok (by assumption))) (by exact Nat.le_refl _)) rfl (h.r0 (over_full rfl)) ?_
    intro w h
    refine x_val (r_assign ec) (nd_of rfl) rfl ?_
    refine xw_nil ?_
    refine hK9 _ _ ?_
    refine xc_gen (fun g hg => ?_)
    have s0 := (hg 0).trans (en rfl (en rfl s0))
    have s1 := (hg 1).trans (en rfl (en rfl s1))
    have s4 := (hg 4).trans (en rfl (en rfl s4))
    have s5 := (hg 5).trans es
    have s6 := (hg 6).trans (en rfl (en rfl s6))
    have s10 := (hg 10).trans (en rfl (en rfl s10))
    clear hg
    refine xc_ret ?_
    refine bodyR_ct rfl s4 (lv_agg h 0 rfl Try.isAgg44 Try.sizeOf44 rfl) s5 ?_
    exact ⟨_, rfl, ⟨rfl, by simp [Value.oneCell']⟩, h.drop⟩
theorem rising_ok (hv : AReads E R v l) (hb : l.length ≤ 1000000000) (h : SatL E w R) :
    Calls Try.prog 21 #[v] w (Ret fun u w' => ∃ r, u = .bool r ∧ (r = true → ∀ (k : Nat) (x y : Atr), l[k]? = some x → l[k + 1]? = some y → x.1 < y.1) ∧ SatL E w' R) := by
  obtain ⟨a, cap, rfl, _, hrd⟩ := hv
  refine calls_x Try.func21 rfl Try.ntmps21 rfl ?_
  refine xc_gen (fun g hg => ?_)
  have s0 := (hg 0).trans arg0
  clear hg
  refine xc_seq (fun K hK1 => ?_)
  refine xc_region ?_
  refine x_val (r_assign ec) (nd_of rfl) rfl ?_
  refine xw_nil ?_
  refine hK1 _ _ ?_
  refine xc_gen (fun g hg => ?_)
  have s0 := (hg 0).trans (en rfl s0)
  have s2 := (hg 2).trans es
  clear hg
  refine xc_seq (fun K hK2 => ?_)
  refine xc_seq (fun K hK3 => ?_)
  refine xc_region ?_
  refine x_val (r_assign ec) (nd_of rfl) rfl ?_
  refine xw_nil ?_
  refine hK3 _ _ ?_
  refine xc_gen (fun g hg => ?_)
  have s0 := (hg 0).trans (en rfl s0)
  have s2 := (hg 2).trans (en rfl s2)
  have s3 := (hg 3).trans es
  clear hg
  refine xc_block ?_
  obtain ⟨G4, hG4⟩ : ∃ g0 : Nat → Value, g0 = g := ⟨_, rfl⟩
  have zG4_0 : G4 0 = _ := (congrFun hG4 0).trans s0
  refine xc_loop (fun m f w => (∃ (k : Nat), m = l.length - k ∧ (∀ (j : Nat) (x y : Atr), j + 1 < k + 1 → l[j]? = some x → l[j + 1]? = some y → x.1 < y.1) ∧ f 3 = .int .i64 ((k + 1 : Nat) : Int) ∧ k ≤ l.length ∧ SatL E w R) ∧ (f 0 = G4 0)) (l.length) ⟨⟨0, by omega, fun j x y hj => by omega, s3, by omega, h⟩, congrFun hG4.symm 0⟩ ?_
  rintro m g w ⟨⟨k, hm, hgo, s3, hkl, h⟩, y0⟩
  have s0 := y0.trans zG4_0
  refine xc_seq (fun K hK5 => ?_)
  refine xc_seq (fun K hK6 => ?_)
  refine xc_region ?_
  refine x_val (r_move s3) (nd_of rfl) rfl ?_
  refine x_val (r_move (en rfl s0)) (nd_of rfl) rfl ?_
  refine x_val (r_len Try.underlying38 es) (nd_of rfl) rfl ?_
  refine x_val (r_lss (en rfl (en rfl es)) es rfl) (nd_of rfl) rfl ?_
  refine xw_nil ?_
  refine hK6 _ _ ?_
  refine xc_gen (fun g hg => ?_)
  have s0 := (hg 0).trans (en rfl (en rfl (en rfl (en rfl s0))))
  have s3 := (hg 3).trans (en rfl (en rfl (en rfl (en rfl s3))))
  have s7 := (hg 7).trans es
  clear hg
  refine xc_cond s7 (fun hc => ?_) (fun hc => ?_)
  ·
    refine xc_skip ?_
    refine hK5 _ _ ?_
    refine xc_seq (fun K hK7 => ?_)
    refine xc_block ?_
    refine xc_seq (fun K hK8 => ?_)
    have hi : k + 1 < l.length := by have := of_decide_eq_true hc; omega
    obtain ⟨p, hp⟩ : ∃ p, l[k]? = some p := ⟨_, List.getElem?_eq_getElem (by omega)⟩
    obtain ⟨q, hq⟩ : ∃ q, l[k + 1]? = some q := ⟨_, List.getElem?_eq_getElem hi⟩
    obtain ⟨ad, rfl, hcell⟩ := hrd _ h k p hp
    refine xc_plan 12 [(0, 2), (1, 2), (2, 2), (3, 2), (4, 2), (5, 1), (6, 2), (7, 2), (8, 2), (9, 2), (10, 1), (11, 2)] (by kernel_rfl) rfl (by kernel_rfl) h ?_
    have h := h.drew
    refine xp_read (i := 0) rfl (fun W => r_move s0) rfl (fun _ _ _ hh => by first | exact bodyR_np hh | exact bodyY_np hh | exact hh) ?_
    refine xp_read (i := 1) rfl (fun W => r_move (en rfl s3)) rfl (fun _ _ _ hh => by first | exact bodyR_np hh | exact bodyY_np hh | exact hh) ?_
    refine xp_read (i := 2) rfl (fun W => r_sub es ec (show _ = ((k : Int) : Int) from by omega) (by unfold I64; omega)) rfl (fun _ _ _ hh => by first | exact bodyR_np hh | exact bodyY_np hh | exact hh) ?_
    refine xp_read (i := 3) rfl (fun W => r_indexAny Try.underlying38 Try.sizeOf72 (en rfl (en rfl es)) es (by omega) (by omega)) rfl (fun _ _ _ hh => by first | exact bodyR_np hh | exact bodyY_np hh | exact hh) ?_
    refine xp_read (i := 4) rfl (fun W => r_fieldAddrA Try.underlying72 rfl Try.sizeOf3 rfl es) rfl (fun _ _ _ hh => by first | exact bodyR_np hh | exact bodyY_np hh | exact hh) ?_
    refine xp_load (i := 5) rfl (fun W hW => r_loadCell Try.isAgg3 es (by obtain ⟨b1, e1, c1⟩ := hrd _ hW k p hp; cases e1; exact c1 0 _ rfl)) rfl (fun _ _ _ hh => by first | exact bodyR_np hh | exact bodyY_np hh | exact hh) ?_
    refine xp_read (i := 6) rfl (fun W => r_move (en rfl (en rfl (en rfl (en rfl (en rfl (en rfl s0))))))) rfl (fun _ _ _ hh => by first | exact bodyR_np hh | exact bodyY_np hh | exact hh) ?_
    refine xp_read (i := 7) rfl (fun W => r_move (en rfl (en rfl (en rfl (en rfl (en rfl (en rfl (en rfl s3)))))))) rfl (fun _ _ _ hh => by first | exact bodyR_np hh | exact bodyY_np hh | exact hh) ?_
    refine xp_read (i := 8) rfl (fun W => r_indexAny Try.underlying38 Try.sizeOf72 (en rfl es) es (by omega) (by omega)) rfl (fun _ _ _ hh => by first | exact bodyR_np hh | exact bodyY_np hh | exact hh) ?_
    refine xp_read (i := 9) rfl (fun W => r_fieldAddrA Try.underlying72 rfl Try.sizeOf3 rfl es) rfl (fun _ _ _ hh => by first | exact bodyR_np hh | exact bodyY_np hh | exact hh) ?_
    refine xp_load (i := 10) rfl (fun W hW => r_loadCell Try.isAgg3 es (by obtain ⟨b1, e1, c1⟩ := hrd _ hW (k + 1) q hq; cases e1; exact c1 0 _ rfl)) rfl (fun _ _ _ hh => by first | exact bodyR_np hh | exact bodyY_np hh | exact hh) ?_
    refine xp_read (i := 11) rfl (fun W => r_geq (en rfl (en rfl (en rfl (en rfl (en rfl es))))) es rfl) rfl (fun _ _ _ hh => by first | exact bodyR_np hh | exact bodyY_np hh | exact hh) ?_
    refine xp_nil ?_
    refine hK8 _ _ ?_
    refine xc_gen (fun g hg => ?_)
    have s0 := (hg 0).trans (en rfl (en rfl (en rfl (en rfl (en rfl (en rfl (en rfl (en rfl (en rfl (en rfl (en rfl (en rfl s0))))))))))))
    have s3 := (hg 3).trans (en rfl (en rfl (en rfl (en rfl (en rfl (en rfl (en rfl (en rfl (en rfl (en rfl (en rfl (en rfl s3))))))))))))
    have s7 := (hg 7).trans (en rfl (en rfl (en rfl (en rfl (en rfl (en rfl (en rfl (en rfl (en rfl (en rfl (en rfl (en rfl s7))))))))))))
    have s21 := (hg 21).trans es
    clear hg
    refine xc_cond s21 (fun hc => ?_) (fun hc => ?_)
    ·
      refine xc_seq (fun K hK9 => ?_)
      refine xc_region ?_
      refine x_val (r_assign ec) (nd_of rfl) rfl ?_
      refine xw_nil ?_
      refine hK9 _ _ ?_
      refine xc_gen (fun g hg => ?_)
      have s0 := (hg 0).trans (en rfl s0)
      have s2 := (hg 2).trans es
      have s3 := (hg 3).trans (en rfl s3)
      have s7 := (hg 7).trans (en rfl s7)
      have s21 := (hg 21).trans (en rfl s21)
      clear hg
      refine xc_ret ?_
      refine bodyR_1 rfl s2 ?_
      exact ⟨false, rfl, fun h => (by cases h), h⟩
    ·
      refine xc_skip ?_
      refine hK7 _ _ ?_
      have hlt : p.1 < q.1 := by have := of_decide_eq_false hc; omega
      refine xc_region ?_
      refine x_val (r_move s3) (nd_of rfl) rfl ?_
      refine x_val (r_add es ec (show _ = (((k + 1 + 1 : Nat) : Int) : Int) from by omega) (by unfold I64; omega)) (nd_of rfl) rfl ?_
      refine x_val (r_assign es) (nd_of rfl) rfl ?_
      refine xw_nil ?_
      exact ⟨l.length - (k + 1), by omega, ⟨k + 1, rfl, fun j x y hj hx hy => by rcases Nat.lt_or_ge j k with h1 | h1; exact hgo j x y (by omega) hx hy; obtain rfl : j = k := (by omega); rw [hp] at hx; rw [hq] at hy; cases hx; cases hy; exact hlt, es, by omega, h⟩, ((en rfl (en rfl (en rfl s0)))).trans zG4_0.symm⟩
  ·
    refine xc_exit ?_
    refine hK2 _ _ ?_
    refine xc_seq (fun K hK10 => ?_)
    have hkl2 : l.length ≤ k + 1 := by have := of_decide_eq_false hc; omega
    refine xc_region ?_
    refine x_val (r_assign ec) (nd_of rfl) rfl ?_
    refine xw_nil ?_
    refine hK10 _ _ ?_
    refine xc_gen (fun g hg => ?_)
    have s0 := (hg 0).trans (en rfl s0)
    have s2 := (hg 2).trans es
    have s3 := (hg 3).trans (en rfl s3)
    have s7 := (hg 7).trans (en rfl s7)
    clear hg
    refine xc_ret ?_
    refine bodyR_1 rfl s2 ?_
    exact ⟨true, rfl, fun _ j x y hx hy => hgo j x y (by have := (List.getElem?_eq_some_iff.1 hy).1; omega) hx hy, h⟩
theorem risingC_ok (hv : CReads E R v X) (hb : X.length ≤ 1000000000) (h : SatL E w R) :
    Calls Try.prog 20 #[v] w (Ret fun u w' => ∃ r, u = .bool r ∧ (r = true → ∀ (k : Nat) (x y : Chg), X[k]? = some x → X[k + 1]? = some y → x.1 < y.1) ∧ SatL E w' R) := by
  obtain ⟨a, cap, rfl, hrd⟩ := hv
  refine calls_x Try.func20 rfl Try.ntmps20 rfl ?_
  refine xc_gen (fun g hg => ?_)
  have s0 := (hg 0).trans arg0
  clear hg
  refine xc_seq (fun K hK1 => ?_)
  refine xc_region ?_
  refine x_val (r_assign ec) (nd_of rfl) rfl ?_
  refine xw_nil ?_
  refine hK1 _ _ ?_
  refine xc_gen (fun g hg => ?_)
  have s0 := (hg 0).trans (en rfl s0)
  have s2 := (hg 2).trans es
  clear hg
  refine xc_seq (fun K hK2 => ?_)
  refine xc_seq (fun K hK3 => ?_)
  refine xc_region ?_
  refine x_val (r_assign ec) (nd_of rfl) rfl ?_
  refine xw_nil ?_
  refine hK3 _ _ ?_
  refine xc_gen (fun g hg => ?_)
  have s0 := (hg 0).trans (en rfl s0)
  have s2 := (hg 2).trans (en rfl s2)
  have s3 := (hg 3).trans es
  clear hg
  refine xc_block ?_
  obtain ⟨G4, hG4⟩ : ∃ g0 : Nat → Value, g0 = g := ⟨_, rfl⟩
  have zG4_0 : G4 0 = _ := (congrFun hG4 0).trans s0
  refine xc_loop (fun m f w => (∃ (k : Nat), m = X.length - k ∧ (∀ (j : Nat) (x y : Chg), j + 1 < k + 1 → X[j]? = some x → X[j + 1]? = some y → x.1 < y.1) ∧ f 3 = .int .i64 ((k + 1 : Nat) : Int) ∧ k ≤ X.length ∧ SatL E w R) ∧ (f 0 = G4 0)) (X.length) ⟨⟨0, by omega, fun j x y hj => by omega, s3, by omega, h⟩, congrFun hG4.symm 0⟩ ?_
  rintro m g w ⟨⟨k, hm, hgo, s3, hkl, h⟩, y0⟩
  have s0 := y0.trans zG4_0
  refine xc_seq (fun K hK5 => ?_)
  refine xc_seq (fun K hK6 => ?_)
  refine xc_region ?_
  refine x_val (r_move s3) (nd_of rfl) rfl ?_
  refine x_val (r_move (en rfl s0)) (nd_of rfl) rfl ?_
  refine x_val (r_len Try.underlying24 es) (nd_of rfl) rfl ?_
  refine x_val (r_lss (en rfl (en rfl es)) es rfl) (nd_of rfl) rfl ?_
  refine xw_nil ?_
  refine hK6 _ _ ?_
  refine xc_gen (fun g hg => ?_)
  have s0 := (hg 0).trans (en rfl (en rfl (en rfl (en rfl s0))))
  have s3 := (hg 3).trans (en rfl (en rfl (en rfl (en rfl s3))))
  have s7 := (hg 7).trans es
  clear hg
  refine xc_cond s7 (fun hc => ?_) (fun hc => ?_)
  ·
    refine xc_skip ?_
    refine hK5 _ _ ?_
    refine xc_seq (fun K hK7 => ?_)
    refine xc_block ?_
    refine xc_seq (fun K hK8 => ?_)
    have hi : k + 1 < X.length := by have := of_decide_eq_true hc; omega
    obtain ⟨p, hp⟩ : ∃ p, X[k]? = some p := ⟨_, List.getElem?_eq_getElem (by omega)⟩
    obtain ⟨q, hq⟩ : ∃ q, X[k + 1]? = some q := ⟨_, List.getElem?_eq_getElem hi⟩
    obtain ⟨ad, rfl, hcell⟩ := hrd _ h k p hp
    refine xc_plan 12 [(0, 2), (1, 2), (2, 2), (3, 2), (4, 2), (5, 1), (6, 2), (7, 2), (8, 2), (9, 2), (10, 1), (11, 2)] (by kernel_rfl) rfl (by kernel_rfl) h ?_
    have h := h.drew
    refine xp_read (i := 0) rfl (fun W => r_move s0) rfl (fun _ _ _ hh => by first | exact bodyR_np hh | exact bodyY_np hh | exact hh) ?_
    refine xp_read (i := 1) rfl (fun W => r_move (en rfl s3)) rfl (fun _ _ _ hh => by first | exact bodyR_np hh | exact bodyY_np hh | exact hh) ?_
    refine xp_read (i := 2) rfl (fun W => r_sub es ec (show _ = ((k : Int) : Int) from by omega) (by unfold I64; omega)) rfl (fun _ _ _ hh => by first | exact bodyR_np hh | exact bodyY_np hh | exact hh) ?_
    refine xp_read (i := 3) rfl (fun W => r_indexAny Try.underlying24 Try.sizeOf46 (en rfl (en rfl es)) es (by omega) (by omega)) rfl (fun _ _ _ hh => by first | exact bodyR_np hh | exact bodyY_np hh | exact hh) ?_
    refine xp_read (i := 4) rfl (fun W => r_fieldAddrA Try.underlying46 rfl Try.sizeOf3 rfl es) rfl (fun _ _ _ hh => by first | exact bodyR_np hh | exact bodyY_np hh | exact hh) ?_
    refine xp_load (i := 5) rfl (fun W hW => r_loadCell Try.isAgg3 es (by obtain ⟨b1, e1, c1⟩ := hrd _ hW k p hp; cases e1; exact c1 0 _ rfl)) rfl (fun _ _ _ hh => by first | exact bodyR_np hh | exact bodyY_np hh | exact hh) ?_
    refine xp_read (i := 6) rfl (fun W => r_move (en rfl (en rfl (en rfl (en rfl (en rfl (en rfl s0))))))) rfl (fun _ _ _ hh => by first | exact bodyR_np hh | exact bodyY_np hh | exact hh) ?_
    refine xp_read (i := 7) rfl (fun W => r_move (en rfl (en rfl (en rfl (en rfl (en rfl (en rfl (en rfl s3)))))))) rfl (fun _ _ _ hh => by first | exact bodyR_np hh | exact bodyY_np hh | exact hh) ?_
    refine xp_read (i := 8) rfl (fun W => r_indexAny Try.underlying24 Try.sizeOf46 (en rfl es) es (by omega) (by omega)) rfl (fun _ _ _ hh => by first | exact bodyR_np hh | exact bodyY_np hh | exact hh) ?_
    refine xp_read (i := 9) rfl (fun W => r_fieldAddrA Try.underlying46 rfl Try.sizeOf3 rfl es) rfl (fun _ _ _ hh => by first | exact bodyR_np hh | exact bodyY_np hh | exact hh) ?_
    refine xp_load (i := 10) rfl (fun W hW => r_loadCell Try.isAgg3 es (by obtain ⟨b1, e1, c1⟩ := hrd _ hW (k + 1) q hq; cases e1; exact c1 0 _ rfl)) rfl (fun _ _ _ hh => by first | exact bodyR_np hh | exact bodyY_np hh | exact hh) ?_
    refine xp_read (i := 11) rfl (fun W => r_geq (en rfl (en rfl (en rfl (en rfl (en rfl es))))) es rfl) rfl (fun _ _ _ hh => by first | exact bodyR_np hh | exact bodyY_np hh | exact hh) ?_
    refine xp_nil ?_
    refine hK8 _ _ ?_
    refine xc_gen (fun g hg => ?_)
    have s0 := (hg 0).trans (en rfl (en rfl (en rfl (en rfl (en rfl (en rfl (en rfl (en rfl (en rfl (en rfl (en rfl (en rfl s0))))))))))))
    have s3 := (hg 3).trans (en rfl (en rfl (en rfl (en rfl (en rfl (en rfl (en rfl (en rfl (en rfl (en rfl (en rfl (en rfl s3))))))))))))
    have s7 := (hg 7).trans (en rfl (en rfl (en rfl (en rfl (en rfl (en rfl (en rfl (en rfl (en rfl (en rfl (en rfl (en rfl s7))))))))))))
    have s21 := (hg 21).trans es
    clear hg
    refine xc_cond s21 (fun hc => ?_) (fun hc => ?_)
    ·
      refine xc_seq (fun K hK9 => ?_)
      refine xc_region ?_
      refine x_val (r_assign ec) (nd_of rfl) rfl ?_
      refine xw_nil ?_
      refine hK9 _ _ ?_
      refine xc_gen (fun g hg => ?_)
      have s0 := (hg 0).trans (en rfl s0)
      have s2 := (hg 2).trans es
      have s3 := (hg 3).trans (en rfl s3)
      have s7 := (hg 7).trans (en rfl s7)
      have s21 := (hg 21).trans (en rfl s21)
      clear hg
      refine xc_ret ?_
      refine bodyR_1 rfl s2 ?_
      exact ⟨false, rfl, fun h => (by cases h), h⟩
    ·
      refine xc_skip ?_
      refine hK7 _ _ ?_
      have hlt : p.1 < q.1 := by have := of_decide_eq_false hc; omega
      refine xc_region ?_
      refine x_val (r_move s3) (nd_of rfl) rfl ?_
      refine x_val (r_add es ec (show _ = (((k + 1 + 1 : Nat) : Int) : Int) from by omega) (by unfold I64; omega)) (nd_of rfl) rfl ?_
      refine x_val (r_assign es) (nd_of rfl) rfl ?_
      refine xw_nil ?_
      exact ⟨X.length - (k + 1), by omega, ⟨k + 1, rfl, fun j x y hj hx hy => by rcases Nat.lt_or_ge j k with h1 | h1; exact hgo j x y (by omega) hx hy; obtain rfl : j = k := (by omega); rw [hp] at hx; rw [hq] at hy; cases hx; cases hy; exact hlt, es, by omega, h⟩, ((en rfl (en rfl (en rfl s0)))).trans zG4_0.symm⟩
  ·
    refine xc_exit ?_
    refine hK2 _ _ ?_
    refine xc_seq (fun K hK10 => ?_)
    have hkl2 : X.length ≤ k + 1 := by have := of_decide_eq_false hc; omega
    refine xc_region ?_
    refine x_val (r_assign ec) (nd_of rfl) rfl ?_
    refine xw_nil ?_
    refine hK10 _ _ ?_
    refine xc_gen (fun g hg => ?_)
    have s0 := (hg 0).trans (en rfl s0)
    have s2 := (hg 2).trans es
    have s3 := (hg 3).trans (en rfl s3)
    have s7 := (hg 7).trans (en rfl s7)
    clear hg
    refine xc_ret ?_
    refine bodyR_1 rfl s2 ?_
    exact ⟨true, rfl, fun _ j x y hx hy => hgo j x y (by have := (List.getElem?_eq_some_iff.1 hy).1; omega) hx hy, h⟩
end
end Go.Proofs.Ytonnijghdlakfaa
