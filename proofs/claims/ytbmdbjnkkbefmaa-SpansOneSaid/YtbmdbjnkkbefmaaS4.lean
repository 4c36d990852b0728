/-
Spans: All, and what ranges over it; Map.
-/
import Derived.Test.YtbmdbjnkkbefmaaS3
namespace Go.Proofs.Ytbmdbjnkkbefmaa
open Go Go.RowKit
section
variable {P : Program} {f : Nat → Value} {w : World} {d : Option Tmp} {ty : TypeId} {pos : String} {af : Array Edge} {g : Option (Tmp × Bool)}
theorem r_callp {h : FuncId} {x : Operand} {pre us : Array Value} {as1 : List Operand} {vs : List Value} {ts : Array TypeId} (hc : ∀ args w, (callFunc h args).run P w = .ok (.enter h args) w) (hx : ev f x = .func (.func h) pre us) (ha : Evs f as1 vs) :
    (execOp (ev f) ⟨d, .call { callee := .value x, args := as1.toArray, argTypes := ts }, ty, pos, af, g⟩).run P w = .ok (.enter h ((pre ++ vs.toArray) ++ us)) w := by
  have e := ha.map
  simp only [execOp, resolve, Sem.run_bind, e, hx, Deferred.ofValue, Sem.run_pure, Result.andThen_ok, invoke, hc]
theorem r_addW {t yt : TypeId} {x y : Operand} {a b c : Int} (hx : ev f x = .int .i64 a) (hy : ev f y = .int .i64 b) (hc : IntKind.i64.wrap (a + b) = c) :
    (execOp (ev f) ⟨d, .binOp .add t x y yt, ty, pos, af, g⟩).run P w = .ok (.value (.int .i64 c)) w :=
  r_int hx hy (by subst hc; simp [binOp, Op.intArith])
theorem r_mulW {t yt : TypeId} {x y : Operand} {a b c : Int} (hx : ev f x = .int .i64 a) (hy : ev f y = .int .i64 b) (hc : IntKind.i64.wrap (a * b) = c) :
    (execOp (ev f) ⟨d, .binOp .mul t x y yt, ty, pos, af, g⟩).run P w = .ok (.value (.int .i64 c)) w :=
  r_int hx hy (by subst hc; simp [binOp, Op.intArith])
end
section
variable {E : Env} {R : List SProp} {w : World} {b bt ba B B' c : Nat} {xs l : List X} {v : Value}
theorem over_all : ∀ (l : List X), Ps l → overL l 0 (sz l) = l
  | [], _ => rfl
  | x :: l, h => by
    have hx := h x (by simp)
    have ih := over_all l (fun y hy => h y (by simp [hy]))
    simp only [overL, sz]
    rw [show xS x + sz l - xS x = sz l by omega, Nat.zero_sub, ih, oneL, show min (xS x + sz l) (xS x) = xS x by omega, if_pos hx, partX, if_neg (Nat.lt_irrefl 0), if_neg (Nat.lt_irrefl _)]
    rfl
theorem all_o (h : SatL E w (ObjO b xs B :: R)) : Calls Try.prog 13 #[pT b] w (Ret fun u w' => ∃ (c : Nat) (v : Value), u = .func (.func 30) #[] #[.pointer (some ⟨c, 0, none⟩)] ∧ SatL E w' (Cells c #[v] 26 :: XRow v xs :: ObjO b xs B :: R)) := by
  have hps := h.objFacts.1
  refine calls_x Try.func13 rfl Try.ntmps13 rfl ?_
  refine xc_gen (fun g hg => ?_)
  have s0 := (hg 0).trans arg0
  clear hg
  refine xc_seq (fun K hK1 => ?_)
  refine xc_region ?_
  refine x_val (r_assign ec) (nd_of rfl) rfl ?_
  refine xw_nil ?_
  refine hK1 _ _ ?_
  refine xc_gen (fun g hg => ?_)
  have s0 := (hg 0).trans (en rfl s0)
  have s2 := (hg 2).trans es
  clear hg
  refine xc_seq (fun K hK2 => ?_)
  refine xc_region ?_
  refine x_val (r_move s0) (nd_of rfl) rfl ?_
  refine x_val (r_move (en rfl s0)) (nd_of rfl) rfl ?_
  refine x_enter (r_call Try.call14 (.cons es .nil)) (nd_of rfl) rfl (len_o h) ?_
  rintro _ w ⟨rfl, h⟩
  refine x_enter (r_call Try.call11 (.cons (en rfl (en rfl es)) (.cons ec (.cons es .nil)))) (nd_of rfl) rfl (over_o (i := 0) (j := sz xs) (Nat.zero_le _) (Nat.le_refl _) h) ?_
  rintro _ w ⟨v, rfl, h⟩
  rw [over_all xs hps] at h
  obtain ⟨av, cv, rfl, _, _⟩ := h.rowVal
  refine x_val (r_move es) (nd_of rfl) rfl ?_
  refine x_val (r_extract es gc0) (nd_of rfl) rfl ?_
  refine x_val (r_extract (en rfl es) gc1) (nd_of rfl) rfl ?_
  refine x_alloc1 h Try.zeroValue26 rfl rfl ?_
  intro b3 w h
  refine x_st (r_store h 0 rfl Try.sizeOf26 es (en rfl (en rfl es)) rfl gc0) rfl (h.u0 sc0) ?_
  intro w h
  refine x_val (r_assign (en rfl es)) (nd_of rfl) rfl ?_
  refine xw_nil ?_
  refine hK2 _ _ ?_
  refine xc_gen (fun g hg => ?_)
  have s0 := (hg 0).trans (en rfl (en rfl (en rfl (en rfl (en rfl (en rfl (en rfl (en rfl (en rfl s0)))))))))
  have s2 := (hg 2).trans (en rfl (en rfl (en rfl (en rfl (en rfl (en rfl (en rfl (en rfl (en rfl s2)))))))))
  have s3 := (hg 3).trans (en rfl es)
  clear hg
  refine xc_seq (fun K hK3 => ?_)
  refine xc_region ?_
  refine x_val (r_func .nil (.cons s3 .nil)) (nd_of rfl) rfl ?_
  refine x_val (r_assign es) (nd_of rfl) rfl ?_
  refine xw_nil ?_
  refine hK3 _ _ ?_
  refine xc_gen (fun g hg => ?_)
  have s0 := (hg 0).trans (en rfl (en rfl s0))
  have s2 := (hg 2).trans es
  have s3 := (hg 3).trans (en rfl (en rfl s3))
  clear hg
  refine xc_ret ?_
  refine bodyR_1 rfl s2 ?_
  exact ⟨_, _, rfl, h⟩
theorem all_nil (h : SatL E w R) : Calls Try.prog 13 #[.pointer none] w (Ret fun u w' => ∃ (c : Nat), u = .func (.func 30) #[] #[.pointer (some ⟨c, 0, none⟩)] ∧ SatL E w' (Cells c #[.slice none 0 0] 26 :: XRow (.slice none 0 0) [] :: R)) := by
  refine calls_x Try.func13 rfl Try.ntmps13 rfl ?_
  refine xc_gen (fun g hg => ?_)
  have s0 := (hg 0).trans arg0
  clear hg
  refine xc_seq (fun K hK1 => ?_)
  refine xc_region ?_
  refine x_val (r_assign ec) (nd_of rfl) rfl ?_
  refine xw_nil ?_
  refine hK1 _ _ ?_
  refine xc_gen (fun g hg => ?_)
  have s0 := (hg 0).trans (en rfl s0)
  have s2 := (hg 2).trans es
  clear hg
  refine xc_seq (fun K hK2 => ?_)
  refine xc_region ?_
  refine x_val (r_move s0) (nd_of rfl) rfl ?_
  refine x_val (r_move (en rfl s0)) (nd_of rfl) rfl ?_
  refine x_enter (r_call Try.call14 (.cons es .nil)) (nd_of rfl) rfl (len_nil h) ?_
  rintro _ w ⟨rfl, h⟩
  refine x_enter (r_call Try.call11 (.cons (en rfl (en rfl es)) (.cons ec (.cons es .nil)))) (nd_of rfl) rfl (over_nil h) ?_
  rintro _ w ⟨rfl, h⟩
  refine x_val (r_move es) (nd_of rfl) rfl ?_
  refine x_val (r_extract es gc0) (nd_of rfl) rfl ?_
  refine x_val (r_extract (en rfl es) gc1) (nd_of rfl) rfl ?_
  refine x_alloc1 h Try.zeroValue26 rfl rfl ?_
  intro b3 w h
  refine x_st (r_store h 0 rfl Try.sizeOf26 es (en rfl (en rfl es)) rfl gc0) rfl (h.u0 sc0) ?_
  intro w h
  refine x_val (r_assign (en rfl es)) (nd_of rfl) rfl ?_
  refine xw_nil ?_
  refine hK2 _ _ ?_
  refine xc_gen (fun g hg => ?_)
  have s0 := (hg 0).trans (en rfl (en rfl (en rfl (en rfl (en rfl (en rfl (en rfl (en rfl (en rfl s0)))))))))
  have s2 := (hg 2).trans (en rfl (en rfl (en rfl (en rfl (en rfl (en rfl (en rfl (en rfl (en rfl s2)))))))))
  have s3 := (hg 3).trans (en rfl es)
  clear hg
  refine xc_seq (fun K hK3 => ?_)
  refine xc_region ?_
  refine x_val (r_func .nil (.cons s3 .nil)) (nd_of rfl) rfl ?_
  refine x_val (r_assign es) (nd_of rfl) rfl ?_
  refine xw_nil ?_
  refine hK3 _ _ ?_
  refine xc_gen (fun g hg => ?_)
  have s0 := (hg 0).trans (en rfl (en rfl s0))
  have s2 := (hg 2).trans es
  have s3 := (hg 3).trans (en rfl (en rfl s3))
  clear hg
  refine xc_ret ?_
  refine bodyR_1 rfl s2 ?_
  exact ⟨_, rfl, (h.rowNil (e := 34) (sz := KX)).f1⟩
theorem allit_t {y : Value} {IL : Nat → List SProp} (ho : ∀ x ∈ l, xOk x) (hb : l.length ≤ 1000000000)
    (hY : ∀ (M : List SProp) (k : Nat) (x : X) (w : World), l[k]? = some x → SatL E w (M ++ IL k) → FnOk Try.prog y [xV x] w (fun u w' => u = .bool true ∧ SatL E w' (M ++ IL (k + 1))))
    (h : SatL E w (Cells c #[v] 26 :: XRow v l :: IL 0)) :
    Calls Try.prog 30 #[y, .pointer (some ⟨c, 0, none⟩)] w (Ret fun _ w' => SatL E w' (Cells c #[v] 26 :: XRow v l :: IL l.length)) := by
  obtain ⟨av, cv, rfl, _, _⟩ := (h.f1).rowVal
  refine calls_x Try.func30 rfl Try.ntmps30 rfl ?_
  refine xc_gen (fun g hg => ?_)
  have s0 := (hg 0).trans arg0
  have s1 := (hg 1).trans arg1
  clear hg
  refine xc_seq (fun K hK1 => ?_)
  refine xc_region ?_
  refine x_val (r_load h 0 rfl Try.isAgg26 s1 gc0) (nd_of rfl) rfl ?_
  refine x_val (r_len Try.underlying26 es) (nd_of rfl) rfl ?_
  refine x_val (r_move ec) (nd_of rfl) rfl ?_
  refine xw_nil ?_
  refine hK1 _ _ ?_
  refine xc_gen (fun g hg => ?_)
  have s0 := (hg 0).trans (en rfl (en rfl (en rfl s0)))
  have s1 := (hg 1).trans (en rfl (en rfl (en rfl s1)))
  have s5 := (hg 5).trans (en rfl (en rfl es))
  have s6 := (hg 6).trans (en rfl es)
  have s7 := (hg 7).trans es
  clear hg
  refine xc_block ?_
  obtain ⟨G2, hG2⟩ : ∃ g0 : Nat → Value, g0 = g := ⟨_, rfl⟩
  have zG2_0 : G2 0 = _ := (congrFun hG2 0).trans s0
  have zG2_1 : G2 1 = _ := (congrFun hG2 1).trans s1
  have zG2_5 : G2 5 = _ := (congrFun hG2 5).trans s5
  have zG2_6 : G2 6 = _ := (congrFun hG2 6).trans s6
  refine xc_loop (fun m f w => (∃ k : Nat, m = l.length - k ∧ k ≤ l.length ∧ f 7 = .int .i64 (k : Int) ∧ SatL E w (Cells c #[.slice av l.length cv] 26 :: XRow (.slice av l.length cv) l :: IL k)) ∧ (f 0 = G2 0 ∧ f 1 = G2 1 ∧ f 5 = G2 5 ∧ f 6 = G2 6)) (l.length) ⟨⟨0, by omega, by omega, s7, h⟩, ⟨congrFun hG2.symm 0, congrFun hG2.symm 1, congrFun hG2.symm 5, congrFun hG2.symm 6⟩⟩ ?_
  rintro m g w ⟨⟨k, hm, hk, s7, h⟩, ⟨y0, y1, y5, y6⟩⟩
  have s0 := y0.trans zG2_0
  have s1 := y1.trans zG2_1
  have s5 := y5.trans zG2_5
  have s6 := y6.trans zG2_6
  refine xc_seq (fun K hK3 => ?_)
  refine xc_region ?_
  refine x_val (r_lss s7 s6 rfl) (nd_of rfl) rfl ?_
  refine xw_nil ?_
  refine hK3 _ _ ?_
  refine xc_gen (fun g hg => ?_)
  have s0 := (hg 0).trans (en rfl s0)
  have s1 := (hg 1).trans (en rfl s1)
  have s5 := (hg 5).trans (en rfl s5)
  have s6 := (hg 6).trans (en rfl s6)
  have s7 := (hg 7).trans (en rfl s7)
  have s8 := (hg 8).trans es
  clear hg
  refine xc_seq (fun K hK4 => ?_)
  refine xc_cond s8 (fun hc => ?_) (fun hc => ?_)
  ·
    refine xc_skip ?_
    refine hK4 _ _ ?_
    refine xc_seq (fun K hK5 => ?_)
    refine xc_block ?_
    refine xc_seq (fun K hK6 => ?_)
    have hi : k < l.length := by have := of_decide_eq_true hc; omega
    obtain ⟨x, hx⟩ : ∃ x, l[k]? = some x := ⟨_, List.getElem?_eq_getElem hi⟩
    have hxo := ho x (List.mem_of_getElem? hx)
    have hox := hxo.cells
    obtain ⟨gm, cm, curm, hrm, hh⟩ := (h.f1).openRow (by omega)
    have hvm := hrm.val
    simp only [Value.slice.injEq] at hvm
    obtain ⟨ham, _, _⟩ := hvm
    have hth := hrm.thing ho hx
    have h := hh
    refine xc_region ?_
    refine x_val (r_indexAddrN Try.underlying26 Try.sizeOf34 (s5 |>.trans (by rw [ham])) s7 hi) (nd_of rfl) rfl ?_
    refine x_val (r_loadAgg h 0 rfl Try.isAgg34 Try.sizeOf34 es hth.1 hth.2) (nd_of rfl) rfl ?_
    refine x_declA h Try.zeroValue34 Try.sizeOf34 rfl (en rfl es) (by first | assumption | exact Ok.node (by assumption) | exact xOk.cells (by assumption) | exact ChOk.ok (by assumption)) rfl ?_
    intro b4 w h
    refine xw_nil ?_
    refine hK6 _ _ ?_
    refine xc_gen (fun g hg => ?_)
    have s0 := (hg 0).trans (en rfl (en rfl (en rfl s0)))
    have s1 := (hg 1).trans (en rfl (en rfl (en rfl s1)))
    have s4 := (hg 4).trans es
    have s5 := (hg 5).trans (en rfl (en rfl (en rfl s5)))
    have s6 := (hg 6).trans (en rfl (en rfl (en rfl s6)))
    have s7 := (hg 7).trans (en rfl (en rfl (en rfl s7)))
    have s8 := (hg 8).trans (en rfl (en rfl (en rfl s8)))
    clear hg
    refine xc_seq (fun K hK7 => ?_)
    have h := (h.f1.closeRow hrm)
    refine xc_region ?_
    refine x_val (r_move s0) (nd_of rfl) rfl ?_
    refine x_val (r_loadAgg h 1 rfl Try.isAgg34 Try.sizeOf34 (en rfl s4) (Ok.le (by first | assumption | exact Ok.node (by assumption) | exact xOk.cells (by assumption) | exact ChOk.ok (by assumption))) (ext_full (Ok.size (by first | assumption | exact Ok.node (by assumption) | exact xOk.cells (by assumption) | exact ChOk.ok (by assumption))))) (nd_of rfl) rfl ?_
    refine x_callY (en rfl es) (.cons es .nil) rfl (hY [XRow (.slice av l.length cv) l, Cells b4 (xC x) 34, Cells c #[.slice av l.length cv] 26] k x _ hx h) ?_; rintro _ w ⟨rfl, h⟩
    refine x_val (r_not es rfl) (nd_of rfl) rfl ?_
    refine xw_nil ?_
    refine hK7 _ _ ?_
    refine xc_gen (fun g hg => ?_)
    have s0 := (hg 0).trans (en rfl (en rfl (en rfl (en rfl s0))))
    have s1 := (hg 1).trans (en rfl (en rfl (en rfl (en rfl s1))))
    have s4 := (hg 4).trans (en rfl (en rfl (en rfl (en rfl s4))))
    have s5 := (hg 5).trans (en rfl (en rfl (en rfl (en rfl s5))))
    have s6 := (hg 6).trans (en rfl (en rfl (en rfl (en rfl s6))))
    have s7 := (hg 7).trans (en rfl (en rfl (en rfl (en rfl s7))))
    have s8 := (hg 8).trans (en rfl (en rfl (en rfl (en rfl s8))))
    have s14 := (hg 14).trans es
    clear hg
    refine xc_cond s14 (fun hc => by cases hc) (fun _ => ?_)
    refine xc_skip ?_
    refine hK5 _ _ ?_
    refine xc_region ?_
    refine x_val (r_add s7 ec (show _ = (((k + 1 : Nat) : Int) : Int) from by omega) (by unfold I64; omega)) (nd_of rfl) rfl ?_
    refine x_val (r_move es) (nd_of rfl) rfl ?_
    refine xw_nil ?_
    have h := h.f2
    have h := h.f2
    exact ⟨l.length - (k + 1), by omega, ⟨k + 1, rfl, by omega, es, h.drop⟩, ⟨((en rfl (en rfl s0))).trans zG2_0.symm, ((en rfl (en rfl s1))).trans zG2_1.symm, ((en rfl (en rfl s5))).trans zG2_5.symm, ((en rfl (en rfl s6))).trans zG2_6.symm⟩⟩
  ·
    refine xc_exit ?_
    refine bodyR_0 rfl ?_
    obtain rfl : k = l.length := by have := of_decide_eq_false hc; omega
    exact h
/-- what maps numbers -/
def MapFn (E : Env) (R : List SProp) (fv : Value) (g : Int → Int) : Prop :=
  ∃ h pre us, fv = .func (.func h) pre us ∧ (∀ args w, (callFunc h args).run Try.prog w = .ok (.enter h args) w) ∧
    ∀ (L : List SProp) (w : World) (x : Int), SatL E w (L ++ R) → Calls Try.prog h ((pre ++ [.int .i64 x].toArray) ++ us) w (Ret fun u w' => u = .int .i64 (g x) ∧ SatL E w' (L ++ R))
/-- what a call's function makes of a number -/
def byOf (y : Int) : Int := if y < 0 ∨ 3 < y then 1 else y
def plusOf (p : Int) : Int := if 9 < p then 9 else if p < -9 then -9 else p
def gM (y p x : Int) : Int := (IntKind.i64.wrap (IntKind.i64.wrap (x * byOf y) + plusOf p)).tmod 1000
theorem mapped_ok {c0 c1 c2 c3 : Value} {y p x : Int} (h : SatL E w R) : Calls Try.prog 16 #[.agg #[c0, c1, c2, c3, .int .i64 y, .int .i64 p], .int .i64 x] w (Ret fun u w' => u = .int .i64 (gM y p x) ∧ SatL E w' R) := by
  refine calls_x Try.func16 rfl Try.ntmps16 rfl ?_
  refine xc_gen (fun g hg => ?_)
  have s0 := (hg 0).trans arg0
  have s1 := (hg 1).trans arg1
  clear hg
  refine xc_seq (fun K hK1 => ?_)
  refine xc_region ?_
  refine x_boxA h s0 rfl ?_
  intro b2 w h
  refine x_val (r_assign ec) (nd_of rfl) rfl ?_
  refine xw_nil ?_
  refine hK1 _ _ ?_
  refine xc_gen (fun g hg => ?_)
  have s0 := (hg 0).trans (en rfl (en rfl s0))
  have s1 := (hg 1).trans (en rfl (en rfl s1))
  have s2 := (hg 2).trans (en rfl es)
  have s4 := (hg 4).trans es
  clear hg
  refine xc_seq (fun K hK2 => ?_)
  refine xc_plan 6 [(0, 2), (1, 1), (2, 2), (3, 1), (4, 2), (5, 2)] (by kernel_rfl) rfl (by kernel_rfl) h ?_
  have h := h.drew
  refine xp_read (i := 0) rfl (fun W => r_fieldAddr (o' := 4) Try.underlying28 rfl Try.sizeOf3 rfl s2 rfl) rfl (fun _ _ _ hh => by first | exact bodyR_np hh | exact bodyY_np hh | exact hh) ?_
  refine xp_load (i := 1) rfl (fun W hW => r_load hW 0 rfl Try.isAgg3 es gc4) rfl (fun _ _ _ hh => by first | exact bodyR_np hh | exact bodyY_np hh | exact hh) ?_
  refine xp_read (i := 2) rfl (fun W => r_fieldAddr (o' := 5) Try.underlying28 rfl Try.sizeOf3 rfl (en rfl (en rfl s2)) rfl) rfl (fun _ _ _ hh => by first | exact bodyR_np hh | exact bodyY_np hh | exact hh) ?_
  refine xp_load (i := 3) rfl (fun W hW => r_load hW 0 rfl Try.isAgg3 es gc5) rfl (fun _ _ _ hh => by first | exact bodyR_np hh | exact bodyY_np hh | exact hh) ?_
  refine xp_read (i := 4) rfl (fun W => r_assign (en rfl (en rfl es))) rfl (fun _ _ _ hh => by first | exact bodyR_np hh | exact bodyY_np hh | exact hh) ?_
  refine xp_read (i := 5) rfl (fun W => r_assign (en rfl es)) rfl (fun _ _ _ hh => by first | exact bodyR_np hh | exact bodyY_np hh | exact hh) ?_
  refine xp_nil ?_
  refine hK2 _ _ ?_
  refine xc_gen (fun g hg => ?_)
  have s0 := (hg 0).trans (en rfl (en rfl (en rfl (en rfl (en rfl (en rfl s0))))))
  have s1 := (hg 1).trans (en rfl (en rfl (en rfl (en rfl (en rfl (en rfl s1))))))
  have s2 := (hg 2).trans (en rfl (en rfl (en rfl (en rfl (en rfl (en rfl s2))))))
  have s4 := (hg 4).trans (en rfl (en rfl (en rfl (en rfl (en rfl (en rfl s4))))))
  have s5 := (hg 5).trans (en rfl es)
  have s6 := (hg 6).trans es
  clear hg
  obtain ⟨G3, hG3⟩ : ∃ g0 : Nat → Value, g0 = g := ⟨_, rfl⟩
  have zG3_0 : G3 0 = _ := (congrFun hG3 0).trans s0
  have zG3_1 : G3 1 = _ := (congrFun hG3 1).trans s1
  have zG3_2 : G3 2 = _ := (congrFun hG3 2).trans s2
  have zG3_4 : G3 4 = _ := (congrFun hG3 4).trans s4
  have zG3_6 : G3 6 = _ := (congrFun hG3 6).trans s6
  refine xc_cut (fun f w => (f 5 = .int .i64 (byOf y) ∧ SatL E w (Cells b2 #[c0, c1, c2, c3, .int .i64 y, .int .i64 p] 28 :: R)) ∧ (f 0 = G3 0 ∧ f 1 = G3 1 ∧ f 2 = G3 2 ∧ f 4 = G3 4 ∧ f 6 = G3 6)) ?_ ?_
  ·
    skip
    rcases (show y < 0 ∨ 0 ≤ y by omega) with hy | hy
    ·
      skip
      refine xc_seq (fun K hK4 => ?_)
      refine xc_region ?_
      refine x_val (r_move s5) (nd_of rfl) rfl ?_
      refine x_val (r_lss es ec (decide_eq_true (by omega))) (nd_of rfl) rfl ?_
      refine x_val (r_move es) (nd_of rfl) rfl ?_
      refine x_pass (d := 13) rfl rfl es rfl ?_
      refine x_pass (d := 13) rfl rfl (en rfl es) rfl ?_
      refine x_val (r_pick_t (en rfl (en rfl es)) ec) (nd_of rfl) rfl ?_
      refine xw_nil ?_
      refine hK4 _ _ ?_
      refine xc_gen (fun g hg => ?_)
      have s0 := (hg 0).trans (en rfl (en rfl (en rfl (en rfl (en rfl (en rfl s0))))))
      have s1 := (hg 1).trans (en rfl (en rfl (en rfl (en rfl (en rfl (en rfl s1))))))
      have s2 := (hg 2).trans (en rfl (en rfl (en rfl (en rfl (en rfl (en rfl s2))))))
      have s4 := (hg 4).trans (en rfl (en rfl (en rfl (en rfl (en rfl (en rfl s4))))))
      have s5 := (hg 5).trans (en rfl (en rfl (en rfl (en rfl (en rfl (en rfl s5))))))
      have s6 := (hg 6).trans (en rfl (en rfl (en rfl (en rfl (en rfl (en rfl s6))))))
      have s16 := (hg 16).trans es
      clear hg
      refine xc_cond s16 (fun _ => ?_) (fun hc => by cases hc)
      refine xc_region ?_
      refine x_val (r_assign ec) (nd_of rfl) rfl ?_
      refine xw_nil ?_
      exact ⟨⟨by rw [byOf, if_pos (.inl hy)]; exact es, h⟩, ⟨((en rfl s0)).trans zG3_0.symm, ((en rfl s1)).trans zG3_1.symm, ((en rfl s2)).trans zG3_2.symm, ((en rfl s4)).trans zG3_4.symm, ((en rfl s6)).trans zG3_6.symm⟩⟩
    ·
      skip
      refine xc_seq (fun K hK5 => ?_)
      refine xc_region ?_
      refine x_val (r_move s5) (nd_of rfl) rfl ?_
      refine x_val (r_lss es ec (decide_eq_false (by omega))) (nd_of rfl) rfl ?_
      refine x_val (r_move es) (nd_of rfl) rfl ?_
      refine x_take (d := 13) rfl rfl es ?_
      refine x_val (r_move (en rfl (en rfl (en rfl s5)))) (nd_of rfl) rfl ?_
      refine x_take (d := 13) rfl rfl (en rfl es) ?_
      refine x_val (r_gtr es ec rfl) (nd_of rfl) rfl ?_
      refine x_val (r_pick_f (en rfl (en rfl es)) es) (nd_of rfl) rfl ?_
      refine xw_nil ?_
      refine hK5 _ _ ?_
      refine xc_gen (fun g hg => ?_)
      have s0 := (hg 0).trans (en rfl (en rfl (en rfl (en rfl (en rfl (en rfl s0))))))
      have s1 := (hg 1).trans (en rfl (en rfl (en rfl (en rfl (en rfl (en rfl s1))))))
      have s2 := (hg 2).trans (en rfl (en rfl (en rfl (en rfl (en rfl (en rfl s2))))))
      have s4 := (hg 4).trans (en rfl (en rfl (en rfl (en rfl (en rfl (en rfl s4))))))
      have s5 := (hg 5).trans (en rfl (en rfl (en rfl (en rfl (en rfl (en rfl s5))))))
      have s6 := (hg 6).trans (en rfl (en rfl (en rfl (en rfl (en rfl (en rfl s6))))))
      have s16 := (hg 16).trans es
      clear hg
      refine xc_cond s16 (fun hc => ?_) (fun hc => ?_)
      ·
        have h3 := of_decide_eq_true hc
        refine xc_region ?_
        refine x_val (r_assign ec) (nd_of rfl) rfl ?_
        refine xw_nil ?_
        exact ⟨⟨by rw [byOf, if_pos (.inr h3)]; exact es, h⟩, ⟨((en rfl s0)).trans zG3_0.symm, ((en rfl s1)).trans zG3_1.symm, ((en rfl s2)).trans zG3_2.symm, ((en rfl s4)).trans zG3_4.symm, ((en rfl s6)).trans zG3_6.symm⟩⟩
      ·
        refine xc_skip ?_
        have h3 := of_decide_eq_false hc
        exact ⟨⟨by rw [byOf, if_neg (by omega)]; exact s5, h⟩, ⟨(s0).trans zG3_0.symm, (s1).trans zG3_1.symm, (s2).trans zG3_2.symm, (s4).trans zG3_4.symm, (s6).trans zG3_6.symm⟩⟩
  ·
    rintro g w ⟨⟨s5, h⟩, ⟨y0, y1, y2, y4, y6⟩⟩
    have s0 := y0.trans zG3_0
    have s1 := y1.trans zG3_1
    have s2 := y2.trans zG3_2
    have s4 := y4.trans zG3_4
    have s6 := y6.trans zG3_6
    obtain ⟨G6, hG6⟩ : ∃ g0 : Nat → Value, g0 = g := ⟨_, rfl⟩
    have zG6_0 : G6 0 = _ := (congrFun hG6 0).trans s0
    have zG6_1 : G6 1 = _ := (congrFun hG6 1).trans s1
    have zG6_2 : G6 2 = _ := (congrFun hG6 2).trans s2
    have zG6_4 : G6 4 = _ := (congrFun hG6 4).trans s4
    have zG6_5 : G6 5 = _ := (congrFun hG6 5).trans s5
    refine xc_cut (fun f w => (f 6 = .int .i64 (if 9 < p then 9 else p) ∧ SatL E w (Cells b2 #[c0, c1, c2, c3, .int .i64 y, .int .i64 p] 28 :: R)) ∧ (f 0 = G6 0 ∧ f 1 = G6 1 ∧ f 2 = G6 2 ∧ f 4 = G6 4 ∧ f 5 = G6 5)) ?_ ?_
    ·
      skip
      refine xc_seq (fun K hK7 => ?_)
      refine xc_region ?_
      refine x_val (r_move s6) (nd_of rfl) rfl ?_
      refine x_val (r_gtr es ec rfl) (nd_of rfl) rfl ?_
      refine xw_nil ?_
      refine hK7 _ _ ?_
      refine xc_gen (fun g hg => ?_)
      have s0 := (hg 0).trans (en rfl (en rfl s0))
      have s1 := (hg 1).trans (en rfl (en rfl s1))
      have s2 := (hg 2).trans (en rfl (en rfl s2))
      have s4 := (hg 4).trans (en rfl (en rfl s4))
      have s5 := (hg 5).trans (en rfl (en rfl s5))
      have s6 := (hg 6).trans (en rfl (en rfl s6))
      have s18 := (hg 18).trans es
      clear hg
      refine xc_cond s18 (fun hc => ?_) (fun hc => ?_)
      ·
        refine xc_region ?_
        refine x_val (r_assign ec) (nd_of rfl) rfl ?_
        refine xw_nil ?_
        exact ⟨⟨by rw [if_pos (of_decide_eq_true hc)]; exact es, h⟩, ⟨((en rfl s0)).trans zG6_0.symm, ((en rfl s1)).trans zG6_1.symm, ((en rfl s2)).trans zG6_2.symm, ((en rfl s4)).trans zG6_4.symm, ((en rfl s5)).trans zG6_5.symm⟩⟩
      ·
        refine xc_skip ?_
        exact ⟨⟨by rw [if_neg (of_decide_eq_false hc)]; exact s6, h⟩, ⟨(s0).trans zG6_0.symm, (s1).trans zG6_1.symm, (s2).trans zG6_2.symm, (s4).trans zG6_4.symm, (s5).trans zG6_5.symm⟩⟩
    ·
      rintro g w ⟨⟨s6, h⟩, ⟨y0, y1, y2, y4, y5⟩⟩
      have s0 := y0.trans zG6_0
      have s1 := y1.trans zG6_1
      have s2 := y2.trans zG6_2
      have s4 := y4.trans zG6_4
      have s5 := y5.trans zG6_5
      obtain ⟨G8, hG8⟩ : ∃ g0 : Nat → Value, g0 = g := ⟨_, rfl⟩
      have zG8_0 : G8 0 = _ := (congrFun hG8 0).trans s0
      have zG8_1 : G8 1 = _ := (congrFun hG8 1).trans s1
      have zG8_2 : G8 2 = _ := (congrFun hG8 2).trans s2
      have zG8_4 : G8 4 = _ := (congrFun hG8 4).trans s4
      have zG8_5 : G8 5 = _ := (congrFun hG8 5).trans s5
      refine xc_cut (fun f w => (f 6 = .int .i64 (plusOf p) ∧ SatL E w (Cells b2 #[c0, c1, c2, c3, .int .i64 y, .int .i64 p] 28 :: R)) ∧ (f 0 = G8 0 ∧ f 1 = G8 1 ∧ f 2 = G8 2 ∧ f 4 = G8 4 ∧ f 5 = G8 5)) ?_ ?_
      ·
        skip
        refine xc_seq (fun K hK9 => ?_)
        refine xc_region ?_
        refine x_val (r_move s6) (nd_of rfl) rfl ?_
        refine x_val (r_lss es ec rfl) (nd_of rfl) rfl ?_
        refine xw_nil ?_
        refine hK9 _ _ ?_
        refine xc_gen (fun g hg => ?_)
        have s0 := (hg 0).trans (en rfl (en rfl s0))
        have s1 := (hg 1).trans (en rfl (en rfl s1))
        have s2 := (hg 2).trans (en rfl (en rfl s2))
        have s4 := (hg 4).trans (en rfl (en rfl s4))
        have s5 := (hg 5).trans (en rfl (en rfl s5))
        have s6 := (hg 6).trans (en rfl (en rfl s6))
        have s20 := (hg 20).trans es
        clear hg
        refine xc_cond s20 (fun hc => ?_) (fun hc => ?_)
        ·
          have h3 := of_decide_eq_true hc
          refine xc_region ?_
          refine x_val (r_assign ec) (nd_of rfl) rfl ?_
          refine xw_nil ?_
          exact ⟨⟨by rw [plusOf]; split at h3; omega; rw [if_neg (by assumption), if_pos h3]; exact es, h⟩, ⟨((en rfl s0)).trans zG8_0.symm, ((en rfl s1)).trans zG8_1.symm, ((en rfl s2)).trans zG8_2.symm, ((en rfl s4)).trans zG8_4.symm, ((en rfl s5)).trans zG8_5.symm⟩⟩
        ·
          refine xc_skip ?_
          have h3 := of_decide_eq_false hc
          exact ⟨⟨by rw [plusOf]; rw [show (if 9 < p then 9 else if p < -9 then -9 else p) = (if 9 < p then 9 else p) by split at h3 <;> split <;> omega]; exact s6, h⟩, ⟨(s0).trans zG8_0.symm, (s1).trans zG8_1.symm, (s2).trans zG8_2.symm, (s4).trans zG8_4.symm, (s5).trans zG8_5.symm⟩⟩
      ·
        rintro g w ⟨⟨s6, h⟩, ⟨y0, y1, y2, y4, y5⟩⟩
        have s0 := y0.trans zG8_0
        have s1 := y1.trans zG8_1
        have s2 := y2.trans zG8_2
        have s4 := y4.trans zG8_4
        have s5 := y5.trans zG8_5
        refine xc_seq (fun K hK10 => ?_)
        refine xc_region ?_
        refine x_val (r_move s1) (nd_of rfl) rfl ?_
        refine x_val (r_move (en rfl s5)) (nd_of rfl) rfl ?_
        refine x_val (r_mulW (en rfl es) es (c := IntKind.i64.wrap (x * byOf y)) rfl) (nd_of rfl) rfl ?_
        refine x_val (r_move (en rfl (en rfl (en rfl s6)))) (nd_of rfl) rfl ?_
        refine x_val (r_addW (en rfl es) es (c := IntKind.i64.wrap (IntKind.i64.wrap (x * byOf y) + plusOf p)) rfl) (nd_of rfl) rfl ?_
        refine x_val (r_rem es ec (by decide) rfl) (nd_of rfl) rfl ?_
        refine x_val (r_assign es) (nd_of rfl) rfl ?_
        refine xw_nil ?_
        refine hK10 _ _ ?_
        refine xc_gen (fun g hg => ?_)
        have s0 := (hg 0).trans (en rfl (en rfl (en rfl (en rfl (en rfl (en rfl (en rfl s0)))))))
        have s1 := (hg 1).trans (en rfl (en rfl (en rfl (en rfl (en rfl (en rfl (en rfl s1)))))))
        have s2 := (hg 2).trans (en rfl (en rfl (en rfl (en rfl (en rfl (en rfl (en rfl s2)))))))
        have s4 := (hg 4).trans es
        have s5 := (hg 5).trans (en rfl (en rfl (en rfl (en rfl (en rfl (en rfl (en rfl s5)))))))
        have s6 := (hg 6).trans (en rfl (en rfl (en rfl (en rfl (en rfl (en rfl (en rfl s6)))))))
        clear hg
        refine xc_ret ?_
        refine bodyR_1 rfl s4 ?_
        exact ⟨rfl, h.drop⟩
end
end Go.Proofs.Ytbmdbjnkkbefmaa
