/-
The things of this chapter's trees: spans; and the three functions that the tree is given.
-/
import Derived.Test.YtbmdbjnkkbefmaaA1
import Derived.Test.YtbmdbjnkkbefmaaX7
import Derived.Test.YtbmdbjnkkbefmaaY2
namespace Go.Proofs.Ytbmdbjnkkbefmaa
open Go Go.RowKit
/-- a span: how many, of which number -/
abbrev X := Nat × Int
def xC (x : X) : Array Value := #[.int .i64 (x.1 : Int), .int .i64 x.2]
abbrev xV (x : X) : Value := .agg (xC x)
def xS (x : X) : Nat := x.1
def xM (_ : X) : Nat := 0
def xOk (x : X) : Prop := x.1 ≤ 1000000000000
def xCut (x : X) (i : Nat) : X × X := ((i, x.2), (x.1 - i, x.2))
def xMeld (a b : X) : X := (a.1 + b.1, a.2)
def xMelds (a b : X) : Bool := decide (a.2 = b.2)
theorem xOk.cells {x : X} (_ : xOk x) : Ok 2 (xC x) := ⟨rfl, by simp [xC, Value.oneCell']⟩
theorem xV_cells {x : X} (_ : xOk x) : (xV x).cells = xC x := rfl
theorem xS_cut1 {x : X} {i : Nat} (_ : 0 < i) (_ : i < xS x) : xS (xCut x i).1 = i := rfl
theorem xS_cut2 {x : X} {i : Nat} (_ : i < xS x) : xS (xCut x i).2 = xS x - i := rfl
theorem xM_cut1 {x : X} {i : Nat} : xM (xCut x i).1 ≤ xM x := Nat.le_refl _
theorem xM_cut2 {x : X} {i : Nat} : xM (xCut x i).2 ≤ xM x := Nat.le_refl _
theorem xOk.cut1 {x : X} {i : Nat} (h : xOk x) (hi : i < xS x) : xOk (xCut x i).1 := by unfold xOk xCut xS at *; simp only; omega
theorem xOk.cut2 {x : X} {i : Nat} (h : xOk x) (_ : i < xS x) : xOk (xCut x i).2 := by unfold xOk xCut at *; simp only; omega
theorem xS_meld {a b : X} (_ : xMelds a b = true) : xS (xMeld a b) = xS a + xS b := rfl
theorem xM_meld {a b : X} : xM (xMeld a b) ≤ xM a + xM b := Nat.zero_le _
theorem xOk.meld {a b : X} (_ : xOk a) (_ : xOk b) (h : xS a + xS b ≤ 1000000000000) : xOk (xMeld a b) := h
theorem xM_le {x : X} : xM x ≤ xS x := Nat.zero_le _
abbrev fnM : Value := .func (.func 37) #[] #[]
abbrev fnC : Value := .func (.func 38) #[] #[]
abbrev fnJ : Value := .func (.func 39) #[] #[]
section
variable {P : Program} {f : Nat → Value} {w : World} {d : Option Tmp} {ty : TypeId} {pos : String} {af : Array Edge} {g : Option (Tmp × Bool)}
/-- a struct of two numbers -/
theorem r_build2 {T : TypeId} {f0 f1 : Field} {x y : Operand} {z0 z1 : Value} {k0 k1 : IntKind} {a b : Int} (hu : P.underlying T = some (.struct #[f0, f1])) (hz : ∀ w, (zeroValue T).run P w = .ok (.agg #[z0, z1]) w)
    (hs0 : ∀ w, (sizeOf f0.type).run P w = .ok 1 w) (hs1 : ∀ w, (sizeOf f1.type).run P w = .ok 1 w) (ho0 : f0.offset = 0) (ho1 : f1.offset = 1) (hx : ev f x = .int k0 a) (hy : ev f y = .int k1 b) :
    (execOp (ev f) ⟨d, .build T #[(0, x), (1, y)], ty, pos, af, g⟩).run P w = .ok (.value (.agg #[.int k0 a, .int k1 b])) w := by
  have e : Instr.fill (fun i => [(0, 1), (1, 1)][i]?) (Value.agg #[z0, z1]).cells [(0, .int k0 a), (1, .int k1 b)] = some #[.int k0 a, .int k1 b] := by kernel_rfl
  simp [execOp, Instr.build, hz, run_underlying hu, hs0, hs1, ho0, ho1, hx, hy, e]
end
section
variable {E : Env} {R : List SProp} {w : World} {x y : X}
abbrev xZ : Value := .agg #[.int .i64 0, .int .i64 0]
theorem zX : ∀ w, (zeroValue 34).run Try.prog w = .ok (.agg #[.int .i64 0, .int .i64 0]) w := fun _ => by kernel_rfl
theorem zOk : Ok 2 xZ.cells := ⟨rfl, by simp [xZ, Value.cells, Value.oneCell']⟩
theorem measure_ok (hx : xOk x) (h : SatL E w R) : Calls Try.prog 37 #[xV x] w (Ret fun v w' => v = .tuple #[.int .i64 (xS x : Int), .int .i64 (xM x : Int)] ∧ SatL E w' R) := by
  have hok := hx.cells
  unfold xV xC at *
  refine calls_x Try.func37 rfl Try.ntmps37 rfl ?_
  refine xc_gen (fun g hg => ?_)
  have s0 := (hg 0).trans arg0
  clear hg
  refine xc_seq (fun K hK1 => ?_)
  refine xc_region ?_
  refine x_boxA h s0 rfl ?_
  intro b1 w h
  refine x_val (r_assign ec) (nd_of rfl) rfl ?_
  refine x_val (r_assign ec) (nd_of rfl) rfl ?_
  refine xw_nil ?_
  refine hK1 _ _ ?_
  refine xc_gen (fun g hg => ?_)
  have s0 := (hg 0).trans (en rfl (en rfl (en rfl s0)))
  have s1 := (hg 1).trans (en rfl (en rfl es))
  have s2 := (hg 2).trans (en rfl es)
  have s3 := (hg 3).trans es
  clear hg
  refine xc_seq (fun K hK2 => ?_)
  refine xc_region ?_
  refine x_val (r_fieldAddr (o' := 0) Try.underlying34 rfl Try.sizeOf3 rfl s1 rfl) (nd_of rfl) rfl ?_
  refine x_val (r_load h 0 rfl Try.isAgg3 es gc0) (nd_of rfl) rfl ?_
  refine x_val (r_assign es) (nd_of rfl) rfl ?_
  refine x_val (r_assign ec) (nd_of rfl) rfl ?_
  refine xw_nil ?_
  refine hK2 _ _ ?_
  refine xc_gen (fun g hg => ?_)
  have s0 := (hg 0).trans (en rfl (en rfl (en rfl (en rfl s0))))
  have s1 := (hg 1).trans (en rfl (en rfl (en rfl (en rfl s1))))
  have s2 := (hg 2).trans (en rfl es)
  have s3 := (hg 3).trans es
  clear hg
  refine xc_ret ?_
  refine bodyR_2 rfl s2 s3 ?_
  exact ⟨rfl, h.drop⟩
theorem cut_ok {i : Nat} (hx : xOk x) (_h0 : 0 < i) (hi : i < xS x) (h : SatL E w R) : Calls Try.prog 38 #[xV x, .int .i64 (i : Int)] w (Ret fun v w' => v = .tuple #[xV (xCut x i).1, xV (xCut x i).2] ∧ SatL E w' R) := by
  unfold xS at hi
  unfold xOk at hx
  unfold xV xC
  have hz : Ok 2 #[Value.int .i64 0, Value.int .i64 0] := ⟨rfl, by simp [Value.oneCell']⟩
  have ha : Ok 2 #[Value.int .i64 (i : Int), Value.int .i64 x.2] := ⟨rfl, by simp [Value.oneCell']⟩
  have hb : Ok 2 #[Value.int .i64 ((x.1 - i : Nat) : Int), Value.int .i64 x.2] := ⟨rfl, by simp [Value.oneCell']⟩
  refine calls_x Try.func38 rfl Try.ntmps38 rfl ?_
  refine xc_gen (fun g hg => ?_)
  have s0 := (hg 0).trans arg0
  have s1 := (hg 1).trans arg1
  clear hg
  refine xc_seq (fun K hK1 => ?_)
  refine xc_region ?_
  refine x_boxA h s0 rfl ?_
  intro b2 w h
  refine x_allocA h zX rfl ?_
  intro b4 w h
  refine x_allocA h zX rfl ?_
  intro b5 w h
  refine xw_nil ?_
  refine hK1 _ _ ?_
  refine xc_gen (fun g hg => ?_)
  have s0 := (hg 0).trans (en rfl (en rfl (en rfl s0)))
  have s1 := (hg 1).trans (en rfl (en rfl (en rfl s1)))
  have s2 := (hg 2).trans (en rfl (en rfl es))
  have s4 := (hg 4).trans (en rfl es)
  have s5 := (hg 5).trans es
  clear hg
  refine xc_seq (fun K hK2 => ?_)
  have hS := h
  have hS := (hS.f0).drop
  have hS := (hS.f0).drop
  refine xc_plan 13 [(0, 2), (1, 2), (2, 1), (3, 2), (4, 2), (5, 1), (6, 2), (7, 2), (8, 2), (9, 1), (10, 2), (11, 0), (12, 0)] (by kernel_rfl) rfl (by kernel_rfl) hS ?_
  have h := h.drew
  refine xp_read (i := 0) rfl (fun W => r_move s1) rfl (fun _ _ _ hh => by first | exact bodyR_np hh | exact bodyY_np hh | exact hh) ?_
  refine xp_read (i := 1) rfl (fun W => r_fieldAddr (o' := 1) Try.underlying34 rfl Try.sizeOf3 rfl (en rfl s2) rfl) rfl (fun _ _ _ hh => by first | exact bodyR_np hh | exact bodyY_np hh | exact hh) ?_
  refine xp_load (i := 2) rfl (fun W hW => r_load hW 0 rfl Try.isAgg3 es gc1) rfl (fun _ _ _ hh => by first | exact bodyR_np hh | exact bodyY_np hh | exact hh) ?_
  refine xp_read (i := 3) rfl (fun W => r_build2 Try.underlying34 zX Try.sizeOf3 Try.sizeOf3 rfl rfl (en rfl (en rfl es)) es) rfl (fun _ _ _ hh => by first | exact bodyR_np hh | exact bodyY_np hh | exact hh) ?_
  refine xp_read (i := 4) rfl (fun W => r_fieldAddr (o' := 0) Try.underlying34 rfl Try.sizeOf3 rfl (en rfl (en rfl (en rfl (en rfl s2)))) rfl) rfl (fun _ _ _ hh => by first | exact bodyR_np hh | exact bodyY_np hh | exact hh) ?_
  refine xp_load (i := 5) rfl (fun W hW => r_load hW 0 rfl Try.isAgg3 es gc0) rfl (fun _ _ _ hh => by first | exact bodyR_np hh | exact bodyY_np hh | exact hh) ?_
  refine xp_read (i := 6) rfl (fun W => r_move (en rfl (en rfl (en rfl (en rfl (en rfl (en rfl s1))))))) rfl (fun _ _ _ hh => by first | exact bodyR_np hh | exact bodyY_np hh | exact hh) ?_
  refine xp_read (i := 7) rfl (fun W => r_sub (en rfl es) es (show _ = (((x.1 - i : Nat) : Int) : Int) from by omega) (by unfold I64; omega)) rfl (fun _ _ _ hh => by first | exact bodyR_np hh | exact bodyY_np hh | exact hh) ?_
  refine xp_read (i := 8) rfl (fun W => r_fieldAddr (o' := 1) Try.underlying34 rfl Try.sizeOf3 rfl (en rfl (en rfl (en rfl (en rfl (en rfl (en rfl (en rfl (en rfl s2)))))))) rfl) rfl (fun _ _ _ hh => by first | exact bodyR_np hh | exact bodyY_np hh | exact hh) ?_
  refine xp_load (i := 9) rfl (fun W hW => r_load hW 0 rfl Try.isAgg3 es gc1) rfl (fun _ _ _ hh => by first | exact bodyR_np hh | exact bodyY_np hh | exact hh) ?_
  refine xp_read (i := 10) rfl (fun W => r_build2 Try.underlying34 zX Try.sizeOf3 Try.sizeOf3 rfl rfl (en rfl (en rfl es)) es) rfl (fun _ _ _ hh => by first | exact bodyR_np hh | exact bodyY_np hh | exact hh) ?_
  refine xp_st (i := 11) rfl (r_storeAgg h 1 rfl Try.sizeOf34 (en rfl (en rfl (en rfl (en rfl (en rfl (en rfl (en rfl (en rfl (en rfl (en rfl (en rfl s4))))))))))) (en rfl (en rfl (en rfl (en rfl (en rfl (en rfl (en rfl es))))))) (Ok.size (by first | assumption | exact Ok.node (by assumption) | exact xOk.cells (by assumption) | exact ChOk.ok (by assumption))) (Ok.one (by first | assumption | exact Ok.node (by assumption) | exact xOk.cells (by assumption) | exact ChOk.ok (by assumption))) (by exact Nat.le_refl _)) (h.r1 (over_full rfl)) (fun _ w h => ((h.f0).drop.f0).drop) ?_
  intro w h
  refine xp_st (i := 12) rfl (r_storeAgg h 0 rfl Try.sizeOf34 (en rfl (en rfl (en rfl (en rfl (en rfl (en rfl (en rfl (en rfl (en rfl (en rfl (en rfl s5))))))))))) es (Ok.size (by first | assumption | exact Ok.node (by assumption) | exact xOk.cells (by assumption) | exact ChOk.ok (by assumption))) (Ok.one (by first | assumption | exact Ok.node (by assumption) | exact xOk.cells (by assumption) | exact ChOk.ok (by assumption))) (by exact Nat.le_refl _)) (h.r0 (over_full rfl)) (fun _ w h => ((h.f0).drop.f0).drop) ?_
  intro w h
  refine xp_nil ?_
  refine hK2 _ _ ?_
  refine xc_gen (fun g hg => ?_)
  have s0 := (hg 0).trans (en rfl (en rfl (en rfl (en rfl (en rfl (en rfl (en rfl (en rfl (en rfl (en rfl (en rfl s0)))))))))))
  have s1 := (hg 1).trans (en rfl (en rfl (en rfl (en rfl (en rfl (en rfl (en rfl (en rfl (en rfl (en rfl (en rfl s1)))))))))))
  have s2 := (hg 2).trans (en rfl (en rfl (en rfl (en rfl (en rfl (en rfl (en rfl (en rfl (en rfl (en rfl (en rfl s2)))))))))))
  have s4 := (hg 4).trans (en rfl (en rfl (en rfl (en rfl (en rfl (en rfl (en rfl (en rfl (en rfl (en rfl (en rfl s4)))))))))))
  have s5 := (hg 5).trans (en rfl (en rfl (en rfl (en rfl (en rfl (en rfl (en rfl (en rfl (en rfl (en rfl (en rfl s5)))))))))))
  clear hg
  refine xc_ret ?_
  refine bodyR_cc rfl s4 (lv_agg h 1 rfl Try.isAgg34 Try.sizeOf34 rfl) s5 (lv_agg h 0 rfl Try.isAgg34 Try.sizeOf34 rfl) ?_
  exact ⟨rfl, h.drop.drop.drop⟩
theorem meld_ok (hx : xOk x) (hy : xOk y) (h : SatL E w R) : Calls Try.prog 39 #[xV x, xV y] w (Ret fun v w' => v = .tuple #[xV (xMeld x y), .bool (xMelds x y)] ∧ SatL E w' R) := by
  unfold xOk at hx hy
  unfold xV xC
  have hz : Ok 2 #[Value.int .i64 0, Value.int .i64 0] := ⟨rfl, by simp [Value.oneCell']⟩
  have hc : Ok 2 #[Value.int .i64 ((x.1 + y.1 : Nat) : Int), Value.int .i64 x.2] := ⟨rfl, by simp [Value.oneCell']⟩
  refine calls_x Try.func39 rfl Try.ntmps39 rfl ?_
  refine xc_gen (fun g hg => ?_)
  have s0 := (hg 0).trans arg0
  have s1 := (hg 1).trans arg1
  clear hg
  refine xc_seq (fun K hK1 => ?_)
  refine xc_region ?_
  refine x_boxA h s0 rfl ?_
  intro b2 w h
  refine x_boxA h (en rfl s1) rfl ?_
  intro b3 w h
  refine x_allocA h zX rfl ?_
  intro b4 w h
  refine x_val (r_assign ec) (nd_of rfl) rfl ?_
  refine xw_nil ?_
  refine hK1 _ _ ?_
  refine xc_gen (fun g hg => ?_)
  have s0 := (hg 0).trans (en rfl (en rfl (en rfl (en rfl s0))))
  have s1 := (hg 1).trans (en rfl (en rfl (en rfl (en rfl s1))))
  have s2 := (hg 2).trans (en rfl (en rfl (en rfl es)))
  have s3 := (hg 3).trans (en rfl (en rfl es))
  have s4 := (hg 4).trans (en rfl es)
  have s5 := (hg 5).trans es
  clear hg
  refine xc_seq (fun K hK2 => ?_)
  have hS := h
  have hS := (hS.f0).drop
  refine xc_plan 15 [(0, 2), (1, 1), (2, 2), (3, 1), (4, 2), (5, 2), (6, 1), (7, 2), (8, 2), (9, 1), (10, 2), (11, 1), (12, 2), (13, 0), (14, 2)] (by kernel_rfl) rfl (by kernel_rfl) hS ?_
  have h := h.drew
  refine xp_read (i := 0) rfl (fun W => r_fieldAddr (o' := 0) Try.underlying34 rfl Try.sizeOf3 rfl s2 rfl) rfl (fun _ _ _ hh => by first | exact bodyR_np hh | exact bodyY_np hh | exact hh) ?_
  refine xp_load (i := 1) rfl (fun W hW => r_load hW 1 rfl Try.isAgg3 es gc0) rfl (fun _ _ _ hh => by first | exact bodyR_np hh | exact bodyY_np hh | exact hh) ?_
  refine xp_read (i := 2) rfl (fun W => r_fieldAddr (o' := 0) Try.underlying34 rfl Try.sizeOf3 rfl (en rfl (en rfl s3)) rfl) rfl (fun _ _ _ hh => by first | exact bodyR_np hh | exact bodyY_np hh | exact hh) ?_
  refine xp_load (i := 3) rfl (fun W hW => r_load hW 0 rfl Try.isAgg3 es gc0) rfl (fun _ _ _ hh => by first | exact bodyR_np hh | exact bodyY_np hh | exact hh) ?_
  refine xp_read (i := 4) rfl (fun W => r_add (en rfl (en rfl es)) es (show _ = (((x.1 + y.1 : Nat) : Int) : Int) from by omega) (by unfold I64; omega)) rfl (fun _ _ _ hh => by first | exact bodyR_np hh | exact bodyY_np hh | exact hh) ?_
  refine xp_read (i := 5) rfl (fun W => r_fieldAddr (o' := 1) Try.underlying34 rfl Try.sizeOf3 rfl (en rfl (en rfl (en rfl (en rfl (en rfl s2))))) rfl) rfl (fun _ _ _ hh => by first | exact bodyR_np hh | exact bodyY_np hh | exact hh) ?_
  refine xp_load (i := 6) rfl (fun W hW => r_load hW 1 rfl Try.isAgg3 es gc1) rfl (fun _ _ _ hh => by first | exact bodyR_np hh | exact bodyY_np hh | exact hh) ?_
  refine xp_read (i := 7) rfl (fun W => r_build2 Try.underlying34 zX Try.sizeOf3 Try.sizeOf3 rfl rfl (en rfl (en rfl es)) es) rfl (fun _ _ _ hh => by first | exact bodyR_np hh | exact bodyY_np hh | exact hh) ?_
  refine xp_read (i := 8) rfl (fun W => r_fieldAddr (o' := 1) Try.underlying34 rfl Try.sizeOf3 rfl (en rfl (en rfl (en rfl (en rfl (en rfl (en rfl (en rfl (en rfl s2)))))))) rfl) rfl (fun _ _ _ hh => by first | exact bodyR_np hh | exact bodyY_np hh | exact hh) ?_
  refine xp_load (i := 9) rfl (fun W hW => r_load hW 1 rfl Try.isAgg3 es gc1) rfl (fun _ _ _ hh => by first | exact bodyR_np hh | exact bodyY_np hh | exact hh) ?_
  refine xp_read (i := 10) rfl (fun W => r_fieldAddr (o' := 1) Try.underlying34 rfl Try.sizeOf3 rfl (en rfl (en rfl (en rfl (en rfl (en rfl (en rfl (en rfl (en rfl (en rfl (en rfl s3)))))))))) rfl) rfl (fun _ _ _ hh => by first | exact bodyR_np hh | exact bodyY_np hh | exact hh) ?_
  refine xp_load (i := 11) rfl (fun W hW => r_load hW 0 rfl Try.isAgg3 es gc1) rfl (fun _ _ _ hh => by first | exact bodyR_np hh | exact bodyY_np hh | exact hh) ?_
  refine xp_read (i := 12) rfl (fun W => r_eql (en rfl (en rfl es)) es rfl) rfl (fun _ _ _ hh => by first | exact bodyR_np hh | exact bodyY_np hh | exact hh) ?_
  refine xp_st (i := 13) rfl (r_storeAgg h 0 rfl Try.sizeOf34 (en rfl (en rfl (en rfl (en rfl (en rfl (en rfl (en rfl (en rfl (en rfl (en rfl (en rfl (en rfl (en rfl s4))))))))))))) (en rfl (en rfl (en rfl (en rfl (en rfl es))))) (Ok.size (by first | assumption | exact Ok.node (by assumption) | exact xOk.cells (by assumption) | exact ChOk.ok (by assumption))) (Ok.one (by first | assumption | exact Ok.node (by assumption) | exact xOk.cells (by assumption) | exact ChOk.ok (by assumption))) (by exact Nat.le_refl _)) (h.r0 (over_full rfl)) (fun _ w h => (h.f0).drop) ?_
  intro w h
  refine xp_read (i := 14) rfl (fun W => r_assign es) rfl (fun _ _ _ hh => by first | exact bodyR_np hh | exact bodyY_np hh | exact hh) ?_
  refine xp_nil ?_
  refine hK2 _ _ ?_
  refine xc_gen (fun g hg => ?_)
  have s0 := (hg 0).trans (en rfl (en rfl (en rfl (en rfl (en rfl (en rfl (en rfl (en rfl (en rfl (en rfl (en rfl (en rfl (en rfl (en rfl s0))))))))))))))
  have s1 := (hg 1).trans (en rfl (en rfl (en rfl (en rfl (en rfl (en rfl (en rfl (en rfl (en rfl (en rfl (en rfl (en rfl (en rfl (en rfl s1))))))))))))))
  have s2 := (hg 2).trans (en rfl (en rfl (en rfl (en rfl (en rfl (en rfl (en rfl (en rfl (en rfl (en rfl (en rfl (en rfl (en rfl (en rfl s2))))))))))))))
  have s3 := (hg 3).trans (en rfl (en rfl (en rfl (en rfl (en rfl (en rfl (en rfl (en rfl (en rfl (en rfl (en rfl (en rfl (en rfl (en rfl s3))))))))))))))
  have s4 := (hg 4).trans (en rfl (en rfl (en rfl (en rfl (en rfl (en rfl (en rfl (en rfl (en rfl (en rfl (en rfl (en rfl (en rfl (en rfl s4))))))))))))))
  have s5 := (hg 5).trans es
  clear hg
  refine xc_ret ?_
  refine bodyR_ct rfl s4 (lv_agg h 0 rfl Try.isAgg34 Try.sizeOf34 rfl) s5 ?_
  exact ⟨rfl, h.drop.drop.drop⟩
end
end Go.Proofs.Ytbmdbjnkkbefmaa
