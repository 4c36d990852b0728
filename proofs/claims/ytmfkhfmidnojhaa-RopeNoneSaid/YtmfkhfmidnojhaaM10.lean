/-
The things of this chapter's trees: chunks; and the three functions that the tree is given.
-/
import Derived.Test.YtmfkhfmidnojhaaA1
import Derived.Test.YtmfkhfmidnojhaaX7
import Derived.Test.YtmfkhfmidnojhaaY2
import Derived.Test.YtmfkhfmidnojhaaH5
namespace Go.Proofs.Ytmfkhfmidnojhaa
open Go Go.RowKit
abbrev X := List Int
def xC (x : X) : Array Value := chC x
abbrev xV (x : X) : Value := .agg (xC x)
def xS (x : X) : Nat := x.length
def xM (x : X) : Nat := x.count 10
def xOk (x : X) : Prop := ChOk x
def xCut (x : X) (i : Nat) : X × X := (x.take i, x.drop i)
def xMeld (a b : X) : X := if a.length + b.length ≤ 32 then a ++ b else []
def xMelds (a b : X) : Bool := decide (a.length + b.length ≤ 32)
theorem xOk.ck {x : X} (h : xOk x) : ChOk x := h
theorem xOk.cells {x : X} (h : xOk x) : Ok 33 (xC x) := h.ck.ok
theorem xV_cells {x : X} (_ : xOk x) : (xV x).cells = xC x := rfl
theorem xS_cut1 {x : X} {i : Nat} (_ : 0 < i) (h : i < xS x) : xS (xCut x i).1 = i := by unfold xS xCut at *; simp; omega
theorem xS_cut2 {x : X} {i : Nat} (_ : i < xS x) : xS (xCut x i).2 = xS x - i := by unfold xS xCut at *; simp
theorem xM_cut1 {x : X} {i : Nat} : xM (xCut x i).1 ≤ xM x := (List.take_sublist i x).count_le 10
theorem xM_cut2 {x : X} {i : Nat} : xM (xCut x i).2 ≤ xM x := (List.drop_sublist i x).count_le 10
theorem xOk.cut1 {x : X} {i : Nat} (h : xOk x) (_ : i < xS x) : xOk (xCut x i).1 := h.ck.take i
theorem xOk.cut2 {x : X} {i : Nat} (h : xOk x) (_ : i < xS x) : xOk (xCut x i).2 := h.ck.drop i
theorem xS_meld {a b : X} (h : xMelds a b = true) : xS (xMeld a b) = xS a + xS b := by
  have h1 := of_decide_eq_true h
  unfold xS xMeld
  rw [if_pos h1, List.length_append]
theorem xM_meld {a b : X} : xM (xMeld a b) ≤ xM a + xM b := by
  unfold xM xMeld
  split
  · rw [List.count_append]; exact Nat.le_refl _
  · simp
theorem xOk.meld {a b : X} (ha : xOk a) (hb : xOk b) (_ : xS a + xS b ≤ 1000000000000) : xOk (xMeld a b) := by
  unfold xMeld
  split
  · rename_i h; exact ha.ck.app hb.ck h
  · exact chOk_nil
theorem xM_le {x : X} : xM x ≤ xS x := List.count_le_length
abbrev fnM : Value := .func (.func 46) #[] #[]
abbrev fnC : Value := .func (.func 49) #[] #[]
abbrev fnJ : Value := .func (.func 51) #[] #[]
section
variable {E : Env} {R : List SProp} {w : World} {x y : X}
abbrev xZ : Value := .agg (chC [])
theorem zX : ∀ w, (zeroValue 58).run Try.prog w = .ok (.agg (chC [])) w := zC
theorem zOk : Ok 33 xZ.cells := chOk_nil.ok
theorem measure_ok (hx : xOk x) (h : SatL E w R) : Calls Try.prog 46 #[xV x] w (Ret fun v w' => v = .tuple #[.int .i64 (xS x : Int), .int .i64 (xM x : Int)] ∧ SatL E w' R) := by
  have hok := hx.ck
  unfold xV xC at *
  refine calls_x Try.func46 rfl Try.ntmps46 rfl ?_
  refine xc_gen (fun g hg => ?_)
  have s0 := (hg 0).trans arg0
  clear hg
  refine xc_seq (fun K hK1 => ?_)
  refine xc_region ?_
  refine x_boxA h s0 rfl ?_
  intro b1 w h
  refine x_val (r_assign ec) (nd_of rfl) rfl ?_
  refine x_val (r_assign ec) (nd_of rfl) rfl ?_
  refine xw_nil ?_
  refine hK1 _ _ ?_
  refine xc_gen (fun g hg => ?_)
  have s0 := (hg 0).trans (en rfl (en rfl (en rfl s0)))
  have s1 := (hg 1).trans (en rfl (en rfl es))
  have s2 := (hg 2).trans (en rfl es)
  have s3 := (hg 3).trans es
  clear hg
  refine xc_seq (fun K hK2 => ?_)
  refine xc_plan 6 [(0, 1), (2, 1), (1, 0), (3, 0), (4, 2), (5, 2)] (by kernel_rfl) rfl (by kernel_rfl) h ?_
  have h := h.drew
  refine xp_load (i := 0) rfl (fun W hW => r_loadAgg hW 0 rfl Try.isAgg58 Try.sizeOf58 s1 (Ok.le (by first | assumption | exact Ok.node (by assumption) | exact xOk.cells (by assumption) | exact ChOk.ok (by assumption))) (ext_full (Ok.size (by first | assumption | exact Ok.node (by assumption) | exact xOk.cells (by assumption) | exact ChOk.ok (by assumption))))) rfl (fun _ _ _ hh => by first | exact bodyR_np hh | exact bodyY_np hh | exact hh) ?_
  refine xp_load (i := 2) rfl (fun W hW => r_loadAgg hW 0 rfl Try.isAgg58 Try.sizeOf58 (en rfl s1) (Ok.le (by first | assumption | exact Ok.node (by assumption) | exact xOk.cells (by assumption) | exact ChOk.ok (by assumption))) (ext_full (Ok.size (by first | assumption | exact Ok.node (by assumption) | exact xOk.cells (by assumption) | exact ChOk.ok (by assumption))))) rfl (fun _ _ _ hh => by first | exact bodyR_np hh | exact bodyY_np hh | exact hh) ?_
  refine xp_enter (i := 1) rfl (r_call Try.call47 (.cons (en rfl es) .nil)) rfl (len_ok hok h) ?_
  rintro _ w ⟨rfl, h⟩
  refine ⟨(fun _ => h), ?_⟩
  refine xp_enter (i := 3) rfl (r_call Try.call48 (.cons (en rfl es) .nil)) rfl (newlines_ok hok h) ?_
  rintro _ w ⟨rfl, h⟩
  refine ⟨(fun _ => h), ?_⟩
  refine xp_read (i := 4) rfl (fun W => r_assign (en rfl es)) rfl (fun _ _ _ hh => by first | exact bodyR_np hh | exact bodyY_np hh | exact hh) ?_
  refine xp_read (i := 5) rfl (fun W => r_assign (en rfl es)) rfl (fun _ _ _ hh => by first | exact bodyR_np hh | exact bodyY_np hh | exact hh) ?_
  refine xp_nil ?_
  refine hK2 _ _ ?_
  refine xc_gen (fun g hg => ?_)
  have s0 := (hg 0).trans (en rfl (en rfl (en rfl (en rfl (en rfl (en rfl s0))))))
  have s1 := (hg 1).trans (en rfl (en rfl (en rfl (en rfl (en rfl (en rfl s1))))))
  have s2 := (hg 2).trans (en rfl es)
  have s3 := (hg 3).trans es
  clear hg
  refine xc_ret ?_
  refine bodyR_2 rfl s2 s3 ?_
  exact ⟨rfl, h.drop⟩
theorem cut_ok {i : Nat} (hx : xOk x) (_h0 : 0 < i) (hi : i < xS x) (h : SatL E w R) : Calls Try.prog 49 #[xV x, .int .i64 (i : Int)] w (Ret fun v w' => v = .tuple #[xV (xCut x i).1, xV (xCut x i).2] ∧ SatL E w' R) := by
  have hok := hx.ck
  have hnil := chOk_nil
  have ha := hok.take i
  have hb := hok.drop i
  unfold xS at hi
  unfold xV xC at *
  refine calls_x Try.func49 rfl Try.ntmps49 rfl ?_
  refine xc_gen (fun g hg => ?_)
  have s0 := (hg 0).trans arg0
  have s1 := (hg 1).trans arg1
  clear hg
  refine xc_seq (fun K hK1 => ?_)
  refine xc_region ?_
  refine x_boxA h s0 rfl ?_
  intro b2 w h
  refine x_allocA h zX rfl ?_
  intro b4 w h
  refine x_allocA h zX rfl ?_
  intro b5 w h
  refine xw_nil ?_
  refine hK1 _ _ ?_
  refine xc_gen (fun g hg => ?_)
  have s0 := (hg 0).trans (en rfl (en rfl (en rfl s0)))
  have s1 := (hg 1).trans (en rfl (en rfl (en rfl s1)))
  have s2 := (hg 2).trans (en rfl (en rfl es))
  have s4 := (hg 4).trans (en rfl es)
  have s5 := (hg 5).trans es
  clear hg
  refine xc_seq (fun K hK2 => ?_)
  refine xc_region ?_
  refine x_val (r_loadAgg h 2 rfl Try.isAgg58 Try.sizeOf58 s2 (Ok.le (by first | assumption | exact Ok.node (by assumption) | exact xOk.cells (by assumption) | exact ChOk.ok (by assumption))) (ext_full (Ok.size (by first | assumption | exact Ok.node (by assumption) | exact xOk.cells (by assumption) | exact ChOk.ok (by assumption))))) (nd_of rfl) rfl ?_
  refine x_val (r_move (en rfl s1)) (nd_of rfl) rfl ?_
  refine x_enter (r_call Try.call50 (.cons (en rfl es) (.cons es .nil))) (nd_of rfl) rfl (split_ok (i := i) hok (by omega) h) ?_
  rintro _ w ⟨rfl, h⟩
  refine x_val (r_move es) (nd_of rfl) rfl ?_
  refine x_val (r_extract es gc0) (nd_of rfl) rfl ?_
  refine x_val (r_extract (en rfl es) gc1) (nd_of rfl) rfl ?_
  refine x_val (r_extract (en rfl (en rfl es)) gc2) (nd_of rfl) rfl ?_
  refine x_allocA h zX rfl ?_
  intro b6 w h
  refine x_allocA h zX rfl ?_
  intro b7 w h
  refine x_st (r_storeAgg h 1 rfl Try.sizeOf58 (en rfl es) (en rfl (en rfl (en rfl (en rfl es)))) (Ok.size (by first | assumption | exact Ok.node (by assumption) | exact xOk.cells (by assumption) | exact ChOk.ok (by assumption))) (Ok.one (by first | assumption | exact Ok.node (by assumption) | exact xOk.cells (by assumption) | exact ChOk.ok (by assumption))) (Ok.le (by first | assumption | exact Ok.node (by assumption) | exact xOk.cells (by assumption) | exact ChOk.ok (by assumption)))) rfl (h.r1 (over_full (Ok.size (by first | assumption | exact Ok.node (by assumption) | exact xOk.cells (by assumption) | exact ChOk.ok (by assumption))))) ?_
  intro w h
  refine x_st (r_storeAgg h 0 rfl Try.sizeOf58 es (en rfl (en rfl (en rfl es))) (Ok.size (by first | assumption | exact Ok.node (by assumption) | exact xOk.cells (by assumption) | exact ChOk.ok (by assumption))) (Ok.one (by first | assumption | exact Ok.node (by assumption) | exact xOk.cells (by assumption) | exact ChOk.ok (by assumption))) (Ok.le (by first | assumption | exact Ok.node (by assumption) | exact xOk.cells (by assumption) | exact ChOk.ok (by assumption)))) rfl (h.r0 (over_full (Ok.size (by first | assumption | exact Ok.node (by assumption) | exact xOk.cells (by assumption) | exact ChOk.ok (by assumption))))) ?_
  intro w h
  refine x_val (r_assign (en rfl (en rfl es))) (nd_of rfl) rfl ?_
  refine xw_nil ?_
  refine hK2 _ _ ?_
  refine xc_gen (fun g hg => ?_)
  have s0 := (hg 0).trans (en rfl (en rfl (en rfl (en rfl (en rfl (en rfl (en rfl (en rfl (en rfl (en rfl s0))))))))))
  have s1 := (hg 1).trans (en rfl (en rfl (en rfl (en rfl (en rfl (en rfl (en rfl (en rfl (en rfl (en rfl s1))))))))))
  have s2 := (hg 2).trans (en rfl (en rfl (en rfl (en rfl (en rfl (en rfl (en rfl (en rfl (en rfl (en rfl s2))))))))))
  have s4 := (hg 4).trans (en rfl (en rfl (en rfl (en rfl (en rfl (en rfl (en rfl (en rfl (en rfl (en rfl s4))))))))))
  have s5 := (hg 5).trans (en rfl (en rfl (en rfl (en rfl (en rfl (en rfl (en rfl (en rfl (en rfl (en rfl s5))))))))))
  have s6 := (hg 6).trans (en rfl (en rfl es))
  have s7 := (hg 7).trans (en rfl es)
  clear hg
  refine xc_seq (fun K hK3 => ?_)
  have hS := h
  have hS := (hS.f2).drop
  have hS := (hS.f2).drop
  have hS := (hS.f2).drop
  refine xc_plan 4 [(0, 1), (1, 1), (2, 0), (3, 0)] (by kernel_rfl) rfl (by kernel_rfl) hS ?_
  have h := h.drew
  refine xp_load (i := 0) rfl (fun W hW => r_loadAgg hW 1 rfl Try.isAgg58 Try.sizeOf58 s6 (Ok.le (by first | assumption | exact Ok.node (by assumption) | exact xOk.cells (by assumption) | exact ChOk.ok (by assumption))) (ext_full (Ok.size (by first | assumption | exact Ok.node (by assumption) | exact xOk.cells (by assumption) | exact ChOk.ok (by assumption))))) rfl (fun _ _ _ hh => by first | exact bodyR_np hh | exact bodyY_np hh | exact hh) ?_
  refine xp_load (i := 1) rfl (fun W hW => r_loadAgg hW 0 rfl Try.isAgg58 Try.sizeOf58 (en rfl s7) (Ok.le (by first | assumption | exact Ok.node (by assumption) | exact xOk.cells (by assumption) | exact ChOk.ok (by assumption))) (ext_full (Ok.size (by first | assumption | exact Ok.node (by assumption) | exact xOk.cells (by assumption) | exact ChOk.ok (by assumption))))) rfl (fun _ _ _ hh => by first | exact bodyR_np hh | exact bodyY_np hh | exact hh) ?_
  refine xp_st (i := 2) rfl (r_storeAgg h 3 rfl Try.sizeOf58 (en rfl (en rfl s4)) (en rfl es) (Ok.size (by first | assumption | exact Ok.node (by assumption) | exact xOk.cells (by assumption) | exact ChOk.ok (by assumption))) (Ok.one (by first | assumption | exact Ok.node (by assumption) | exact xOk.cells (by assumption) | exact ChOk.ok (by assumption))) (Ok.le (by first | assumption | exact Ok.node (by assumption) | exact xOk.cells (by assumption) | exact ChOk.ok (by assumption)))) (h.r3 (over_full (Ok.size (by first | assumption | exact Ok.node (by assumption) | exact xOk.cells (by assumption) | exact ChOk.ok (by assumption))))) (fun _ w h => (((h.f2).drop.f2).drop.f2).drop) ?_
  intro w h
  refine xp_st (i := 3) rfl (r_storeAgg h 2 rfl Try.sizeOf58 (en rfl (en rfl s5)) es (Ok.size (by first | assumption | exact Ok.node (by assumption) | exact xOk.cells (by assumption) | exact ChOk.ok (by assumption))) (Ok.one (by first | assumption | exact Ok.node (by assumption) | exact xOk.cells (by assumption) | exact ChOk.ok (by assumption))) (Ok.le (by first | assumption | exact Ok.node (by assumption) | exact xOk.cells (by assumption) | exact ChOk.ok (by assumption)))) (h.r2 (over_full (Ok.size (by first | assumption | exact Ok.node (by assumption) | exact xOk.cells (by assumption) | exact ChOk.ok (by assumption))))) (fun _ w h => (((h.f2).drop.f2).drop.f2).drop) ?_
  intro w h
  refine xp_nil ?_
  refine hK3 _ _ ?_
  refine xc_gen (fun g hg => ?_)
  have s0 := (hg 0).trans (en rfl (en rfl s0))
  have s1 := (hg 1).trans (en rfl (en rfl s1))
  have s2 := (hg 2).trans (en rfl (en rfl s2))
  have s4 := (hg 4).trans (en rfl (en rfl s4))
  have s5 := (hg 5).trans (en rfl (en rfl s5))
  have s6 := (hg 6).trans (en rfl (en rfl s6))
  have s7 := (hg 7).trans (en rfl (en rfl s7))
  clear hg
  refine xc_ret ?_
  refine bodyR_cc rfl s4 (lv_agg h 3 rfl Try.isAgg58 Try.sizeOf58 (Ok.size (by first | assumption | exact Ok.node (by assumption) | exact xOk.cells (by assumption) | exact ChOk.ok (by assumption)))) s5 (lv_agg h 2 rfl Try.isAgg58 Try.sizeOf58 (Ok.size (by first | assumption | exact Ok.node (by assumption) | exact xOk.cells (by assumption) | exact ChOk.ok (by assumption)))) ?_
  exact ⟨rfl, h.drop.drop.drop.drop.drop⟩
theorem meld_ok (hx : xOk x) (hy : xOk y) (h : SatL E w R) : Calls Try.prog 51 #[xV x, xV y] w (Ret fun v w' => v = .tuple #[xV (xMeld x y), .bool (xMelds x y)] ∧ SatL E w' R) := by
  have hox := hx.ck
  have hoy := hy.ck
  have hnil := chOk_nil
  unfold xV xC xMeld xMelds at *
  rcases Nat.lt_or_ge 32 (x.length + y.length) with hl | hl
  · rw [if_neg (by omega), decide_eq_false (by omega)]
    refine calls_x Try.func51 rfl Try.ntmps51 rfl ?_
    refine xc_gen (fun g hg => ?_)
    have s0 := (hg 0).trans arg0
    have s1 := (hg 1).trans arg1
    clear hg
    refine xc_seq (fun K hK1 => ?_)
    refine xc_region ?_
    refine x_boxA h s0 rfl ?_
    intro b2 w h
    refine x_boxA h (en rfl s1) rfl ?_
    intro b3 w h
    refine x_allocA h zX rfl ?_
    intro b4 w h
    refine x_val (r_assign ec) (nd_of rfl) rfl ?_
    refine xw_nil ?_
    refine hK1 _ _ ?_
    refine xc_gen (fun g hg => ?_)
    have s0 := (hg 0).trans (en rfl (en rfl (en rfl (en rfl s0))))
    have s1 := (hg 1).trans (en rfl (en rfl (en rfl (en rfl s1))))
    have s2 := (hg 2).trans (en rfl (en rfl (en rfl es)))
    have s3 := (hg 3).trans (en rfl (en rfl es))
    have s4 := (hg 4).trans (en rfl es)
    have s5 := (hg 5).trans es
    clear hg
    refine xc_seq (fun K hK2 => ?_)
    refine xc_region ?_
    refine x_val (r_loadAgg h 2 rfl Try.isAgg58 Try.sizeOf58 s2 (Ok.le (by first | assumption | exact Ok.node (by assumption) | exact xOk.cells (by assumption) | exact ChOk.ok (by assumption))) (ext_full (Ok.size (by first | assumption | exact Ok.node (by assumption) | exact xOk.cells (by assumption) | exact ChOk.ok (by assumption))))) (nd_of rfl) rfl ?_
    refine x_val (r_loadAgg h 1 rfl Try.isAgg58 Try.sizeOf58 (en rfl s3) (Ok.le (by first | assumption | exact Ok.node (by assumption) | exact xOk.cells (by assumption) | exact ChOk.ok (by assumption))) (ext_full (Ok.size (by first | assumption | exact Ok.node (by assumption) | exact xOk.cells (by assumption) | exact ChOk.ok (by assumption))))) (nd_of rfl) rfl ?_
    refine x_enter (r_call Try.call52 (.cons (en rfl es) (.cons es .nil))) (nd_of rfl) rfl (join_long hox hoy hl h) ?_
    rintro _ w ⟨rfl, h⟩
    refine x_val (r_move es) (nd_of rfl) rfl ?_
    refine x_val (r_extract es gc0) (nd_of rfl) rfl ?_
    refine x_val (r_extract (en rfl es) gc1) (nd_of rfl) rfl ?_
    refine x_declA h Try.zeroValue58 Try.sizeOf58 rfl (en rfl (en rfl es)) (by first | assumption | exact Ok.node (by assumption) | exact xOk.cells (by assumption) | exact ChOk.ok (by assumption)) rfl ?_
    intro b6 w h
    refine x_val (r_assign (en rfl es)) (nd_of rfl) rfl ?_
    refine xw_nil ?_
    refine hK2 _ _ ?_
    refine xc_gen (fun g hg => ?_)
    have s0 := (hg 0).trans (en rfl (en rfl (en rfl (en rfl (en rfl (en rfl (en rfl (en rfl s0))))))))
    have s1 := (hg 1).trans (en rfl (en rfl (en rfl (en rfl (en rfl (en rfl (en rfl (en rfl s1))))))))
    have s2 := (hg 2).trans (en rfl (en rfl (en rfl (en rfl (en rfl (en rfl (en rfl (en rfl s2))))))))
    have s3 := (hg 3).trans (en rfl (en rfl (en rfl (en rfl (en rfl (en rfl (en rfl (en rfl s3))))))))
    have s4 := (hg 4).trans (en rfl (en rfl (en rfl (en rfl (en rfl (en rfl (en rfl (en rfl s4))))))))
    have s5 := (hg 5).trans (en rfl (en rfl (en rfl (en rfl (en rfl (en rfl (en rfl (en rfl s5))))))))
    have s6 := (hg 6).trans (en rfl es)
    have s7 := (hg 7).trans es
    clear hg
    refine xc_seq (fun K hK3 => ?_)
    refine xc_region ?_
    refine x_val (r_loadAgg h 0 rfl Try.isAgg58 Try.sizeOf58 s6 (Ok.le (by first | assumption | exact Ok.node (by assumption) | exact xOk.cells (by assumption) | exact ChOk.ok (by assumption))) (ext_full (Ok.size (by first | assumption | exact Ok.node (by assumption) | exact xOk.cells (by assumption) | exact ChOk.ok (by assumption))))) (nd_of rfl) rfl ?_
    refine x_val (r_move (en rfl s7)) (nd_of rfl) rfl ?_
    refine x_val (r_eql es ec (r := false) rfl) (nd_of rfl) rfl ?_
    refine x_st (r_storeAgg h 1 rfl Try.sizeOf58 (en rfl (en rfl (en rfl s4))) (en rfl (en rfl es)) (Ok.size (by first | assumption | exact Ok.node (by assumption) | exact xOk.cells (by assumption) | exact ChOk.ok (by assumption))) (Ok.one (by first | assumption | exact Ok.node (by assumption) | exact xOk.cells (by assumption) | exact ChOk.ok (by assumption))) (Ok.le (by first | assumption | exact Ok.node (by assumption) | exact xOk.cells (by assumption) | exact ChOk.ok (by assumption)))) rfl (h.r1 (over_full (Ok.size (by first | assumption | exact Ok.node (by assumption) | exact xOk.cells (by assumption) | exact ChOk.ok (by assumption))))) ?_
    intro w h
    refine x_val (r_assign es) (nd_of rfl) rfl ?_
    refine xw_nil ?_
    refine hK3 _ _ ?_
    refine xc_gen (fun g hg => ?_)
    have s0 := (hg 0).trans (en rfl (en rfl (en rfl (en rfl s0))))
    have s1 := (hg 1).trans (en rfl (en rfl (en rfl (en rfl s1))))
    have s2 := (hg 2).trans (en rfl (en rfl (en rfl (en rfl s2))))
    have s3 := (hg 3).trans (en rfl (en rfl (en rfl (en rfl s3))))
    have s4 := (hg 4).trans (en rfl (en rfl (en rfl (en rfl s4))))
    have s5 := (hg 5).trans es
    have s6 := (hg 6).trans (en rfl (en rfl (en rfl (en rfl s6))))
    have s7 := (hg 7).trans (en rfl (en rfl (en rfl (en rfl s7))))
    clear hg
    refine xc_ret ?_
    refine bodyR_ct rfl s4 (lv_agg h 1 rfl Try.isAgg58 Try.sizeOf58 (Ok.size (by first | assumption | exact Ok.node (by assumption) | exact xOk.cells (by assumption) | exact ChOk.ok (by assumption)))) s5 ?_
    exact ⟨rfl, h.drop.drop.drop.drop⟩
  · rw [if_pos hl, decide_eq_true hl]
    have hoxy := hox.app hoy hl
    refine calls_x Try.func51 rfl Try.ntmps51 rfl ?_
    refine xc_gen (fun g hg => ?_)
    have s0 := (hg 0).trans arg0
    have s1 := (hg 1).trans arg1
    clear hg
    refine xc_seq (fun K hK1 => ?_)
    refine xc_region ?_
    refine x_boxA h s0 rfl ?_
    intro b2 w h
    refine x_boxA h (en rfl s1) rfl ?_
    intro b3 w h
    refine x_allocA h zX rfl ?_
    intro b4 w h
    refine x_val (r_assign ec) (nd_of rfl) rfl ?_
    refine xw_nil ?_
    refine hK1 _ _ ?_
    refine xc_gen (fun g hg => ?_)
    have s0 := (hg 0).trans (en rfl (en rfl (en rfl (en rfl s0))))
    have s1 := (hg 1).trans (en rfl (en rfl (en rfl (en rfl s1))))
    have s2 := (hg 2).trans (en rfl (en rfl (en rfl es)))
    have s3 := (hg 3).trans (en rfl (en rfl es))
    have s4 := (hg 4).trans (en rfl es)
    have s5 := (hg 5).trans es
    clear hg
    refine xc_seq (fun K hK2 => ?_)
    refine xc_region ?_
    refine x_val (r_loadAgg h 2 rfl Try.isAgg58 Try.sizeOf58 s2 (Ok.le (by first | assumption | exact Ok.node (by assumption) | exact xOk.cells (by assumption) | exact ChOk.ok (by assumption))) (ext_full (Ok.size (by first | assumption | exact Ok.node (by assumption) | exact xOk.cells (by assumption) | exact ChOk.ok (by assumption))))) (nd_of rfl) rfl ?_
    refine x_val (r_loadAgg h 1 rfl Try.isAgg58 Try.sizeOf58 (en rfl s3) (Ok.le (by first | assumption | exact Ok.node (by assumption) | exact xOk.cells (by assumption) | exact ChOk.ok (by assumption))) (ext_full (Ok.size (by first | assumption | exact Ok.node (by assumption) | exact xOk.cells (by assumption) | exact ChOk.ok (by assumption))))) (nd_of rfl) rfl ?_
    refine x_enter (r_call Try.call52 (.cons (en rfl es) (.cons es .nil))) (nd_of rfl) rfl (join_ok hox hoy hl h) ?_
    rintro _ w ⟨rfl, h⟩
    refine x_val (r_move es) (nd_of rfl) rfl ?_
    refine x_val (r_extract es gc0) (nd_of rfl) rfl ?_
    refine x_val (r_extract (en rfl es) gc1) (nd_of rfl) rfl ?_
    refine x_declA h Try.zeroValue58 Try.sizeOf58 rfl (en rfl (en rfl es)) (by first | assumption | exact Ok.node (by assumption) | exact xOk.cells (by assumption) | exact ChOk.ok (by assumption)) rfl ?_
    intro b6 w h
    refine x_val (r_assign (en rfl es)) (nd_of rfl) rfl ?_
    refine xw_nil ?_
    refine hK2 _ _ ?_
    refine xc_gen (fun g hg => ?_)
    have s0 := (hg 0).trans (en rfl (en rfl (en rfl (en rfl (en rfl (en rfl (en rfl (en rfl s0))))))))
    have s1 := (hg 1).trans (en rfl (en rfl (en rfl (en rfl (en rfl (en rfl (en rfl (en rfl s1))))))))
    have s2 := (hg 2).trans (en rfl (en rfl (en rfl (en rfl (en rfl (en rfl (en rfl (en rfl s2))))))))
    have s3 := (hg 3).trans (en rfl (en rfl (en rfl (en rfl (en rfl (en rfl (en rfl (en rfl s3))))))))
    have s4 := (hg 4).trans (en rfl (en rfl (en rfl (en rfl (en rfl (en rfl (en rfl (en rfl s4))))))))
    have s5 := (hg 5).trans (en rfl (en rfl (en rfl (en rfl (en rfl (en rfl (en rfl (en rfl s5))))))))
    have s6 := (hg 6).trans (en rfl es)
    have s7 := (hg 7).trans es
    clear hg
    refine xc_seq (fun K hK3 => ?_)
    refine xc_region ?_
    refine x_val (r_loadAgg h 0 rfl Try.isAgg58 Try.sizeOf58 s6 (Ok.le (by first | assumption | exact Ok.node (by assumption) | exact xOk.cells (by assumption) | exact ChOk.ok (by assumption))) (ext_full (Ok.size (by first | assumption | exact Ok.node (by assumption) | exact xOk.cells (by assumption) | exact ChOk.ok (by assumption))))) (nd_of rfl) rfl ?_
    refine x_val (r_move (en rfl s7)) (nd_of rfl) rfl ?_
    refine x_val (r_eql es ec (r := true) rfl) (nd_of rfl) rfl ?_
    refine x_st (r_storeAgg h 1 rfl Try.sizeOf58 (en rfl (en rfl (en rfl s4))) (en rfl (en rfl es)) (Ok.size (by first | assumption | exact Ok.node (by assumption) | exact xOk.cells (by assumption) | exact ChOk.ok (by assumption))) (Ok.one (by first | assumption | exact Ok.node (by assumption) | exact xOk.cells (by assumption) | exact ChOk.ok (by assumption))) (Ok.le (by first | assumption | exact Ok.node (by assumption) | exact xOk.cells (by assumption) | exact ChOk.ok (by assumption)))) rfl (h.r1 (over_full (Ok.size (by first | assumption | exact Ok.node (by assumption) | exact xOk.cells (by assumption) | exact ChOk.ok (by assumption))))) ?_
    intro w h
    refine x_val (r_assign es) (nd_of rfl) rfl ?_
    refine xw_nil ?_
    refine hK3 _ _ ?_
    refine xc_gen (fun g hg => ?_)
    have s0 := (hg 0).trans (en rfl (en rfl (en rfl (en rfl s0))))
    have s1 := (hg 1).trans (en rfl (en rfl (en rfl (en rfl s1))))
    have s2 := (hg 2).trans (en rfl (en rfl (en rfl (en rfl s2))))
    have s3 := (hg 3).trans (en rfl (en rfl (en rfl (en rfl s3))))
    have s4 := (hg 4).trans (en rfl (en rfl (en rfl (en rfl s4))))
    have s5 := (hg 5).trans es
    have s6 := (hg 6).trans (en rfl (en rfl (en rfl (en rfl s6))))
    have s7 := (hg 7).trans (en rfl (en rfl (en rfl (en rfl s7))))
    clear hg
    refine xc_ret ?_
    refine bodyR_ct rfl s4 (lv_agg h 1 rfl Try.isAgg58 Try.sizeOf58 (Ok.size (by first | assumption | exact Ok.node (by assumption) | exact xOk.cells (by assumption) | exact ChOk.ok (by assumption)))) s5 ?_
    exact ⟨rfl, h.drop.drop.drop.drop⟩
end
end Go.Proofs.Ytmfkhfmidnojhaa
