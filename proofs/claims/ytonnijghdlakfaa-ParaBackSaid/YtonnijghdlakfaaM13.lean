/-
The things of this chapter's trees: sets of attributes, as slices; and the three functions that the tree is given.
-/
import Derived.Test.YtonnijghdlakfaaA1
import Derived.Test.YtonnijghdlakfaaX7
import Derived.Test.YtonnijghdlakfaaY2
namespace Go.Proofs.Ytonnijghdlakfaa
open Go Go.RowKit
abbrev X := Value
def xC (x : X) : Array Value := #[x]
abbrev xV (x : X) : Value := x
def xS (_ : X) : Nat := 1
def xM (_ : X) : Nat := 0
def xOk (x : X) : Prop := ∃ a n c, x = .slice a n c
def xCut (x : X) (_ : Nat) : X × X := (x, .slice none 0 0)
def xMeld (_ _ : X) : X := .slice none 0 0
def xMelds (_ _ : X) : Bool := false
theorem xOk.cells {x : X} (h : xOk x) : Ok 1 (xC x) := by
  obtain ⟨a, n, c, rfl⟩ := h
  exact ⟨rfl, by simp [xC, Value.oneCell']⟩
theorem xOk.one {x : X} (h : xOk x) : x.oneCell' = true := by
  obtain ⟨a, n, c, rfl⟩ := h
  rfl
theorem xV_cells {x : X} (h : xOk x) : (xV x).cells = xC x := by
  obtain ⟨a, n, c, rfl⟩ := h
  rfl
theorem xOk_nil : xOk (.slice none 0 0) := ⟨_, _, _, rfl⟩
theorem xS_cut1 {x : X} {i : Nat} (h0 : 0 < i) (h : i < xS x) : xS (xCut x i).1 = i := by unfold xS at *; omega
theorem xS_cut2 {x : X} {i : Nat} (h : i < xS x) : xS (xCut x i).2 = xS x - i := by unfold xS at *; omega
theorem xM_cut1 {x : X} {i : Nat} : xM (xCut x i).1 ≤ xM x := Nat.le_refl _
theorem xM_cut2 {x : X} {i : Nat} : xM (xCut x i).2 ≤ xM x := Nat.le_refl _
theorem xOk.cut1 {x : X} {i : Nat} (h : xOk x) (_ : i < xS x) : xOk (xCut x i).1 := h
theorem xOk.cut2 {x : X} {i : Nat} (_ : xOk x) (_ : i < xS x) : xOk (xCut x i).2 := xOk_nil
theorem xS_meld {a b : X} (h : xMelds a b = true) : xS (xMeld a b) = xS a + xS b := by cases h
theorem xM_meld {a b : X} : xM (xMeld a b) ≤ xM a + xM b := Nat.zero_le _
theorem xOk.meld {a b : X} (_ : xOk a) (_ : xOk b) (_ : xS a + xS b ≤ 1000000000000) : xOk (xMeld a b) := xOk_nil
theorem xM_le {x : X} : xM x ≤ xS x := Nat.zero_le _
abbrev fnM : Value := .func (.func 37) #[] #[]
abbrev fnC : Value := .func (.func 38) #[] #[]
abbrev fnJ : Value := .func (.func 39) #[] #[]
section
variable {E : Env} {R : List SProp} {w : World} {x y : X}
abbrev xZ : Value := .slice none 0 0
theorem zX : ∀ w, (zeroValue 38).run Try.prog w = .ok (.slice none 0 0) w := fun _ => by kernel_rfl
theorem zOk : Ok 1 xZ.cells := ⟨rfl, by simp [xZ, Value.cells, Value.oneCell']⟩
theorem measure_ok (_ : xOk x) (h : SatL E w R) : Calls Try.prog 37 #[xV x] w (Ret fun v w' => v = .tuple #[.int .i64 (xS x : Int), .int .i64 (xM x : Int)] ∧ SatL E w' R) := by
  refine calls_x Try.func37 rfl Try.ntmps37 rfl ?_
  refine xc_gen (fun g hg => ?_)
  have s0 := (hg 0).trans arg0
  clear hg
  refine xc_seq (fun K hK1 => ?_)
  refine xc_region ?_
  refine x_val (r_assign ec) (nd_of rfl) rfl ?_
  refine x_val (r_assign ec) (nd_of rfl) rfl ?_
  refine xw_nil ?_
  refine hK1 _ _ ?_
  refine xc_gen (fun g hg => ?_)
  have s2 := (hg 2).trans (en rfl es)
  have s3 := (hg 3).trans es
  clear hg
  refine xc_seq (fun K hK2 => ?_)
  refine xc_region ?_
  refine x_val (r_assign ec) (nd_of rfl) rfl ?_
  refine x_val (r_assign ec) (nd_of rfl) rfl ?_
  refine xw_nil ?_
  refine hK2 _ _ ?_
  refine xc_gen (fun g hg => ?_)
  have s2 := (hg 2).trans (en rfl es)
  have s3 := (hg 3).trans es
  clear hg
  refine xc_ret ?_
  refine bodyR_2 rfl s2 s3 ?_
  exact ⟨rfl, h⟩
theorem cut_ok {i : Nat} (_ : xOk x) (_h0 : 0 < i) (_hi : i < xS x) (h : SatL E w R) : Calls Try.prog 38 #[xV x, .int .i64 (i : Int)] w (Ret fun v w' => v = .tuple #[xV (xCut x i).1, xV (xCut x i).2] ∧ SatL E w' R) := by
  refine calls_x Try.func38 rfl Try.ntmps38 rfl ?_
  refine xc_gen (fun g hg => ?_)
  have s0 := (hg 0).trans arg0
  have s1 := (hg 1).trans arg1
  clear hg
  refine xc_seq (fun K hK1 => ?_)
  refine xc_region ?_
  refine x_val (r_assign ec) (nd_of rfl) rfl ?_
  refine x_val (r_assign ec) (nd_of rfl) rfl ?_
  refine xw_nil ?_
  refine hK1 _ _ ?_
  refine xc_gen (fun g hg => ?_)
  have s0 := (hg 0).trans (en rfl (en rfl s0))
  have s4 := (hg 4).trans (en rfl es)
  have s5 := (hg 5).trans es
  clear hg
  refine xc_seq (fun K hK2 => ?_)
  refine xc_region ?_
  refine x_val (r_move s0) (nd_of rfl) rfl ?_
  refine x_val (r_assign es) (nd_of rfl) rfl ?_
  refine x_val (r_assign ec) (nd_of rfl) rfl ?_
  refine xw_nil ?_
  refine hK2 _ _ ?_
  refine xc_gen (fun g hg => ?_)
  have s0 := (hg 0).trans (en rfl (en rfl (en rfl s0)))
  have s4 := (hg 4).trans (en rfl es)
  have s5 := (hg 5).trans es
  clear hg
  refine xc_ret ?_
  refine bodyR_2 rfl s4 s5 ?_
  exact ⟨rfl, h⟩
theorem meld_ok (_ : xOk x) (_ : xOk y) (h : SatL E w R) : Calls Try.prog 39 #[xV x, xV y] w (Ret fun v w' => v = .tuple #[xV (xMeld x y), .bool (xMelds x y)] ∧ SatL E w' R) := by
  refine calls_x Try.func39 rfl Try.ntmps39 rfl ?_
  refine xc_gen (fun g hg => ?_)
  have s0 := (hg 0).trans arg0
  have s1 := (hg 1).trans arg1
  clear hg
  refine xc_seq (fun K hK1 => ?_)
  refine xc_region ?_
  refine x_val (r_assign ec) (nd_of rfl) rfl ?_
  refine x_val (r_assign ec) (nd_of rfl) rfl ?_
  refine xw_nil ?_
  refine hK1 _ _ ?_
  refine xc_gen (fun g hg => ?_)
  have s4 := (hg 4).trans (en rfl es)
  have s5 := (hg 5).trans es
  clear hg
  refine xc_seq (fun K hK2 => ?_)
  refine xc_region ?_
  refine x_val (r_assign ec) (nd_of rfl) rfl ?_
  refine x_val (r_assign ec) (nd_of rfl) rfl ?_
  refine xw_nil ?_
  refine hK2 _ _ ?_
  refine xc_gen (fun g hg => ?_)
  have s4 := (hg 4).trans (en rfl es)
  have s5 := (hg 5).trans es
  clear hg
  refine xc_ret ?_
  refine bodyR_2 rfl s4 s5 ?_
  exact ⟨rfl, h⟩
end
end Go.Proofs.Ytonnijghdlakfaa
