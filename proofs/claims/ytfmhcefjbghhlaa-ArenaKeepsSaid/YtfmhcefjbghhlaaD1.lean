/-
The reference's arena: Has, Drop, Len, Take.
-/
import Derived.Test.YtfmhcefjbghhlaaC2
namespace Go.Proofs.Ytfmhcefjbghhlaa
open Go Go.RowKit
def xsC (pl : List (Option Int)) : List Value := pl.map fun o => Value.int .i64 (o.getD 0)
def tkC (pl : List (Option Int)) : List Value := pl.map fun o => Value.bool o.isSome
def RefA (b : Nat) (pl : List (Option Int)) (fr : List Nat) : SProp := sex fun xs => sex fun ts => sex fun fs =>
  star (Cells b #[xs, ts, fs] 51) (star (Row 2 1 xs pl.length (xsC pl)) (star (Row 4 1 ts pl.length (tkC pl)) (Row 3 1 fs fr.length (frC fr))))
section
variable {E : Env} {R : List SProp} {w : World} {b i : Nat} {pl : List (Option Int)} {fr : List Nat} {x : Int}
theorem SatL.openRef (h : SatL E w (RefA b pl fr :: R)) : ∃ xs ts fs, SatL E w (Cells b #[xs, ts, fs] 51 :: Row 2 1 xs pl.length (xsC pl) :: Row 4 1 ts pl.length (tkC pl) :: Row 3 1 fs fr.length (frC fr) :: R) := by
  obtain ⟨xs, h⟩ := h.openEx
  obtain ⟨ts, h⟩ := h.openEx
  obtain ⟨fs, h⟩ := h.openEx
  exact ⟨xs, ts, fs, (((h.open.f1).open.f1).open.f2).f3⟩
theorem SatL.closeRef {xs ts fs : Value} (h : SatL E w (Cells b #[xs, ts, fs] 51 :: Row 2 1 xs pl.length (xsC pl) :: Row 4 1 ts pl.length (tkC pl) :: Row 3 1 fs fr.length (frC fr) :: R)) : SatL E w (RefA b pl fr :: R) :=
  ((((((((h.f3).f3).close).f2).close).f1).close).closeEx fs |>.closeEx ts |>.closeEx xs)
theorem tkC_get {i : Nat} {o : Option Int} (h : pl[i]? = some o) : (tkC pl)[i]? = some (.bool o.isSome) := by simp [tkC, h]
theorem xsC_get {i : Nat} {o : Option Int} (h : pl[i]? = some o) : (xsC pl)[i]? = some (.int .i64 (o.getD 0)) := by simp [xsC, h]
theorem has_in (hi : i < pl.length) (h : SatL E w (RefA b pl fr :: R)) :
    Calls Try.prog 21 #[.pointer (some ⟨b, 0, none⟩), .int .i64 (i : Int)] w (Ret fun v w' => v = .bool (pl[i]?.bind id).isSome ∧ SatL E w' (RefA b pl fr :: R)) := by
  obtain ⟨o, ho⟩ : ∃ o, pl[i]? = some o := ⟨_, List.getElem?_eq_getElem hi⟩
  rw [ho]
  obtain ⟨xs, ts, fs, h⟩ := h.openRef
  obtain ⟨gx, cx, rfl, _, _⟩ := (h.f1).rowVal
  obtain ⟨gt, ct, cur, hr, h'⟩ := (h.f2).openRow (by omega)
  clear h
  obtain rfl := hr.val
  have h := h'
  refine calls_x Try.func21 rfl Try.ntmps21 rfl ?_
  refine xc_gen (fun g hg => ?_)
  have s0 := (hg 0).trans arg0
  have s1 := (hg 1).trans arg1
  clear hg
  refine xc_seq (fun K hK1 => ?_)
  refine xc_region ?_
  refine x_val (r_assign ec) (nd_of rfl) rfl ?_
  refine xw_nil ?_
  refine hK1 _ _ ?_
  refine xc_gen (fun g hg => ?_)
  have s0 := (hg 0).trans (en rfl s0)
  have s1 := (hg 1).trans (en rfl s1)
  have s4 := (hg 4).trans es
  clear hg
  refine xc_seq (fun K hK2 => ?_)
  refine xc_region ?_
  refine x_val (r_move s1) (nd_of rfl) rfl ?_
  refine x_val (r_geq es ec (decide_eq_true (by omega))) (nd_of rfl) rfl ?_
  refine x_val (r_move es) (nd_of rfl) rfl ?_
  refine x_take (d := 7) rfl rfl es ?_
  refine x_val (r_move (en rfl (en rfl (en rfl s1)))) (nd_of rfl) rfl ?_
  refine x_take (d := 7) rfl rfl (en rfl es) ?_
  refine x_val (r_move (en rfl (en rfl (en rfl (en rfl s0))))) (nd_of rfl) rfl ?_
  refine x_take (d := 7) rfl rfl (en rfl (en rfl es)) ?_
  refine x_val (r_nilCheck es) (nd_of rfl) rfl ?_
  refine x_take (d := 7) rfl rfl (en rfl (en rfl (en rfl es))) ?_
  refine x_val (r_fieldAddr (o' := 0) Try.underlying51 rfl Try.sizeOf48 rfl es rfl) (nd_of rfl) rfl ?_
  refine x_take (d := 7) rfl rfl (en rfl (en rfl (en rfl (en rfl es)))) ?_
  refine x_val (r_load h 1 rfl Try.isAgg48 es gc0) (nd_of rfl) rfl ?_
  refine x_take (d := 7) rfl rfl (en rfl (en rfl (en rfl (en rfl (en rfl es))))) ?_
  refine x_val (r_len Try.underlying48 es) (nd_of rfl) rfl ?_
  refine x_take (d := 7) rfl rfl (en rfl (en rfl (en rfl (en rfl (en rfl (en rfl es)))))) ?_
  refine x_val (r_lss (en rfl (en rfl (en rfl (en rfl (en rfl es))))) es (decide_eq_true (by omega))) (nd_of rfl) rfl ?_
  refine x_val (r_pick_t (en rfl (en rfl (en rfl (en rfl (en rfl (en rfl (en rfl es))))))) es) (nd_of rfl) rfl ?_
  refine x_val (r_move es) (nd_of rfl) rfl ?_
  refine x_take (d := 16) rfl rfl es ?_
  refine x_val (r_move (en rfl (en rfl (en rfl (en rfl (en rfl (en rfl (en rfl (en rfl (en rfl (en rfl (en rfl (en rfl s0))))))))))))) (nd_of rfl) rfl ?_
  refine x_take (d := 16) rfl rfl (en rfl es) ?_
  refine x_val (r_nilCheck es) (nd_of rfl) rfl ?_
  refine x_take (d := 16) rfl rfl (en rfl (en rfl es)) ?_
  refine x_val (r_fieldAddr (o' := 1) Try.underlying51 rfl Try.sizeOf49 rfl es rfl) (nd_of rfl) rfl ?_
  refine x_take (d := 16) rfl rfl (en rfl (en rfl (en rfl es))) ?_
  refine x_val (r_load h 1 rfl Try.isAgg49 es gc1) (nd_of rfl) rfl ?_
  refine x_take (d := 16) rfl rfl (en rfl (en rfl (en rfl (en rfl es)))) ?_
  refine x_val (r_move (en rfl (en rfl (en rfl (en rfl (en rfl (en rfl (en rfl (en rfl (en rfl (en rfl (en rfl (en rfl (en rfl (en rfl (en rfl (en rfl s1))))))))))))))))) (nd_of rfl) rfl ?_
  refine x_take (d := 16) rfl rfl (en rfl (en rfl (en rfl (en rfl (en rfl es))))) ?_
  refine x_val (r_indexAddrN Try.underlying49 Try.sizeOf4 (en rfl es) es (by omega)) (nd_of rfl) rfl ?_
  refine x_take (d := 16) rfl rfl (en rfl (en rfl (en rfl (en rfl (en rfl (en rfl es)))))) ?_
  refine x_val (r_load h 0 rfl Try.isAgg4 es (by rw [Nat.mul_one]; exact hr.get (tkC_get ho))) (nd_of rfl) rfl ?_
  refine x_val (r_pick_t (en rfl (en rfl (en rfl (en rfl (en rfl (en rfl (en rfl es))))))) es) (nd_of rfl) rfl ?_
  refine x_val (r_assign es) (nd_of rfl) rfl ?_
  refine xw_nil ?_
  refine hK2 _ _ ?_
  refine xc_gen (fun g hg => ?_)
  have s0 := (hg 0).trans (en rfl (en rfl (en rfl (en rfl (en rfl (en rfl (en rfl (en rfl (en rfl (en rfl (en rfl (en rfl (en rfl (en rfl (en rfl (en rfl (en rfl (en rfl (en rfl (en rfl (en rfl s0)))))))))))))))))))))
  have s1 := (hg 1).trans (en rfl (en rfl (en rfl (en rfl (en rfl (en rfl (en rfl (en rfl (en rfl (en rfl (en rfl (en rfl (en rfl (en rfl (en rfl (en rfl (en rfl (en rfl (en rfl (en rfl (en rfl s1)))))))))))))))))))))
  have s4 := (hg 4).trans es
  clear hg
  refine xc_ret ?_
  refine bodyR_1 rfl s4 ?_
  exact ⟨rfl, SatL.closeRef (h.closeRow hr).f2.f2⟩
theorem has_neg {i : Int} (hi : i < 0) (h : SatL E w (RefA b pl fr :: R)) :
    Calls Try.prog 21 #[.pointer (some ⟨b, 0, none⟩), .int .i64 i] w (Ret fun v w' => v = .bool false ∧ SatL E w' (RefA b pl fr :: R)) := by
  refine calls_x Try.func21 rfl Try.ntmps21 rfl ?_
  refine xc_gen (fun g hg => ?_)
  have s0 := (hg 0).trans arg0
  have s1 := (hg 1).trans arg1
  clear hg
  refine xc_seq (fun K hK1 => ?_)
  refine xc_region ?_
  refine x_val (r_assign ec) (nd_of rfl) rfl ?_
  refine xw_nil ?_
  refine hK1 _ _ ?_
  refine xc_gen (fun g hg => ?_)
  have s0 := (hg 0).trans (en rfl s0)
  have s1 := (hg 1).trans (en rfl s1)
  have s4 := (hg 4).trans es
  clear hg
  refine xc_seq (fun K hK2 => ?_)
  refine xc_region ?_
  refine x_val (r_move s1) (nd_of rfl) rfl ?_
  refine x_val (r_geq es ec (decide_eq_false (by omega))) (nd_of rfl) rfl ?_
  refine x_val (r_move es) (nd_of rfl) rfl ?_
  refine x_pass (d := 7) rfl rfl es rfl ?_
  refine x_pass (d := 7) rfl rfl (en rfl es) rfl ?_
  refine x_pass (d := 7) rfl rfl (en rfl (en rfl es)) rfl ?_
  refine x_pass (d := 7) rfl rfl (en rfl (en rfl (en rfl es))) rfl ?_
  refine x_pass (d := 7) rfl rfl (en rfl (en rfl (en rfl (en rfl es)))) rfl ?_
  refine x_pass (d := 7) rfl rfl (en rfl (en rfl (en rfl (en rfl (en rfl es))))) rfl ?_
  refine x_pass (d := 7) rfl rfl (en rfl (en rfl (en rfl (en rfl (en rfl (en rfl es)))))) rfl ?_
  refine x_val (r_pick_f (en rfl (en rfl (en rfl (en rfl (en rfl (en rfl (en rfl es))))))) ec) (nd_of rfl) rfl ?_
  refine x_val (r_move es) (nd_of rfl) rfl ?_
  refine x_pass (d := 16) rfl rfl es rfl ?_
  refine x_pass (d := 16) rfl rfl (en rfl es) rfl ?_
  refine x_pass (d := 16) rfl rfl (en rfl (en rfl es)) rfl ?_
  refine x_pass (d := 16) rfl rfl (en rfl (en rfl (en rfl es))) rfl ?_
  refine x_pass (d := 16) rfl rfl (en rfl (en rfl (en rfl (en rfl es)))) rfl ?_
  refine x_pass (d := 16) rfl rfl (en rfl (en rfl (en rfl (en rfl (en rfl es))))) rfl ?_
  refine x_pass (d := 16) rfl rfl (en rfl (en rfl (en rfl (en rfl (en rfl (en rfl es)))))) rfl ?_
  refine x_val (r_pick_f (en rfl (en rfl (en rfl (en rfl (en rfl (en rfl (en rfl es))))))) ec) (nd_of rfl) rfl ?_
  refine x_val (r_assign es) (nd_of rfl) rfl ?_
  refine xw_nil ?_
  refine hK2 _ _ ?_
  refine xc_gen (fun g hg => ?_)
  have s0 := (hg 0).trans (en rfl (en rfl (en rfl (en rfl (en rfl (en rfl (en rfl (en rfl (en rfl (en rfl (en rfl (en rfl (en rfl (en rfl (en rfl (en rfl (en rfl (en rfl (en rfl (en rfl (en rfl s0)))))))))))))))))))))
  have s1 := (hg 1).trans (en rfl (en rfl (en rfl (en rfl (en rfl (en rfl (en rfl (en rfl (en rfl (en rfl (en rfl (en rfl (en rfl (en rfl (en rfl (en rfl (en rfl (en rfl (en rfl (en rfl (en rfl s1)))))))))))))))))))))
  have s4 := (hg 4).trans es
  clear hg
  refine xc_ret ?_
  refine bodyR_1 rfl s4 ?_
  exact ⟨rfl, h⟩
theorem has_far {i : Int} (hi : (pl.length : Int) ≤ i) (h : SatL E w (RefA b pl fr :: R)) :
    Calls Try.prog 21 #[.pointer (some ⟨b, 0, none⟩), .int .i64 i] w (Ret fun v w' => v = .bool false ∧ SatL E w' (RefA b pl fr :: R)) := by
  obtain ⟨xs, ts, fs, h⟩ := h.openRef
  obtain ⟨gx, cx, rfl, _, _⟩ := (h.f1).rowVal
  refine calls_x Try.func21 rfl Try.ntmps21 rfl ?_
  refine xc_gen (fun g hg => ?_)
  have s0 := (hg 0).trans arg0
  have s1 := (hg 1).trans arg1
  clear hg
  refine xc_seq (fun K hK1 => ?_)
  refine xc_region ?_
  refine x_val (r_assign ec) (nd_of rfl) rfl ?_
  refine xw_nil ?_
  refine hK1 _ _ ?_
  refine xc_gen (fun g hg => ?_)
  have s0 := (hg 0).trans (en rfl s0)
  have s1 := (hg 1).trans (en rfl s1)
  have s4 := (hg 4).trans es
  clear hg
  refine xc_seq (fun K hK2 => ?_)
  refine xc_region ?_
  refine x_val (r_move s1) (nd_of rfl) rfl ?_
  refine x_val (r_geq es ec (decide_eq_true (by omega))) (nd_of rfl) rfl ?_
  refine x_val (r_move es) (nd_of rfl) rfl ?_
  refine x_take (d := 7) rfl rfl es ?_
  refine x_val (r_move (en rfl (en rfl (en rfl s1)))) (nd_of rfl) rfl ?_
  refine x_take (d := 7) rfl rfl (en rfl es) ?_
  refine x_val (r_move (en rfl (en rfl (en rfl (en rfl s0))))) (nd_of rfl) rfl ?_
  refine x_take (d := 7) rfl rfl (en rfl (en rfl es)) ?_
  refine x_val (r_nilCheck es) (nd_of rfl) rfl ?_
  refine x_take (d := 7) rfl rfl (en rfl (en rfl (en rfl es))) ?_
  refine x_val (r_fieldAddr (o' := 0) Try.underlying51 rfl Try.sizeOf48 rfl es rfl) (nd_of rfl) rfl ?_
  refine x_take (d := 7) rfl rfl (en rfl (en rfl (en rfl (en rfl es)))) ?_
  refine x_val (r_load h 0 rfl Try.isAgg48 es gc0) (nd_of rfl) rfl ?_
  refine x_take (d := 7) rfl rfl (en rfl (en rfl (en rfl (en rfl (en rfl es))))) ?_
  refine x_val (r_len Try.underlying48 es) (nd_of rfl) rfl ?_
  refine x_take (d := 7) rfl rfl (en rfl (en rfl (en rfl (en rfl (en rfl (en rfl es)))))) ?_
  refine x_val (r_lss (en rfl (en rfl (en rfl (en rfl (en rfl es))))) es (decide_eq_false (by omega))) (nd_of rfl) rfl ?_
  refine x_val (r_pick_t (en rfl (en rfl (en rfl (en rfl (en rfl (en rfl (en rfl es))))))) es) (nd_of rfl) rfl ?_
  refine x_val (r_move es) (nd_of rfl) rfl ?_
  refine x_pass (d := 16) rfl rfl es rfl ?_
  refine x_pass (d := 16) rfl rfl (en rfl es) rfl ?_
  refine x_pass (d := 16) rfl rfl (en rfl (en rfl es)) rfl ?_
  refine x_pass (d := 16) rfl rfl (en rfl (en rfl (en rfl es))) rfl ?_
  refine x_pass (d := 16) rfl rfl (en rfl (en rfl (en rfl (en rfl es)))) rfl ?_
  refine x_pass (d := 16) rfl rfl (en rfl (en rfl (en rfl (en rfl (en rfl es))))) rfl ?_
  refine x_pass (d := 16) rfl rfl (en rfl (en rfl (en rfl (en rfl (en rfl (en rfl es)))))) rfl ?_
  refine x_val (r_pick_f (en rfl (en rfl (en rfl (en rfl (en rfl (en rfl (en rfl es))))))) ec) (nd_of rfl) rfl ?_
  refine x_val (r_assign es) (nd_of rfl) rfl ?_
  refine xw_nil ?_
  refine hK2 _ _ ?_
  refine xc_gen (fun g hg => ?_)
  have s0 := (hg 0).trans (en rfl (en rfl (en rfl (en rfl (en rfl (en rfl (en rfl (en rfl (en rfl (en rfl (en rfl (en rfl (en rfl (en rfl (en rfl (en rfl (en rfl (en rfl (en rfl (en rfl (en rfl s0)))))))))))))))))))))
  have s1 := (hg 1).trans (en rfl (en rfl (en rfl (en rfl (en rfl (en rfl (en rfl (en rfl (en rfl (en rfl (en rfl (en rfl (en rfl (en rfl (en rfl (en rfl (en rfl (en rfl (en rfl (en rfl (en rfl s1)))))))))))))))))))))
  have s4 := (hg 4).trans es
  clear hg
  refine xc_ret ?_
  refine bodyR_1 rfl s4 ?_
  exact ⟨rfl, SatL.closeRef h⟩
theorem tkC_set {i : Nat} {o : Option Int} : (tkC pl).set i (.bool o.isSome) = tkC (pl.set i o) := by simp [tkC, List.map_set]
theorem xsC_set {i : Nat} {o : Option Int} : (xsC pl).set i (.int .i64 (o.getD 0)) = xsC (pl.set i o) := by simp [xsC, List.map_set]
theorem drop_ok (hi : i < pl.length) (hf : fr.length ≤ 1000000) (h : SatL E w (RefA b pl fr :: R)) :
    Calls Try.prog 23 #[.pointer (some ⟨b, 0, none⟩), .int .i64 (i : Int)] w (Ret fun _ w' => SatL E w' (RefA b (pl.set i none) (fr ++ [i]) :: R)) := by
  obtain ⟨xs, ts, fs, h⟩ := h.openRef
  obtain ⟨gx, cx, curx, hrx, h'⟩ := (h.f1).openRow (by omega)
  clear h
  obtain rfl := hrx.val
  obtain ⟨gt, ct, curt, hrt, h⟩ := (h'.f2).openRow (by omega)
  clear h'
  obtain rfl := hrt.val
  have h1 := hrx.size
  have h2 := hrx.le
  have h3 := hrt.size
  have h4 := hrt.le
  refine calls_x Try.func23 rfl Try.ntmps23 rfl ?_
  refine xc_gen (fun g hg => ?_)
  have s0 := (hg 0).trans arg0
  have s1 := (hg 1).trans arg1
  clear hg
  refine xc_seq (fun K hK1 => ?_)
  refine xc_region ?_
  refine x_val (r_move s0) (nd_of rfl) rfl ?_
  refine x_val (r_nilCheck es) (nd_of rfl) rfl ?_
  refine x_val (r_fieldAddr (o' := 1) Try.underlying51 rfl Try.sizeOf49 rfl es rfl) (nd_of rfl) rfl ?_
  refine x_val (r_load h 2 rfl Try.isAgg49 es gc1) (nd_of rfl) rfl ?_
  refine x_val (r_move (en rfl (en rfl (en rfl (en rfl s1))))) (nd_of rfl) rfl ?_
  refine x_val (r_indexAddrN Try.underlying49 Try.sizeOf4 (en rfl es) es (by omega)) (nd_of rfl) rfl ?_
  refine x_st (r_store h 0 rfl Try.sizeOf4 es ec rfl (Array.getElem?_eq_getElem (by omega))) rfl (h.u0 rfl) ?_
  intro w h
  refine xw_nil ?_
  refine hK1 _ _ ?_
  refine xc_gen (fun g hg => ?_)
  have s0 := (hg 0).trans (en rfl (en rfl (en rfl (en rfl (en rfl (en rfl s0))))))
  have s1 := (hg 1).trans (en rfl (en rfl (en rfl (en rfl (en rfl (en rfl s1))))))
  clear hg
  refine xc_seq (fun K hK2 => ?_)
  refine xc_region ?_
  refine x_val (r_move s0) (nd_of rfl) rfl ?_
  refine x_val (r_nilCheck es) (nd_of rfl) rfl ?_
  refine x_val (r_fieldAddr (o' := 0) Try.underlying51 rfl Try.sizeOf48 rfl es rfl) (nd_of rfl) rfl ?_
  refine x_val (r_load h 2 rfl Try.isAgg48 es gc0) (nd_of rfl) rfl ?_
  refine x_val (r_move (en rfl (en rfl (en rfl (en rfl s1))))) (nd_of rfl) rfl ?_
  refine x_val (r_indexAddrN Try.underlying48 Try.sizeOf2 (en rfl es) es (by omega)) (nd_of rfl) rfl ?_
  refine x_st (r_store h 1 rfl Try.sizeOf2 es ec rfl (Array.getElem?_eq_getElem (by omega))) rfl (h.u1 rfl) ?_
  intro w h
  refine xw_nil ?_
  refine hK2 _ _ ?_
  refine xc_gen (fun g hg => ?_)
  have s0 := (hg 0).trans (en rfl (en rfl (en rfl (en rfl (en rfl (en rfl s0))))))
  have s1 := (hg 1).trans (en rfl (en rfl (en rfl (en rfl (en rfl (en rfl s1))))))
  clear hg
  have h := h.f1
  have h := h.f2
  have h := h.f3
  refine xc_region ?_
  refine x_val (r_move s0) (nd_of rfl) rfl ?_
  refine x_val (r_move (en rfl s0)) (nd_of rfl) rfl ?_
  refine x_val (r_nilCheck es) (nd_of rfl) rfl ?_
  refine x_val (r_fieldAddr (o' := 2) Try.underlying51 rfl Try.sizeOf22 rfl es rfl) (nd_of rfl) rfl ?_
  refine x_val (r_load h 1 rfl Try.isAgg22 es gc2) (nd_of rfl) rfl ?_
  refine x_val (r_move (en rfl (en rfl (en rfl (en rfl (en rfl s1)))))) (nd_of rfl) rfl ?_
  refine x_bslice (c := #[.int .i64 (i : Int)]) h Try.underlying22 Try.sizeOf3 Try.zeroValue3 rfl rfl es rfl Ok.int1 rfl ?_; intro bn w h; have h := h.f1
  refine x_append (bytes := 8) h Try.underlying22 (by kernel_rfl) (en rfl (en rfl es)) es Ok.int1 (by omega) (by omega) rfl ?_; intro fs2 w h; obtain ⟨af, cf, rfl, _, _⟩ := h.rowVal; have h := h.f1.drop
  simp only [Nat.mul_one] at h
  refine x_val (r_nilCheck (en rfl (en rfl (en rfl (en rfl (en rfl (en rfl (en rfl es)))))))) (nd_of rfl) rfl ?_
  refine x_val (r_fieldAddr (o' := 2) Try.underlying51 rfl Try.sizeOf22 rfl es rfl) (nd_of rfl) rfl ?_
  refine x_st (r_store h 1 rfl Try.sizeOf22 es (en rfl (en rfl es)) rfl gc2) rfl (h.u1 sc2) ?_
  intro w h
  refine xw_nil ?_
  refine bodyR_0 rfl ?_
  exact SatL.closeRef (by rw [List.length_set, ← tkC_set, ← xsC_set, frC_snoc, List.length_append]; exact (((h.f2.closeRow (hrx.set _ _)).f3.closeRow (hrt.set _ _)).f1).f3)
/-- how many are taken -/
def cnt (pl : List (Option Int)) : Nat := pl.countP (·.isSome)
theorem cnt_step {k : Nat} {o : Option Int} (ho : pl[k]? = some o) : cnt (pl.take (k + 1)) = cnt (pl.take k) + (if o.isSome then 1 else 0) := by
  rw [List.take_add_one, ho, cnt, List.countP_append]
  cases o <;> simp [cnt]
theorem cnt_le : cnt pl ≤ pl.length := List.countP_le_length
theorem reflen_ok (hb : pl.length ≤ 1000000) (h : SatL E w (RefA b pl fr :: R)) :
    Calls Try.prog 26 #[.pointer (some ⟨b, 0, none⟩)] w (Ret fun v w' => v = .int .i64 (cnt pl : Int) ∧ SatL E w' (RefA b pl fr :: R)) := by
  refine calls_x Try.func26 rfl Try.ntmps26 rfl ?_
  refine xc_gen (fun g hg => ?_)
  have s0 := (hg 0).trans arg0
  clear hg
  refine xc_seq (fun K hK1 => ?_)
  refine xc_region ?_
  refine x_val (r_assign ec) (nd_of rfl) rfl ?_
  refine xw_nil ?_
  refine hK1 _ _ ?_
  refine xc_gen (fun g hg => ?_)
  have s0 := (hg 0).trans (en rfl s0)
  have s2 := (hg 2).trans es
  clear hg
  refine xc_seq (fun K hK2 => ?_)
  refine xc_region ?_
  refine x_val (r_assign ec) (nd_of rfl) rfl ?_
  refine xw_nil ?_
  refine hK2 _ _ ?_
  refine xc_gen (fun g hg => ?_)
  have s0 := (hg 0).trans (en rfl s0)
  have s2 := (hg 2).trans (en rfl s2)
  have s3 := (hg 3).trans es
  clear hg
  refine xc_seq (fun K hK3 => ?_)
  refine xc_seq (fun K hK4 => ?_)
  refine xc_region ?_
  refine x_val (r_assign ec) (nd_of rfl) rfl ?_
  refine xw_nil ?_
  refine hK4 _ _ ?_
  refine xc_gen (fun g hg => ?_)
  have s0 := (hg 0).trans (en rfl s0)
  have s2 := (hg 2).trans (en rfl s2)
  have s3 := (hg 3).trans (en rfl s3)
  have s4 := (hg 4).trans es
  clear hg
  refine xc_block ?_
  obtain ⟨G5, hG5⟩ : ∃ g0 : Nat → Value, g0 = g := ⟨_, rfl⟩
  have zG5_0 : G5 0 = _ := (congrFun hG5 0).trans s0
  have zG5_2 : G5 2 = _ := (congrFun hG5 2).trans s2
  refine xc_loop (fun m f w => (∃ k : Nat, m = pl.length - k ∧ k ≤ pl.length ∧ f 4 = .int .i64 (k : Int) ∧ f 3 = .int .i64 (cnt (pl.take k) : Int) ∧ SatL E w (RefA b pl fr :: R)) ∧ (f 0 = G5 0 ∧ f 2 = G5 2)) (pl.length) ⟨⟨0, by omega, by omega, s4, s3, h⟩, ⟨congrFun hG5.symm 0, congrFun hG5.symm 2⟩⟩ ?_
  rintro m g w ⟨⟨k, hm, hk, s4, s3, h⟩, ⟨y0, y2⟩⟩
  have s0 := y0.trans zG5_0
  have s2 := y2.trans zG5_2
  refine xc_seq (fun K hK6 => ?_)
  refine xc_seq (fun K hK7 => ?_)
  obtain ⟨xs, ts, fs, h⟩ := h.openRef
  obtain ⟨gx, cx, rfl, _, _⟩ := (h.f1).rowVal
  refine xc_region ?_
  refine x_val (r_move s4) (nd_of rfl) rfl ?_
  refine x_val (r_move (en rfl s0)) (nd_of rfl) rfl ?_
  refine x_val (r_nilCheck es) (nd_of rfl) rfl ?_
  refine x_val (r_fieldAddr (o' := 0) Try.underlying51 rfl Try.sizeOf48 rfl es rfl) (nd_of rfl) rfl ?_
  refine x_val (r_load h 0 rfl Try.isAgg48 es gc0) (nd_of rfl) rfl ?_
  refine x_val (r_len Try.underlying48 es) (nd_of rfl) rfl ?_
  refine x_val (r_lss (en rfl (en rfl (en rfl (en rfl (en rfl es))))) es rfl) (nd_of rfl) rfl ?_
  refine xw_nil ?_
  refine hK7 _ _ ?_
  refine xc_gen (fun g hg => ?_)
  have s0 := (hg 0).trans (en rfl (en rfl (en rfl (en rfl (en rfl (en rfl (en rfl s0)))))))
  have s2 := (hg 2).trans (en rfl (en rfl (en rfl (en rfl (en rfl (en rfl (en rfl s2)))))))
  have s3 := (hg 3).trans (en rfl (en rfl (en rfl (en rfl (en rfl (en rfl (en rfl s3)))))))
  have s4 := (hg 4).trans (en rfl (en rfl (en rfl (en rfl (en rfl (en rfl (en rfl s4)))))))
  have s11 := (hg 11).trans es
  clear hg
  refine xc_cond s11 (fun hc => ?_) (fun hc => ?_)
  ·
    refine xc_skip ?_
    refine hK6 _ _ ?_
    refine xc_seq (fun K hK8 => ?_)
    refine xc_block ?_
    refine xc_seq (fun K hK9 => ?_)
    have hi : k < pl.length := by have := of_decide_eq_true hc; omega
    obtain ⟨o, ho⟩ : ∃ o, pl[k]? = some o := ⟨_, List.getElem?_eq_getElem hi⟩
    obtain ⟨gt, ct, cur, hr, h'⟩ := (h.f2).openRow (by omega)
    clear h
    obtain rfl := hr.val
    have h := h'
    have hcs := cnt_step ho
    have hcl := Nat.le_trans (cnt_le (pl := pl.take (k + 1))) (by rw [List.length_take]; omega : _ ≤ pl.length)
    refine xc_region ?_
    refine x_val (r_move s0) (nd_of rfl) rfl ?_
    refine x_val (r_nilCheck es) (nd_of rfl) rfl ?_
    refine x_val (r_fieldAddr (o' := 1) Try.underlying51 rfl Try.sizeOf49 rfl es rfl) (nd_of rfl) rfl ?_
    refine x_val (r_load h 1 rfl Try.isAgg49 es gc1) (nd_of rfl) rfl ?_
    refine x_val (r_move (en rfl (en rfl (en rfl (en rfl s4))))) (nd_of rfl) rfl ?_
    refine x_val (r_indexAddrN Try.underlying49 Try.sizeOf4 (en rfl es) es (by omega)) (nd_of rfl) rfl ?_
    refine x_val (r_load h 0 rfl Try.isAgg4 es (by rw [Nat.mul_one]; exact hr.get (tkC_get ho))) (nd_of rfl) rfl ?_
    refine xw_nil ?_
    refine hK9 _ _ ?_
    refine xc_gen (fun g hg => ?_)
    have s0 := (hg 0).trans (en rfl (en rfl (en rfl (en rfl (en rfl (en rfl (en rfl s0)))))))
    have s2 := (hg 2).trans (en rfl (en rfl (en rfl (en rfl (en rfl (en rfl (en rfl s2)))))))
    have s3 := (hg 3).trans (en rfl (en rfl (en rfl (en rfl (en rfl (en rfl (en rfl s3)))))))
    have s4 := (hg 4).trans (en rfl (en rfl (en rfl (en rfl (en rfl (en rfl (en rfl s4)))))))
    have s11 := (hg 11).trans (en rfl (en rfl (en rfl (en rfl (en rfl (en rfl (en rfl s11)))))))
    have s20 := (hg 20).trans es
    clear hg
    refine xc_cond s20 (fun hc => ?_) (fun hc => ?_)
    ·
      rw [if_pos hc] at hcs
      refine xc_region ?_
      refine x_val (r_move s3) (nd_of rfl) rfl ?_
      refine x_val (r_add es ec (show _ = ((cnt (pl.take (k + 1)) : Int) : Int) from by rw [hcs]; rfl) (by unfold I64; omega)) (nd_of rfl) rfl ?_
      refine x_val (r_assign es) (nd_of rfl) rfl ?_
      refine xw_nil ?_
      refine hK8 _ _ ?_
      refine xc_gen (fun g hg => ?_)
      have s0 := (hg 0).trans (en rfl (en rfl (en rfl s0)))
      have s2 := (hg 2).trans (en rfl (en rfl (en rfl s2)))
      have s3 := (hg 3).trans es
      have s4 := (hg 4).trans (en rfl (en rfl (en rfl s4)))
      have s11 := (hg 11).trans (en rfl (en rfl (en rfl s11)))
      have s20 := (hg 20).trans (en rfl (en rfl (en rfl s20)))
      clear hg
      refine xc_region ?_
      refine x_val (r_move s4) (nd_of rfl) rfl ?_
      refine x_val (r_add es ec (show _ = (((k + 1 : Nat) : Int) : Int) from by omega) (by unfold I64; omega)) (nd_of rfl) rfl ?_
      refine x_val (r_assign es) (nd_of rfl) rfl ?_
      refine xw_nil ?_
      exact ⟨pl.length - (k + 1), by omega, ⟨k + 1, rfl, by omega, es, (en rfl (en rfl (en rfl s3))), SatL.closeRef (h.closeRow hr).f2.f2⟩, ⟨((en rfl (en rfl (en rfl s0)))).trans zG5_0.symm, ((en rfl (en rfl (en rfl s2)))).trans zG5_2.symm⟩⟩
    ·
      refine xc_skip ?_
      refine hK8 _ _ ?_
      rw [if_neg (by rw [hc]; decide)] at hcs
      simp only [Nat.add_zero] at hcs
      rw [← hcs] at s3
      refine xc_region ?_
      refine x_val (r_move s4) (nd_of rfl) rfl ?_
      refine x_val (r_add es ec (show _ = (((k + 1 : Nat) : Int) : Int) from by omega) (by unfold I64; omega)) (nd_of rfl) rfl ?_
      refine x_val (r_assign es) (nd_of rfl) rfl ?_
      refine xw_nil ?_
      exact ⟨pl.length - (k + 1), by omega, ⟨k + 1, rfl, by omega, es, (en rfl (en rfl (en rfl s3))), SatL.closeRef (h.closeRow hr).f2.f2⟩, ⟨((en rfl (en rfl (en rfl s0)))).trans zG5_0.symm, ((en rfl (en rfl (en rfl s2)))).trans zG5_2.symm⟩⟩
  ·
    refine xc_exit ?_
    refine hK3 _ _ ?_
    refine xc_seq (fun K hK10 => ?_)
    obtain rfl : k = pl.length := by have := of_decide_eq_false hc; omega
    rw [List.take_length] at s3
    refine xc_region ?_
    refine x_val (r_move s3) (nd_of rfl) rfl ?_
    refine x_val (r_assign es) (nd_of rfl) rfl ?_
    refine xw_nil ?_
    refine hK10 _ _ ?_
    refine xc_gen (fun g hg => ?_)
    have s0 := (hg 0).trans (en rfl (en rfl s0))
    have s2 := (hg 2).trans es
    have s3 := (hg 3).trans (en rfl (en rfl s3))
    have s4 := (hg 4).trans (en rfl (en rfl s4))
    have s11 := (hg 11).trans (en rfl (en rfl s11))
    clear hg
    refine xc_ret ?_
    refine bodyR_1 rfl s2 ?_
    exact ⟨rfl, SatL.closeRef h⟩
theorem reflen_open {xs ts fs : Value} (hb : pl.length ≤ 1000000) (h : SatL E w (Cells b #[xs, ts, fs] 51 :: Row 2 1 xs pl.length (xsC pl) :: Row 4 1 ts pl.length (tkC pl) :: Row 3 1 fs fr.length (frC fr) :: R)) :
    Calls Try.prog 26 #[.pointer (some ⟨b, 0, none⟩)] w (Ret fun v w' => v = .int .i64 (cnt pl : Int) ∧ SatL E w' (Cells b #[xs, ts, fs] 51 :: Row 2 1 xs pl.length (xsC pl) :: Row 4 1 ts pl.length (tkC pl) :: Row 3 1 fs fr.length (frC fr) :: R)) := by
  obtain ⟨gx, cx, rfl, _, _⟩ := (h.f1).rowVal
  refine calls_x Try.func26 rfl Try.ntmps26 rfl ?_
  refine xc_gen (fun g hg => ?_)
  have s0 := (hg 0).trans arg0
  clear hg
  refine xc_seq (fun K hK1 => ?_)
  refine xc_region ?_
  refine x_val (r_assign ec) (nd_of rfl) rfl ?_
  refine xw_nil ?_
  refine hK1 _ _ ?_
  refine xc_gen (fun g hg => ?_)
  have s0 := (hg 0).trans (en rfl s0)
  have s2 := (hg 2).trans es
  clear hg
  refine xc_seq (fun K hK2 => ?_)
  refine xc_region ?_
  refine x_val (r_assign ec) (nd_of rfl) rfl ?_
  refine xw_nil ?_
  refine hK2 _ _ ?_
  refine xc_gen (fun g hg => ?_)
  have s0 := (hg 0).trans (en rfl s0)
  have s2 := (hg 2).trans (en rfl s2)
  have s3 := (hg 3).trans es
  clear hg
  refine xc_seq (fun K hK3 => ?_)
  refine xc_seq (fun K hK4 => ?_)
  refine xc_region ?_
  refine x_val (r_assign ec) (nd_of rfl) rfl ?_
  refine xw_nil ?_
  refine hK4 _ _ ?_
  refine xc_gen (fun g hg => ?_)
  have s0 := (hg 0).trans (en rfl s0)
  have s2 := (hg 2).trans (en rfl s2)
  have s3 := (hg 3).trans (en rfl s3)
  have s4 := (hg 4).trans es
  clear hg
  refine xc_block ?_
  obtain ⟨G5, hG5⟩ : ∃ g0 : Nat → Value, g0 = g := ⟨_, rfl⟩
  have zG5_0 : G5 0 = _ := (congrFun hG5 0).trans s0
  have zG5_2 : G5 2 = _ := (congrFun hG5 2).trans s2
  refine xc_loop (fun m f w => (∃ k : Nat, m = pl.length - k ∧ k ≤ pl.length ∧ f 4 = .int .i64 (k : Int) ∧ f 3 = .int .i64 (cnt (pl.take k) : Int) ∧ SatL E w (Cells b #[.slice gx pl.length cx, ts, fs] 51 :: Row 2 1 (.slice gx pl.length cx) pl.length (xsC pl) :: Row 4 1 ts pl.length (tkC pl) :: Row 3 1 fs fr.length (frC fr) :: R)) ∧ (f 0 = G5 0 ∧ f 2 = G5 2)) (pl.length) ⟨⟨0, by omega, by omega, s4, s3, h⟩, ⟨congrFun hG5.symm 0, congrFun hG5.symm 2⟩⟩ ?_
  rintro m g w ⟨⟨k, hm, hk, s4, s3, h⟩, ⟨y0, y2⟩⟩
  have s0 := y0.trans zG5_0
  have s2 := y2.trans zG5_2
  refine xc_seq (fun K hK6 => ?_)
  refine xc_seq (fun K hK7 => ?_)
  refine xc_region ?_
  refine x_val (r_move s4) (nd_of rfl) rfl ?_
  refine x_val (r_move (en rfl s0)) (nd_of rfl) rfl ?_
  refine x_val (r_nilCheck es) (nd_of rfl) rfl ?_
  refine x_val (r_fieldAddr (o' := 0) Try.underlying51 rfl Try.sizeOf48 rfl es rfl) (nd_of rfl) rfl ?_
  refine x_val (r_load h 0 rfl Try.isAgg48 es gc0) (nd_of rfl) rfl ?_
  refine x_val (r_len Try.underlying48 es) (nd_of rfl) rfl ?_
  refine x_val (r_lss (en rfl (en rfl (en rfl (en rfl (en rfl es))))) es rfl) (nd_of rfl) rfl ?_
  refine xw_nil ?_
  refine hK7 _ _ ?_
  refine xc_gen (fun g hg => ?_)
  have s0 := (hg 0).trans (en rfl (en rfl (en rfl (en rfl (en rfl (en rfl (en rfl s0)))))))
  have s2 := (hg 2).trans (en rfl (en rfl (en rfl (en rfl (en rfl (en rfl (en rfl s2)))))))
  have s3 := (hg 3).trans (en rfl (en rfl (en rfl (en rfl (en rfl (en rfl (en rfl s3)))))))
  have s4 := (hg 4).trans (en rfl (en rfl (en rfl (en rfl (en rfl (en rfl (en rfl s4)))))))
  have s11 := (hg 11).trans es
  clear hg
  refine xc_cond s11 (fun hc => ?_) (fun hc => ?_)
  ·
    refine xc_skip ?_
    refine hK6 _ _ ?_
    refine xc_seq (fun K hK8 => ?_)
    refine xc_block ?_
    refine xc_seq (fun K hK9 => ?_)
    have hi : k < pl.length := by have := of_decide_eq_true hc; omega
    obtain ⟨o, ho⟩ : ∃ o, pl[k]? = some o := ⟨_, List.getElem?_eq_getElem hi⟩
    obtain ⟨gt, ct, cur, hr, h'⟩ := (h.f2).openRow (by omega)
    clear h
    have hvt := hr.val
    subst hvt
    have h := h'
    have hcs := cnt_step ho
    have hcl := Nat.le_trans (cnt_le (pl := pl.take (k + 1))) (by rw [List.length_take]; omega : _ ≤ pl.length)
    refine xc_region ?_
    refine x_val (r_move s0) (nd_of rfl) rfl ?_
    refine x_val (r_nilCheck es) (nd_of rfl) rfl ?_
    refine x_val (r_fieldAddr (o' := 1) Try.underlying51 rfl Try.sizeOf49 rfl es rfl) (nd_of rfl) rfl ?_
    refine x_val (r_load h 1 rfl Try.isAgg49 es gc1) (nd_of rfl) rfl ?_
    refine x_val (r_move (en rfl (en rfl (en rfl (en rfl s4))))) (nd_of rfl) rfl ?_
    refine x_val (r_indexAddrN Try.underlying49 Try.sizeOf4 (en rfl es) es (by omega)) (nd_of rfl) rfl ?_
    refine x_val (r_load h 0 rfl Try.isAgg4 es (by rw [Nat.mul_one]; exact hr.get (tkC_get ho))) (nd_of rfl) rfl ?_
    refine xw_nil ?_
    refine hK9 _ _ ?_
    refine xc_gen (fun g hg => ?_)
    have s0 := (hg 0).trans (en rfl (en rfl (en rfl (en rfl (en rfl (en rfl (en rfl s0)))))))
    have s2 := (hg 2).trans (en rfl (en rfl (en rfl (en rfl (en rfl (en rfl (en rfl s2)))))))
    have s3 := (hg 3).trans (en rfl (en rfl (en rfl (en rfl (en rfl (en rfl (en rfl s3)))))))
    have s4 := (hg 4).trans (en rfl (en rfl (en rfl (en rfl (en rfl (en rfl (en rfl s4)))))))
    have s11 := (hg 11).trans (en rfl (en rfl (en rfl (en rfl (en rfl (en rfl (en rfl s11)))))))
    have s20 := (hg 20).trans es
    clear hg
    refine xc_cond s20 (fun hc => ?_) (fun hc => ?_)
    ·
      rw [if_pos hc] at hcs
      refine xc_region ?_
      refine x_val (r_move s3) (nd_of rfl) rfl ?_
      refine x_val (r_add es ec (show _ = ((cnt (pl.take (k + 1)) : Int) : Int) from by rw [hcs]; rfl) (by unfold I64; omega)) (nd_of rfl) rfl ?_
      refine x_val (r_assign es) (nd_of rfl) rfl ?_
      refine xw_nil ?_
      refine hK8 _ _ ?_
      refine xc_gen (fun g hg => ?_)
      have s0 := (hg 0).trans (en rfl (en rfl (en rfl s0)))
      have s2 := (hg 2).trans (en rfl (en rfl (en rfl s2)))
      have s3 := (hg 3).trans es
      have s4 := (hg 4).trans (en rfl (en rfl (en rfl s4)))
      have s11 := (hg 11).trans (en rfl (en rfl (en rfl s11)))
      have s20 := (hg 20).trans (en rfl (en rfl (en rfl s20)))
      clear hg
      refine xc_region ?_
      refine x_val (r_move s4) (nd_of rfl) rfl ?_
      refine x_val (r_add es ec (show _ = (((k + 1 : Nat) : Int) : Int) from by omega) (by unfold I64; omega)) (nd_of rfl) rfl ?_
      refine x_val (r_assign es) (nd_of rfl) rfl ?_
      refine xw_nil ?_
      exact ⟨pl.length - (k + 1), by omega, ⟨k + 1, rfl, by omega, es, (en rfl (en rfl (en rfl s3))), (h.closeRow hr).f2.f2⟩, ⟨((en rfl (en rfl (en rfl s0)))).trans zG5_0.symm, ((en rfl (en rfl (en rfl s2)))).trans zG5_2.symm⟩⟩
    ·
      refine xc_skip ?_
      refine hK8 _ _ ?_
      rw [if_neg (by rw [hc]; decide)] at hcs
      simp only [Nat.add_zero] at hcs
      rw [← hcs] at s3
      refine xc_region ?_
      refine x_val (r_move s4) (nd_of rfl) rfl ?_
      refine x_val (r_add es ec (show _ = (((k + 1 : Nat) : Int) : Int) from by omega) (by unfold I64; omega)) (nd_of rfl) rfl ?_
      refine x_val (r_assign es) (nd_of rfl) rfl ?_
      refine xw_nil ?_
      exact ⟨pl.length - (k + 1), by omega, ⟨k + 1, rfl, by omega, es, (en rfl (en rfl (en rfl s3))), (h.closeRow hr).f2.f2⟩, ⟨((en rfl (en rfl (en rfl s0)))).trans zG5_0.symm, ((en rfl (en rfl (en rfl s2)))).trans zG5_2.symm⟩⟩
  ·
    refine xc_exit ?_
    refine hK3 _ _ ?_
    refine xc_seq (fun K hK10 => ?_)
    obtain rfl : k = pl.length := by have := of_decide_eq_false hc; omega
    rw [List.take_length] at s3
    refine xc_region ?_
    refine x_val (r_move s3) (nd_of rfl) rfl ?_
    refine x_val (r_assign es) (nd_of rfl) rfl ?_
    refine xw_nil ?_
    refine hK10 _ _ ?_
    refine xc_gen (fun g hg => ?_)
    have s0 := (hg 0).trans (en rfl (en rfl s0))
    have s2 := (hg 2).trans es
    have s3 := (hg 3).trans (en rfl (en rfl s3))
    have s4 := (hg 4).trans (en rfl (en rfl s4))
    have s11 := (hg 11).trans (en rfl (en rfl s11))
    clear hg
    refine xc_ret ?_
    refine bodyR_1 rfl s2 ?_
    exact ⟨rfl, h⟩
theorem reftake_new (hb : pl.length ≤ 1000000) (h : SatL E w (RefA b pl [] :: R)) :
    Calls Try.prog 22 #[.pointer (some ⟨b, 0, none⟩), .int .i64 x] w (Ret fun v w' => v = .int .i64 (pl.length : Int) ∧ SatL E w' (RefA b (pl ++ [some x]) [] :: R)) := by
  obtain ⟨xs, ts, fs, h⟩ := h.openRef
  obtain ⟨gf, cf, rfl, _, _⟩ := (h.f3).rowVal
  refine calls_x Try.func22 rfl Try.ntmps22 rfl ?_
  refine xc_gen (fun g hg => ?_)
  have s0 := (hg 0).trans arg0
  have s1 := (hg 1).trans arg1
  clear hg
  refine xc_seq (fun K hK1 => ?_)
  refine xc_region ?_
  refine x_val (r_assign ec) (nd_of rfl) rfl ?_
  refine xw_nil ?_
  refine hK1 _ _ ?_
  refine xc_gen (fun g hg => ?_)
  have s0 := (hg 0).trans (en rfl s0)
  have s1 := (hg 1).trans (en rfl s1)
  have s4 := (hg 4).trans es
  clear hg
  refine xc_seq (fun K hK2 => ?_)
  refine xc_seq (fun K hK3 => ?_)
  refine xc_region ?_
  refine x_val (r_move s0) (nd_of rfl) rfl ?_
  refine x_val (r_nilCheck es) (nd_of rfl) rfl ?_
  refine x_val (r_fieldAddr (o' := 2) Try.underlying51 rfl Try.sizeOf22 rfl es rfl) (nd_of rfl) rfl ?_
  refine x_val (r_load h 0 rfl Try.isAgg22 es gc2) (nd_of rfl) rfl ?_
  refine x_val (r_len Try.underlying22 es) (nd_of rfl) rfl ?_
  refine x_val (r_gtr es ec (decide_eq_false (by simp))) (nd_of rfl) rfl ?_
  refine xw_nil ?_
  refine hK3 _ _ ?_
  refine xc_gen (fun g hg => ?_)
  have s0 := (hg 0).trans (en rfl (en rfl (en rfl (en rfl (en rfl (en rfl s0))))))
  have s1 := (hg 1).trans (en rfl (en rfl (en rfl (en rfl (en rfl (en rfl s1))))))
  have s4 := (hg 4).trans (en rfl (en rfl (en rfl (en rfl (en rfl (en rfl s4))))))
  have s11 := (hg 11).trans es
  clear hg
  refine xc_cond s11 (fun hc => by cases hc) (fun _ => ?_)
  refine xc_skip ?_
  refine hK2 _ _ ?_
  refine xc_seq (fun K hK4 => ?_)
  have h := h.f3
  have h := h.f3
  have h := h.f2
  have h := h.f3
  refine xc_region ?_
  refine x_val (r_move s0) (nd_of rfl) rfl ?_
  refine x_val (r_move (en rfl s0)) (nd_of rfl) rfl ?_
  refine x_val (r_nilCheck es) (nd_of rfl) rfl ?_
  refine x_val (r_fieldAddr (o' := 0) Try.underlying51 rfl Try.sizeOf48 rfl es rfl) (nd_of rfl) rfl ?_
  refine x_val (r_load h 1 rfl Try.isAgg48 es gc0) (nd_of rfl) rfl ?_
  refine x_val (r_move (en rfl (en rfl (en rfl (en rfl (en rfl s1)))))) (nd_of rfl) rfl ?_
  refine x_bslice (c := #[.int .i64 x]) h Try.underlying48 Try.sizeOf2 Try.zeroValue2 rfl rfl es rfl Ok.int1 rfl ?_; intro bn w h; have h := h.f1
  refine x_append (bytes := 8) h Try.underlying48 (by kernel_rfl) (en rfl (en rfl es)) es Ok.int1 (by omega) (by omega) rfl ?_; intro xs2 w h; obtain ⟨ax, cx2, rfl, _, _⟩ := h.rowVal; have h := h.f1.drop
  have h := h.f3
  have h := h.f1
  have h := h.f2
  have h := h.f3
  refine x_val (r_nilCheck (en rfl (en rfl (en rfl (en rfl (en rfl (en rfl (en rfl es)))))))) (nd_of rfl) rfl ?_
  refine x_val (r_fieldAddr (o' := 0) Try.underlying51 rfl Try.sizeOf48 rfl es rfl) (nd_of rfl) rfl ?_
  refine x_st (r_store h 1 rfl Try.sizeOf48 es (en rfl (en rfl es)) rfl gc0) rfl (h.u1 sc0) ?_
  intro w h
  refine xw_nil ?_
  refine hK4 _ _ ?_
  refine xc_gen (fun g hg => ?_)
  have s0 := (hg 0).trans (en rfl (en rfl (en rfl (en rfl (en rfl (en rfl (en rfl (en rfl (en rfl (en rfl s0))))))))))
  have s1 := (hg 1).trans (en rfl (en rfl (en rfl (en rfl (en rfl (en rfl (en rfl (en rfl (en rfl (en rfl s1))))))))))
  have s4 := (hg 4).trans (en rfl (en rfl (en rfl (en rfl (en rfl (en rfl (en rfl (en rfl (en rfl (en rfl s4))))))))))
  have s11 := (hg 11).trans (en rfl (en rfl (en rfl (en rfl (en rfl (en rfl (en rfl (en rfl (en rfl (en rfl s11))))))))))
  clear hg
  refine xc_seq (fun K hK5 => ?_)
  refine xc_region ?_
  refine x_val (r_move s0) (nd_of rfl) rfl ?_
  refine x_val (r_move (en rfl s0)) (nd_of rfl) rfl ?_
  refine x_val (r_nilCheck es) (nd_of rfl) rfl ?_
  refine x_val (r_fieldAddr (o' := 1) Try.underlying51 rfl Try.sizeOf49 rfl es rfl) (nd_of rfl) rfl ?_
  refine x_val (r_load h 1 rfl Try.isAgg49 es gc1) (nd_of rfl) rfl ?_
  refine x_bslice (c := #[.bool true]) h Try.underlying49 Try.sizeOf4 Try.zeroValue4 rfl rfl ec rfl ⟨rfl, by simp [Value.oneCell']⟩ rfl ?_; intro bm w h; have h := h.f1
  refine x_append (bytes := 1) h Try.underlying49 (by kernel_rfl) (en rfl es) es ⟨rfl, by simp [Value.oneCell']⟩ (by omega) (by omega) rfl ?_; intro ts2 w h; obtain ⟨at2, ct2, rfl, _, _⟩ := h.rowVal; have h := h.f1.drop
  have h := h.f3
  have h := h.f1
  have h := h.f3
  have h := h.f3
  refine x_val (r_nilCheck (en rfl (en rfl (en rfl (en rfl (en rfl (en rfl es))))))) (nd_of rfl) rfl ?_
  refine x_val (r_fieldAddr (o' := 1) Try.underlying51 rfl Try.sizeOf49 rfl es rfl) (nd_of rfl) rfl ?_
  refine x_st (r_store h 0 rfl Try.sizeOf49 es (en rfl (en rfl es)) rfl gc1) rfl (h.u0 sc1) ?_
  intro w h
  refine xw_nil ?_
  refine hK5 _ _ ?_
  refine xc_gen (fun g hg => ?_)
  have s0 := (hg 0).trans (en rfl (en rfl (en rfl (en rfl (en rfl (en rfl (en rfl (en rfl (en rfl s0)))))))))
  have s1 := (hg 1).trans (en rfl (en rfl (en rfl (en rfl (en rfl (en rfl (en rfl (en rfl (en rfl s1)))))))))
  have s4 := (hg 4).trans (en rfl (en rfl (en rfl (en rfl (en rfl (en rfl (en rfl (en rfl (en rfl s4)))))))))
  have s11 := (hg 11).trans (en rfl (en rfl (en rfl (en rfl (en rfl (en rfl (en rfl (en rfl (en rfl s11)))))))))
  clear hg
  refine xc_seq (fun K hK6 => ?_)
  refine xc_region ?_
  refine x_val (r_move s0) (nd_of rfl) rfl ?_
  refine x_val (r_nilCheck es) (nd_of rfl) rfl ?_
  refine x_val (r_fieldAddr (o' := 0) Try.underlying51 rfl Try.sizeOf48 rfl es rfl) (nd_of rfl) rfl ?_
  refine x_val (r_load h 0 rfl Try.isAgg48 es gc0) (nd_of rfl) rfl ?_
  refine x_val (r_len Try.underlying48 es) (nd_of rfl) rfl ?_
  refine x_val (r_sub es ec (show _ = ((pl.length : Int) : Int) from by omega) (by unfold I64; omega)) (nd_of rfl) rfl ?_
  refine x_val (r_assign es) (nd_of rfl) rfl ?_
  refine xw_nil ?_
  refine hK6 _ _ ?_
  refine xc_gen (fun g hg => ?_)
  have s0 := (hg 0).trans (en rfl (en rfl (en rfl (en rfl (en rfl (en rfl (en rfl s0)))))))
  have s1 := (hg 1).trans (en rfl (en rfl (en rfl (en rfl (en rfl (en rfl (en rfl s1)))))))
  have s4 := (hg 4).trans es
  have s11 := (hg 11).trans (en rfl (en rfl (en rfl (en rfl (en rfl (en rfl (en rfl s11)))))))
  clear hg
  refine xc_ret ?_
  refine bodyR_1 rfl s4 ?_
  exact ⟨rfl, SatL.closeRef (by rw [List.length_append, xsC, tkC, List.map_append, List.map_append]; exact h)⟩
theorem reftake_free {j : Nat} (hj : j < pl.length) (hb : fr.length ≤ 1000000) (h : SatL E w (RefA b pl (fr ++ [j]) :: R)) :
    Calls Try.prog 22 #[.pointer (some ⟨b, 0, none⟩), .int .i64 x] w (Ret fun v w' => v = .int .i64 (j : Int) ∧ SatL E w' (RefA b (pl.set j (some x)) fr :: R)) := by
  obtain ⟨xs, ts, fs, h⟩ := h.openRef
  rw [List.length_append, List.length_singleton] at h
  obtain ⟨gf, cf, curf, hrf, h1⟩ := (h.f3).openRow (by omega)
  clear h
  obtain rfl := hrf.val
  obtain ⟨gt, ct, curt, hrt, h2⟩ := (h1.f3).openRow (by omega)
  clear h1
  obtain rfl := hrt.val
  obtain ⟨gx, cx, curx, hrx, h⟩ := (h2.f3).openRow (by omega)
  clear h2
  obtain rfl := hrx.val
  have e1 := hrf.le
  have e2 := hrx.size
  have e3 := hrx.le
  have e4 := hrt.size
  have e5 := hrt.le
  have hjv : curf[fr.length]? = some (Value.int .i64 (j : Int)) := hrf.get (by rw [frC_snoc, List.getElem?_append_right (by rw [frC_len]; exact Nat.le_refl _), frC_len, Nat.sub_self]; rfl)
  refine calls_x Try.func22 rfl Try.ntmps22 rfl ?_
  refine xc_gen (fun g hg => ?_)
  have s0 := (hg 0).trans arg0
  have s1 := (hg 1).trans arg1
  clear hg
  refine xc_seq (fun K hK1 => ?_)
  refine xc_region ?_
  refine x_val (r_assign ec) (nd_of rfl) rfl ?_
  refine xw_nil ?_
  refine hK1 _ _ ?_
  refine xc_gen (fun g hg => ?_)
  have s0 := (hg 0).trans (en rfl s0)
  have s1 := (hg 1).trans (en rfl s1)
  have s4 := (hg 4).trans es
  clear hg
  refine xc_seq (fun K hK2 => ?_)
  refine xc_seq (fun K hK3 => ?_)
  refine xc_region ?_
  refine x_val (r_move s0) (nd_of rfl) rfl ?_
  refine x_val (r_nilCheck es) (nd_of rfl) rfl ?_
  refine x_val (r_fieldAddr (o' := 2) Try.underlying51 rfl Try.sizeOf22 rfl es rfl) (nd_of rfl) rfl ?_
  refine x_val (r_load h 3 rfl Try.isAgg22 es gc2) (nd_of rfl) rfl ?_
  refine x_val (r_len Try.underlying22 es) (nd_of rfl) rfl ?_
  refine x_val (r_gtr es ec (decide_eq_true (by omega))) (nd_of rfl) rfl ?_
  refine xw_nil ?_
  refine hK3 _ _ ?_
  refine xc_gen (fun g hg => ?_)
  have s0 := (hg 0).trans (en rfl (en rfl (en rfl (en rfl (en rfl (en rfl s0))))))
  have s1 := (hg 1).trans (en rfl (en rfl (en rfl (en rfl (en rfl (en rfl s1))))))
  have s4 := (hg 4).trans (en rfl (en rfl (en rfl (en rfl (en rfl (en rfl s4))))))
  have s11 := (hg 11).trans es
  clear hg
  refine xc_cond s11 (fun _ => ?_) (fun hc => by cases hc)
  refine xc_seq (fun K hK4 => ?_)
  refine xc_plan 13 [(0, 2), (1, 2), (2, 2), (3, 1), (4, 2), (5, 2), (6, 2), (7, 1), (8, 2), (9, 2), (10, 2), (11, 1), (12, 2)] (by kernel_rfl) rfl (by kernel_rfl) h ?_
  have h := h.drew
  refine xp_read (i := 0) rfl (fun W => r_move s0) rfl (fun _ _ _ hh => by first | exact bodyR_np hh | exact bodyY_np hh | exact hh) ?_
  refine xp_read (i := 1) rfl (fun W => r_nilCheck es) rfl (fun _ _ _ hh => by first | exact bodyR_np hh | exact bodyY_np hh | exact hh) ?_
  refine xp_read (i := 2) rfl (fun W => r_fieldAddr (o' := 2) Try.underlying51 rfl Try.sizeOf22 rfl es rfl) rfl (fun _ _ _ hh => by first | exact bodyR_np hh | exact bodyY_np hh | exact hh) ?_
  refine xp_load (i := 3) rfl (fun W hW => r_load hW 3 rfl Try.isAgg22 es gc2) rfl (fun _ _ _ hh => by first | exact bodyR_np hh | exact bodyY_np hh | exact hh) ?_
  refine xp_read (i := 4) rfl (fun W => r_move (en rfl (en rfl (en rfl (en rfl s0))))) rfl (fun _ _ _ hh => by first | exact bodyR_np hh | exact bodyY_np hh | exact hh) ?_
  refine xp_read (i := 5) rfl (fun W => r_nilCheck es) rfl (fun _ _ _ hh => by first | exact bodyR_np hh | exact bodyY_np hh | exact hh) ?_
  refine xp_read (i := 6) rfl (fun W => r_fieldAddr (o' := 2) Try.underlying51 rfl Try.sizeOf22 rfl es rfl) rfl (fun _ _ _ hh => by first | exact bodyR_np hh | exact bodyY_np hh | exact hh) ?_
  refine xp_load (i := 7) rfl (fun W hW => r_load hW 3 rfl Try.isAgg22 es gc2) rfl (fun _ _ _ hh => by first | exact bodyR_np hh | exact bodyY_np hh | exact hh) ?_
  refine xp_read (i := 8) rfl (fun W => r_len Try.underlying22 es) rfl (fun _ _ _ hh => by first | exact bodyR_np hh | exact bodyY_np hh | exact hh) ?_
  refine xp_read (i := 9) rfl (fun W => r_sub es ec (show _ = ((fr.length : Int) : Int) from by omega) (by unfold I64; omega)) rfl (fun _ _ _ hh => by first | exact bodyR_np hh | exact bodyY_np hh | exact hh) ?_
  refine xp_read (i := 10) rfl (fun W => r_indexAddrN Try.underlying22 Try.sizeOf3 (en rfl (en rfl (en rfl (en rfl (en rfl (en rfl es)))))) es (by omega)) rfl (fun _ _ _ hh => by first | exact bodyR_np hh | exact bodyY_np hh | exact hh) ?_
  refine xp_load (i := 11) rfl (fun W hW => r_load hW 2 rfl Try.isAgg3 es (by rw [Nat.mul_one]; exact hjv)) rfl (fun _ _ _ hh => by first | exact bodyR_np hh | exact bodyY_np hh | exact hh) ?_
  refine xp_read (i := 12) rfl (fun W => r_assign es) rfl (fun _ _ _ hh => by first | exact bodyR_np hh | exact bodyY_np hh | exact hh) ?_
  refine xp_nil ?_
  refine hK4 _ _ ?_
  refine xc_gen (fun g hg => ?_)
  have s0 := (hg 0).trans (en rfl (en rfl (en rfl (en rfl (en rfl (en rfl (en rfl (en rfl (en rfl (en rfl (en rfl (en rfl (en rfl s0)))))))))))))
  have s1 := (hg 1).trans (en rfl (en rfl (en rfl (en rfl (en rfl (en rfl (en rfl (en rfl (en rfl (en rfl (en rfl (en rfl (en rfl s1)))))))))))))
  have s4 := (hg 4).trans (en rfl (en rfl (en rfl (en rfl (en rfl (en rfl (en rfl (en rfl (en rfl (en rfl (en rfl (en rfl (en rfl s4)))))))))))))
  have s5 := (hg 5).trans es
  have s11 := (hg 11).trans (en rfl (en rfl (en rfl (en rfl (en rfl (en rfl (en rfl (en rfl (en rfl (en rfl (en rfl (en rfl (en rfl s11)))))))))))))
  clear hg
  refine xc_seq (fun K hK5 => ?_)
  refine xc_plan 16 [(0, 2), (2, 2), (3, 2), (4, 2), (5, 1), (6, 2), (7, 2), (8, 2), (9, 1), (10, 2), (11, 2), (12, 2), (1, 0), (13, 0), (14, 2), (15, 2), (16, 0)] (by kernel_rfl) rfl (by kernel_rfl) h ?_
  have h := h.drew
  refine xp_read (i := 0) rfl (fun W => r_move s0) rfl (fun _ _ _ hh => by first | exact bodyR_np hh | exact bodyY_np hh | exact hh) ?_
  refine xp_read (i := 2) rfl (fun W => r_move (en rfl s0)) rfl (fun _ _ _ hh => by first | exact bodyR_np hh | exact bodyY_np hh | exact hh) ?_
  refine xp_read (i := 3) rfl (fun W => r_nilCheck es) rfl (fun _ _ _ hh => by first | exact bodyR_np hh | exact bodyY_np hh | exact hh) ?_
  refine xp_read (i := 4) rfl (fun W => r_fieldAddr (o' := 2) Try.underlying51 rfl Try.sizeOf22 rfl es rfl) rfl (fun _ _ _ hh => by first | exact bodyR_np hh | exact bodyY_np hh | exact hh) ?_
  refine xp_load (i := 5) rfl (fun W hW => r_load hW 3 rfl Try.isAgg22 es gc2) rfl (fun _ _ _ hh => by first | exact bodyR_np hh | exact bodyY_np hh | exact hh) ?_
  refine xp_read (i := 6) rfl (fun W => r_move (en rfl (en rfl (en rfl (en rfl (en rfl s0)))))) rfl (fun _ _ _ hh => by first | exact bodyR_np hh | exact bodyY_np hh | exact hh) ?_
  refine xp_read (i := 7) rfl (fun W => r_nilCheck es) rfl (fun _ _ _ hh => by first | exact bodyR_np hh | exact bodyY_np hh | exact hh) ?_
  refine xp_read (i := 8) rfl (fun W => r_fieldAddr (o' := 2) Try.underlying51 rfl Try.sizeOf22 rfl es rfl) rfl (fun _ _ _ hh => by first | exact bodyR_np hh | exact bodyY_np hh | exact hh) ?_
  refine xp_load (i := 9) rfl (fun W hW => r_load hW 3 rfl Try.isAgg22 es gc2) rfl (fun _ _ _ hh => by first | exact bodyR_np hh | exact bodyY_np hh | exact hh) ?_
  refine xp_read (i := 10) rfl (fun W => r_len Try.underlying22 es) rfl (fun _ _ _ hh => by first | exact bodyR_np hh | exact bodyY_np hh | exact hh) ?_
  refine xp_read (i := 11) rfl (fun W => r_sub es ec (show _ = ((fr.length : Int) : Int) from by omega) (by unfold I64; omega)) rfl (fun _ _ _ hh => by first | exact bodyR_np hh | exact bodyY_np hh | exact hh) ?_
  refine xp_read (i := 12) rfl (fun W => r_sliceToN Try.underlying22 Try.sizeOf3 (en rfl (en rfl (en rfl (en rfl (en rfl (en rfl es)))))) es (by omega)) rfl (fun _ _ _ hh => by first | exact bodyR_np hh | exact bodyY_np hh | exact hh) ?_
  refine xp_bslice0 (i := 1) h rfl Try.underlying22 Try.sizeOf3 rfl ?_; intro bn w h; refine ⟨fun _ => h.drop, ?_⟩
  refine xp_append_at (i := 13) (bytes := 8) (news := frC fr) h rfl Try.underlying22 (by kernel_rfl) es (en rfl es) (by simp [frC]) (fun t u ht => by rw [add_pt, Nat.zero_add]; refine h.cell 3 rfl (hrf.get ?_); rw [frC_snoc, List.getElem?_append_left (List.getElem?_eq_some_iff.1 ht).1]; exact ht) frC_one (by omega) (by omega) rfl ?_; intro fs2 w h; refine ⟨fun _ => h.drop, ?_⟩; rw [Nat.zero_add, List.nil_append] at h; obtain ⟨af, cf2, rfl, _, _⟩ := h.rowVal
  have h := (h.f3).drop
  refine xp_read (i := 14) rfl (fun W => r_nilCheck (en rfl (en rfl (en rfl (en rfl (en rfl (en rfl (en rfl (en rfl (en rfl (en rfl (en rfl (en rfl (en rfl es)))))))))))))) rfl (fun _ _ _ hh => by first | exact bodyR_np hh | exact bodyY_np hh | exact hh) ?_
  refine xp_read (i := 15) rfl (fun W => r_fieldAddr (o' := 2) Try.underlying51 rfl Try.sizeOf22 rfl es rfl) rfl (fun _ _ _ hh => by first | exact bodyR_np hh | exact bodyY_np hh | exact hh) ?_
  refine xp_st (i := 16) rfl (r_store h 3 rfl Try.sizeOf22 es (en rfl (en rfl es)) rfl gc2) (h.u3 sc2) (fun hh => absurd rfl hh) ?_
  intro w h
  refine xp_nil ?_
  refine hK5 _ _ ?_
  refine xc_gen (fun g hg => ?_)
  have s0 := (hg 0).trans (en rfl (en rfl (en rfl (en rfl (en rfl (en rfl (en rfl (en rfl (en rfl (en rfl (en rfl (en rfl (en rfl (en rfl (en rfl (en rfl s0))))))))))))))))
  have s1 := (hg 1).trans (en rfl (en rfl (en rfl (en rfl (en rfl (en rfl (en rfl (en rfl (en rfl (en rfl (en rfl (en rfl (en rfl (en rfl (en rfl (en rfl s1))))))))))))))))
  have s4 := (hg 4).trans (en rfl (en rfl (en rfl (en rfl (en rfl (en rfl (en rfl (en rfl (en rfl (en rfl (en rfl (en rfl (en rfl (en rfl (en rfl (en rfl s4))))))))))))))))
  have s5 := (hg 5).trans (en rfl (en rfl (en rfl (en rfl (en rfl (en rfl (en rfl (en rfl (en rfl (en rfl (en rfl (en rfl (en rfl (en rfl (en rfl (en rfl s5))))))))))))))))
  have s11 := (hg 11).trans (en rfl (en rfl (en rfl (en rfl (en rfl (en rfl (en rfl (en rfl (en rfl (en rfl (en rfl (en rfl (en rfl (en rfl (en rfl (en rfl s11))))))))))))))))
  clear hg
  refine xc_seq (fun K hK6 => ?_)
  refine xc_region ?_
  refine x_val (r_move s0) (nd_of rfl) rfl ?_
  refine x_val (r_nilCheck es) (nd_of rfl) rfl ?_
  refine x_val (r_fieldAddr (o' := 0) Try.underlying51 rfl Try.sizeOf48 rfl es rfl) (nd_of rfl) rfl ?_
  refine x_val (r_load h 3 rfl Try.isAgg48 es gc0) (nd_of rfl) rfl ?_
  refine x_val (r_move (en rfl (en rfl (en rfl (en rfl s5))))) (nd_of rfl) rfl ?_
  refine x_val (r_move (en rfl (en rfl (en rfl (en rfl (en rfl s1)))))) (nd_of rfl) rfl ?_
  refine x_val (r_indexAddrN Try.underlying48 Try.sizeOf2 (en rfl (en rfl es)) (en rfl es) (by omega)) (nd_of rfl) rfl ?_
  refine x_st (r_store h 1 rfl Try.sizeOf2 es (en rfl es) rfl (Array.getElem?_eq_getElem (by omega))) rfl (h.u1 rfl) ?_
  intro w h
  refine xw_nil ?_
  refine hK6 _ _ ?_
  refine xc_gen (fun g hg => ?_)
  have s0 := (hg 0).trans (en rfl (en rfl (en rfl (en rfl (en rfl (en rfl (en rfl s0)))))))
  have s1 := (hg 1).trans (en rfl (en rfl (en rfl (en rfl (en rfl (en rfl (en rfl s1)))))))
  have s4 := (hg 4).trans (en rfl (en rfl (en rfl (en rfl (en rfl (en rfl (en rfl s4)))))))
  have s5 := (hg 5).trans (en rfl (en rfl (en rfl (en rfl (en rfl (en rfl (en rfl s5)))))))
  have s11 := (hg 11).trans (en rfl (en rfl (en rfl (en rfl (en rfl (en rfl (en rfl s11)))))))
  clear hg
  refine xc_seq (fun K hK7 => ?_)
  refine xc_region ?_
  refine x_val (r_move s0) (nd_of rfl) rfl ?_
  refine x_val (r_nilCheck es) (nd_of rfl) rfl ?_
  refine x_val (r_fieldAddr (o' := 1) Try.underlying51 rfl Try.sizeOf49 rfl es rfl) (nd_of rfl) rfl ?_
  refine x_val (r_load h 3 rfl Try.isAgg49 es gc1) (nd_of rfl) rfl ?_
  refine x_val (r_move (en rfl (en rfl (en rfl (en rfl s5))))) (nd_of rfl) rfl ?_
  refine x_val (r_indexAddrN Try.underlying49 Try.sizeOf4 (en rfl es) es (by omega)) (nd_of rfl) rfl ?_
  refine x_st (r_store h 2 rfl Try.sizeOf4 es ec rfl (Array.getElem?_eq_getElem (by omega))) rfl (h.u2 rfl) ?_
  intro w h
  refine xw_nil ?_
  refine hK7 _ _ ?_
  refine xc_gen (fun g hg => ?_)
  have s0 := (hg 0).trans (en rfl (en rfl (en rfl (en rfl (en rfl (en rfl s0))))))
  have s1 := (hg 1).trans (en rfl (en rfl (en rfl (en rfl (en rfl (en rfl s1))))))
  have s4 := (hg 4).trans (en rfl (en rfl (en rfl (en rfl (en rfl (en rfl s4))))))
  have s5 := (hg 5).trans (en rfl (en rfl (en rfl (en rfl (en rfl (en rfl s5))))))
  have s11 := (hg 11).trans (en rfl (en rfl (en rfl (en rfl (en rfl (en rfl s11))))))
  clear hg
  refine xc_seq (fun K hK8 => ?_)
  simp only [Nat.mul_one] at h
  refine xc_region ?_
  refine x_val (r_move s5) (nd_of rfl) rfl ?_
  refine x_val (r_assign es) (nd_of rfl) rfl ?_
  refine xw_nil ?_
  refine hK8 _ _ ?_
  refine xc_gen (fun g hg => ?_)
  have s0 := (hg 0).trans (en rfl (en rfl s0))
  have s1 := (hg 1).trans (en rfl (en rfl s1))
  have s4 := (hg 4).trans es
  have s5 := (hg 5).trans (en rfl (en rfl s5))
  have s11 := (hg 11).trans (en rfl (en rfl s11))
  clear hg
  refine xc_ret ?_
  refine bodyR_1 rfl s4 ?_
  exact ⟨rfl, SatL.closeRef (by rw [List.length_set, ← tkC_set, ← xsC_set]; exact ((((h.f1).closeRow (hrx.set _ _)).f2.closeRow (hrt.set _ _)).f1.f3))⟩
end
end Go.Proofs.Ytfmhcefjbghhlaa
