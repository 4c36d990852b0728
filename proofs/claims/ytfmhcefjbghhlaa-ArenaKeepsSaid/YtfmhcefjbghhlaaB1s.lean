/-
The arena of string: New, asked, At, Put, Free, Take, Len, Cap; also what is refused.
-/
import Derived.Test.YtfmhcefjbghhlaaX6
import Derived.Test.YtfmhcefjbghhlaaRows
namespace Go.Proofs.Ytfmhcefjbghhlaa.S
open Go Go.RowKit

abbrev KN : Nat := 1
/-- the zero thing's cells -/
noncomputable def zN : Array Value := match Try.t9.zero with | some v => v.cells | none => #[]
abbrev Ar (b : Nat) (pl : List (Option (Array Value))) (fr : List Nat) : SProp := Arena 69 71 KN zN b pl fr

section
variable {E : Env} {R : List SProp} {w : World} {b : Nat} {pl : List (Option (Array Value))} {fr : List Nat} {i : Nat} {x : ByteArray}

theorem Xok {x : ByteArray} : Ok KN #[(Value.string x)] := ⟨rfl, by simp [Value.oneCell']⟩

theorem asked_ok {c : Array Value} (hi : pl[i]? = some (some c)) (h : SatL E w (Ar b pl fr :: R)) :
    Calls Try.prog 29 #[.pointer (some ⟨b, 0, none⟩), .int .i64 (i : Int)] w (Ret fun v w' => v = .int .i64 0 ∧ SatL E w' (Ar b pl fr :: R)) := by
  have hlt := (List.getElem?_eq_some_iff.1 hi).1
  refine calls_x Try.func29 rfl Try.ntmps29 rfl ?_
  refine xc_gen (fun g hg => ?_)
  have s0 := (hg 0).trans arg0
  have s1 := (hg 1).trans arg1
  clear hg
  obtain ⟨ps, fs, hp, h⟩ := h.openArena
  obtain ⟨gp, cp, cur, hr, h⟩ := (h.f1).openRow (by omega)
  obtain rfl := hr.val
  refine xc_seq (fun K hK1 => ?_)
  refine xc_region ?_
  refine x_val (r_assign ec) (nd_of rfl) rfl ?_
  refine xw_nil ?_
  refine hK1 _ _ ?_
  refine xc_gen (fun g hg => ?_)
  have s0 := (hg 0).trans (en rfl s0)
  have s1 := (hg 1).trans (en rfl s1)
  have s4 := (hg 4).trans es
  clear hg
  refine xc_seq (fun K hK2 => ?_)
  refine xc_block ?_
  refine xc_seq (fun K hK3 => ?_)
  refine xc_region ?_
  refine x_val (r_move s0) (nd_of rfl) rfl ?_
  refine x_val (r_eqnil Try.underlying33 es ec (r := false) rfl) (nd_of rfl) rfl ?_
  refine x_val (r_assign es) (nd_of rfl) rfl ?_
  refine xw_nil ?_
  refine hK3 _ _ ?_
  refine xc_gen (fun g hg => ?_)
  have s0 := (hg 0).trans (en rfl (en rfl (en rfl s0)))
  have s1 := (hg 1).trans (en rfl (en rfl (en rfl s1)))
  have s4 := (hg 4).trans (en rfl (en rfl (en rfl s4)))
  have s5 := (hg 5).trans es
  clear hg
  refine xc_cond s5 (fun hc => by cases hc) (fun _ => ?_)
  refine xc_seq (fun K hK4 => ?_)
  refine xc_region ?_
  refine x_val (r_move s1) (nd_of rfl) rfl ?_
  refine x_val (r_lss es ec (decide_eq_false (by omega))) (nd_of rfl) rfl ?_
  refine x_val (r_move es) (nd_of rfl) rfl ?_
  refine x_take (d := 11) rfl rfl es ?_
  refine x_val (r_move (en rfl (en rfl (en rfl s1)))) (nd_of rfl) rfl ?_
  refine x_take (d := 11) rfl rfl (en rfl es) ?_
  refine x_val (r_move (en rfl (en rfl (en rfl (en rfl s0))))) (nd_of rfl) rfl ?_
  refine x_take (d := 11) rfl rfl (en rfl (en rfl es)) ?_
  refine x_val (r_nilCheck es) (nd_of rfl) rfl ?_
  refine x_take (d := 11) rfl rfl (en rfl (en rfl (en rfl es))) ?_
  refine x_val (r_fieldAddr (o' := 0) Try.underlying69 rfl Try.sizeOf67 rfl es rfl) (nd_of rfl) rfl ?_
  refine x_take (d := 11) rfl rfl (en rfl (en rfl (en rfl (en rfl es)))) ?_
  refine x_val (r_load h 1 rfl Try.isAgg67 es gc0) (nd_of rfl) rfl ?_
  refine x_take (d := 11) rfl rfl (en rfl (en rfl (en rfl (en rfl (en rfl es))))) ?_
  refine x_val (r_len Try.underlying67 es) (nd_of rfl) rfl ?_
  refine x_take (d := 11) rfl rfl (en rfl (en rfl (en rfl (en rfl (en rfl (en rfl es)))))) ?_
  refine x_val (r_geq (en rfl (en rfl (en rfl (en rfl (en rfl es))))) es (decide_eq_false (by omega))) (nd_of rfl) rfl ?_
  refine x_val (r_pick_f (en rfl (en rfl (en rfl (en rfl (en rfl (en rfl (en rfl es))))))) es) (nd_of rfl) rfl ?_
  refine x_val (r_move es) (nd_of rfl) rfl ?_
  refine x_take (d := 20) rfl rfl es ?_
  refine x_val (r_move (en rfl (en rfl (en rfl (en rfl (en rfl (en rfl (en rfl (en rfl (en rfl (en rfl (en rfl (en rfl s0))))))))))))) (nd_of rfl) rfl ?_
  refine x_take (d := 20) rfl rfl (en rfl es) ?_
  refine x_val (r_nilCheck es) (nd_of rfl) rfl ?_
  refine x_take (d := 20) rfl rfl (en rfl (en rfl es)) ?_
  refine x_val (r_fieldAddr (o' := 0) Try.underlying69 rfl Try.sizeOf67 rfl es rfl) (nd_of rfl) rfl ?_
  refine x_take (d := 20) rfl rfl (en rfl (en rfl (en rfl es))) ?_
  refine x_val (r_load h 1 rfl Try.isAgg67 es gc0) (nd_of rfl) rfl ?_
  refine x_take (d := 20) rfl rfl (en rfl (en rfl (en rfl (en rfl es)))) ?_
  refine x_val (r_move (en rfl (en rfl (en rfl (en rfl (en rfl (en rfl (en rfl (en rfl (en rfl (en rfl (en rfl (en rfl (en rfl (en rfl (en rfl (en rfl s1))))))))))))))))) (nd_of rfl) rfl ?_
  refine x_take (d := 20) rfl rfl (en rfl (en rfl (en rfl (en rfl (en rfl es))))) ?_
  refine x_val (r_indexAddrN Try.underlying67 Try.sizeOf71 (en rfl es) es (by omega)) (nd_of rfl) rfl ?_
  refine x_take (d := 20) rfl rfl (en rfl (en rfl (en rfl (en rfl (en rfl (en rfl es)))))) ?_
  refine x_val (r_fieldAddr (o' := _ + 1) Try.underlying71 rfl Try.sizeOf4 rfl es rfl) (nd_of rfl) rfl ?_
  refine x_take (d := 20) rfl rfl (en rfl (en rfl (en rfl (en rfl (en rfl (en rfl (en rfl es))))))) ?_
  refine x_val (r_load h 0 rfl Try.isAgg4 es (hr.get (hp.taken hi))) (nd_of rfl) rfl ?_
  refine x_take (d := 20) rfl rfl (en rfl (en rfl (en rfl (en rfl (en rfl (en rfl (en rfl (en rfl es)))))))) ?_
  refine x_val (r_not es rfl) (nd_of rfl) rfl ?_
  refine x_val (r_pick_f (en rfl (en rfl (en rfl (en rfl (en rfl (en rfl (en rfl (en rfl (en rfl es))))))))) es) (nd_of rfl) rfl ?_
  refine x_val (r_assign es) (nd_of rfl) rfl ?_
  refine xw_nil ?_
  refine hK4 _ _ ?_
  refine xc_gen (fun g hg => ?_)
  have s0 := (hg 0).trans (en rfl (en rfl (en rfl (en rfl (en rfl (en rfl (en rfl (en rfl (en rfl (en rfl (en rfl (en rfl (en rfl (en rfl (en rfl (en rfl (en rfl (en rfl (en rfl (en rfl (en rfl (en rfl (en rfl s0)))))))))))))))))))))))
  have s1 := (hg 1).trans (en rfl (en rfl (en rfl (en rfl (en rfl (en rfl (en rfl (en rfl (en rfl (en rfl (en rfl (en rfl (en rfl (en rfl (en rfl (en rfl (en rfl (en rfl (en rfl (en rfl (en rfl (en rfl (en rfl s1)))))))))))))))))))))))
  have s4 := (hg 4).trans (en rfl (en rfl (en rfl (en rfl (en rfl (en rfl (en rfl (en rfl (en rfl (en rfl (en rfl (en rfl (en rfl (en rfl (en rfl (en rfl (en rfl (en rfl (en rfl (en rfl (en rfl (en rfl (en rfl s4)))))))))))))))))))))))
  have s5 := (hg 5).trans (en rfl (en rfl (en rfl (en rfl (en rfl (en rfl (en rfl (en rfl (en rfl (en rfl (en rfl (en rfl (en rfl (en rfl (en rfl (en rfl (en rfl (en rfl (en rfl (en rfl (en rfl (en rfl (en rfl s5)))))))))))))))))))))))
  have s8 := (hg 8).trans es
  clear hg
  refine xc_cond s8 (fun hc => by cases hc) (fun _ => ?_)
  refine xc_skip ?_
  refine hK2 _ _ ?_
  refine xc_seq (fun K hK5 => ?_)
  refine xc_region ?_
  refine x_val (r_assign ec) (nd_of rfl) rfl ?_
  refine xw_nil ?_
  refine hK5 _ _ ?_
  refine xc_gen (fun g hg => ?_)
  have s0 := (hg 0).trans (en rfl s0)
  have s1 := (hg 1).trans (en rfl s1)
  have s4 := (hg 4).trans es
  have s5 := (hg 5).trans (en rfl s5)
  have s8 := (hg 8).trans (en rfl s8)
  clear hg
  refine xc_ret ?_
  refine bodyR_1 rfl s4 ?_
  exact ⟨rfl, SatL.closeArena hp ((h.closeRow hr).f1)⟩

theorem asked_free (hi : pl[i]? = some none) (h : SatL E w (Ar b pl fr :: R)) :
    Calls Try.prog 29 #[.pointer (some ⟨b, 0, none⟩), .int .i64 (i : Int)] w (Ret fun v w' => v = .int .i64 5 ∧ SatL E w' (Ar b pl fr :: R)) := by
  have hlt := (List.getElem?_eq_some_iff.1 hi).1
  refine calls_x Try.func29 rfl Try.ntmps29 rfl ?_
  refine xc_gen (fun g hg => ?_)
  have s0 := (hg 0).trans arg0
  have s1 := (hg 1).trans arg1
  clear hg
  obtain ⟨ps, fs, hp, h⟩ := h.openArena
  obtain ⟨gp, cp, cur, hr, h⟩ := (h.f1).openRow (by omega)
  obtain rfl := hr.val
  refine xc_seq (fun K hK1 => ?_)
  refine xc_region ?_
  refine x_val (r_assign ec) (nd_of rfl) rfl ?_
  refine xw_nil ?_
  refine hK1 _ _ ?_
  refine xc_gen (fun g hg => ?_)
  have s0 := (hg 0).trans (en rfl s0)
  have s1 := (hg 1).trans (en rfl s1)
  have s4 := (hg 4).trans es
  clear hg
  refine xc_seq (fun K hK2 => ?_)
  refine xc_block ?_
  refine xc_seq (fun K hK3 => ?_)
  refine xc_region ?_
  refine x_val (r_move s0) (nd_of rfl) rfl ?_
  refine x_val (r_eqnil Try.underlying33 es ec (r := false) rfl) (nd_of rfl) rfl ?_
  refine x_val (r_assign es) (nd_of rfl) rfl ?_
  refine xw_nil ?_
  refine hK3 _ _ ?_
  refine xc_gen (fun g hg => ?_)
  have s0 := (hg 0).trans (en rfl (en rfl (en rfl s0)))
  have s1 := (hg 1).trans (en rfl (en rfl (en rfl s1)))
  have s4 := (hg 4).trans (en rfl (en rfl (en rfl s4)))
  have s5 := (hg 5).trans es
  clear hg
  refine xc_cond s5 (fun hc => by cases hc) (fun _ => ?_)
  refine xc_seq (fun K hK4 => ?_)
  refine xc_region ?_
  refine x_val (r_move s1) (nd_of rfl) rfl ?_
  refine x_val (r_lss es ec (decide_eq_false (by omega))) (nd_of rfl) rfl ?_
  refine x_val (r_move es) (nd_of rfl) rfl ?_
  refine x_take (d := 11) rfl rfl es ?_
  refine x_val (r_move (en rfl (en rfl (en rfl s1)))) (nd_of rfl) rfl ?_
  refine x_take (d := 11) rfl rfl (en rfl es) ?_
  refine x_val (r_move (en rfl (en rfl (en rfl (en rfl s0))))) (nd_of rfl) rfl ?_
  refine x_take (d := 11) rfl rfl (en rfl (en rfl es)) ?_
  refine x_val (r_nilCheck es) (nd_of rfl) rfl ?_
  refine x_take (d := 11) rfl rfl (en rfl (en rfl (en rfl es))) ?_
  refine x_val (r_fieldAddr (o' := 0) Try.underlying69 rfl Try.sizeOf67 rfl es rfl) (nd_of rfl) rfl ?_
  refine x_take (d := 11) rfl rfl (en rfl (en rfl (en rfl (en rfl es)))) ?_
  refine x_val (r_load h 1 rfl Try.isAgg67 es gc0) (nd_of rfl) rfl ?_
  refine x_take (d := 11) rfl rfl (en rfl (en rfl (en rfl (en rfl (en rfl es))))) ?_
  refine x_val (r_len Try.underlying67 es) (nd_of rfl) rfl ?_
  refine x_take (d := 11) rfl rfl (en rfl (en rfl (en rfl (en rfl (en rfl (en rfl es)))))) ?_
  refine x_val (r_geq (en rfl (en rfl (en rfl (en rfl (en rfl es))))) es (decide_eq_false (by omega))) (nd_of rfl) rfl ?_
  refine x_val (r_pick_f (en rfl (en rfl (en rfl (en rfl (en rfl (en rfl (en rfl es))))))) es) (nd_of rfl) rfl ?_
  refine x_val (r_move es) (nd_of rfl) rfl ?_
  refine x_take (d := 20) rfl rfl es ?_
  refine x_val (r_move (en rfl (en rfl (en rfl (en rfl (en rfl (en rfl (en rfl (en rfl (en rfl (en rfl (en rfl (en rfl s0))))))))))))) (nd_of rfl) rfl ?_
  refine x_take (d := 20) rfl rfl (en rfl es) ?_
  refine x_val (r_nilCheck es) (nd_of rfl) rfl ?_
  refine x_take (d := 20) rfl rfl (en rfl (en rfl es)) ?_
  refine x_val (r_fieldAddr (o' := 0) Try.underlying69 rfl Try.sizeOf67 rfl es rfl) (nd_of rfl) rfl ?_
  refine x_take (d := 20) rfl rfl (en rfl (en rfl (en rfl es))) ?_
  refine x_val (r_load h 1 rfl Try.isAgg67 es gc0) (nd_of rfl) rfl ?_
  refine x_take (d := 20) rfl rfl (en rfl (en rfl (en rfl (en rfl es)))) ?_
  refine x_val (r_move (en rfl (en rfl (en rfl (en rfl (en rfl (en rfl (en rfl (en rfl (en rfl (en rfl (en rfl (en rfl (en rfl (en rfl (en rfl (en rfl s1))))))))))))))))) (nd_of rfl) rfl ?_
  refine x_take (d := 20) rfl rfl (en rfl (en rfl (en rfl (en rfl (en rfl es))))) ?_
  refine x_val (r_indexAddrN Try.underlying67 Try.sizeOf71 (en rfl es) es (by omega)) (nd_of rfl) rfl ?_
  refine x_take (d := 20) rfl rfl (en rfl (en rfl (en rfl (en rfl (en rfl (en rfl es)))))) ?_
  refine x_val (r_fieldAddr (o' := _ + 1) Try.underlying71 rfl Try.sizeOf4 rfl es rfl) (nd_of rfl) rfl ?_
  refine x_take (d := 20) rfl rfl (en rfl (en rfl (en rfl (en rfl (en rfl (en rfl (en rfl es))))))) ?_
  refine x_val (r_load h 0 rfl Try.isAgg4 es (hr.get (hp.untaken hi))) (nd_of rfl) rfl ?_
  refine x_take (d := 20) rfl rfl (en rfl (en rfl (en rfl (en rfl (en rfl (en rfl (en rfl (en rfl es)))))))) ?_
  refine x_val (r_not es rfl) (nd_of rfl) rfl ?_
  refine x_val (r_pick_f (en rfl (en rfl (en rfl (en rfl (en rfl (en rfl (en rfl (en rfl (en rfl es))))))))) es) (nd_of rfl) rfl ?_
  refine x_val (r_assign es) (nd_of rfl) rfl ?_
  refine xw_nil ?_
  refine hK4 _ _ ?_
  refine xc_gen (fun g hg => ?_)
  have s0 := (hg 0).trans (en rfl (en rfl (en rfl (en rfl (en rfl (en rfl (en rfl (en rfl (en rfl (en rfl (en rfl (en rfl (en rfl (en rfl (en rfl (en rfl (en rfl (en rfl (en rfl (en rfl (en rfl (en rfl (en rfl s0)))))))))))))))))))))))
  have s1 := (hg 1).trans (en rfl (en rfl (en rfl (en rfl (en rfl (en rfl (en rfl (en rfl (en rfl (en rfl (en rfl (en rfl (en rfl (en rfl (en rfl (en rfl (en rfl (en rfl (en rfl (en rfl (en rfl (en rfl (en rfl s1)))))))))))))))))))))))
  have s4 := (hg 4).trans (en rfl (en rfl (en rfl (en rfl (en rfl (en rfl (en rfl (en rfl (en rfl (en rfl (en rfl (en rfl (en rfl (en rfl (en rfl (en rfl (en rfl (en rfl (en rfl (en rfl (en rfl (en rfl (en rfl s4)))))))))))))))))))))))
  have s5 := (hg 5).trans (en rfl (en rfl (en rfl (en rfl (en rfl (en rfl (en rfl (en rfl (en rfl (en rfl (en rfl (en rfl (en rfl (en rfl (en rfl (en rfl (en rfl (en rfl (en rfl (en rfl (en rfl (en rfl (en rfl s5)))))))))))))))))))))))
  have s8 := (hg 8).trans es
  clear hg
  refine xc_cond s8 (fun _ => ?_) (fun hc => by cases hc)
  refine xc_seq (fun K hK5 => ?_)
  refine xc_region ?_
  refine x_val (r_assign ec) (nd_of rfl) rfl ?_
  refine xw_nil ?_
  refine hK5 _ _ ?_
  refine xc_gen (fun g hg => ?_)
  have s0 := (hg 0).trans (en rfl s0)
  have s1 := (hg 1).trans (en rfl s1)
  have s4 := (hg 4).trans es
  have s5 := (hg 5).trans (en rfl s5)
  have s8 := (hg 8).trans (en rfl s8)
  clear hg
  refine xc_ret ?_
  refine bodyR_1 rfl s4 ?_
  exact ⟨rfl, SatL.closeArena hp ((h.closeRow hr).f1)⟩

theorem asked_neg {i : Int} (hi : i < 0) (h : SatL E w (Ar b pl fr :: R)) :
    Calls Try.prog 29 #[.pointer (some ⟨b, 0, none⟩), .int .i64 i] w (Ret fun v w' => v = .int .i64 5 ∧ SatL E w' (Ar b pl fr :: R)) := by
  refine calls_x Try.func29 rfl Try.ntmps29 rfl ?_
  refine xc_gen (fun g hg => ?_)
  have s0 := (hg 0).trans arg0
  have s1 := (hg 1).trans arg1
  clear hg
  refine xc_seq (fun K hK1 => ?_)
  refine xc_region ?_
  refine x_val (r_assign ec) (nd_of rfl) rfl ?_
  refine xw_nil ?_
  refine hK1 _ _ ?_
  refine xc_gen (fun g hg => ?_)
  have s0 := (hg 0).trans (en rfl s0)
  have s1 := (hg 1).trans (en rfl s1)
  have s4 := (hg 4).trans es
  clear hg
  refine xc_seq (fun K hK2 => ?_)
  refine xc_block ?_
  refine xc_seq (fun K hK3 => ?_)
  refine xc_region ?_
  refine x_val (r_move s0) (nd_of rfl) rfl ?_
  refine x_val (r_eqnil Try.underlying33 es ec (r := false) rfl) (nd_of rfl) rfl ?_
  refine x_val (r_assign es) (nd_of rfl) rfl ?_
  refine xw_nil ?_
  refine hK3 _ _ ?_
  refine xc_gen (fun g hg => ?_)
  have s0 := (hg 0).trans (en rfl (en rfl (en rfl s0)))
  have s1 := (hg 1).trans (en rfl (en rfl (en rfl s1)))
  have s4 := (hg 4).trans (en rfl (en rfl (en rfl s4)))
  have s5 := (hg 5).trans es
  clear hg
  refine xc_cond s5 (fun hc => by cases hc) (fun _ => ?_)
  refine xc_seq (fun K hK4 => ?_)
  refine xc_region ?_
  refine x_val (r_move s1) (nd_of rfl) rfl ?_
  refine x_val (r_lss es ec (decide_eq_true (by omega))) (nd_of rfl) rfl ?_
  refine x_val (r_move es) (nd_of rfl) rfl ?_
  refine x_pass (d := 11) rfl rfl es rfl ?_
  refine x_pass (d := 11) rfl rfl (en rfl es) rfl ?_
  refine x_pass (d := 11) rfl rfl (en rfl (en rfl es)) rfl ?_
  refine x_pass (d := 11) rfl rfl (en rfl (en rfl (en rfl es))) rfl ?_
  refine x_pass (d := 11) rfl rfl (en rfl (en rfl (en rfl (en rfl es)))) rfl ?_
  refine x_pass (d := 11) rfl rfl (en rfl (en rfl (en rfl (en rfl (en rfl es))))) rfl ?_
  refine x_pass (d := 11) rfl rfl (en rfl (en rfl (en rfl (en rfl (en rfl (en rfl es)))))) rfl ?_
  refine x_val (r_pick_t (en rfl (en rfl (en rfl (en rfl (en rfl (en rfl (en rfl es))))))) ec) (nd_of rfl) rfl ?_
  refine x_val (r_move es) (nd_of rfl) rfl ?_
  refine x_pass (d := 20) rfl rfl es rfl ?_
  refine x_pass (d := 20) rfl rfl (en rfl es) rfl ?_
  refine x_pass (d := 20) rfl rfl (en rfl (en rfl es)) rfl ?_
  refine x_pass (d := 20) rfl rfl (en rfl (en rfl (en rfl es))) rfl ?_
  refine x_pass (d := 20) rfl rfl (en rfl (en rfl (en rfl (en rfl es)))) rfl ?_
  refine x_pass (d := 20) rfl rfl (en rfl (en rfl (en rfl (en rfl (en rfl es))))) rfl ?_
  refine x_pass (d := 20) rfl rfl (en rfl (en rfl (en rfl (en rfl (en rfl (en rfl es)))))) rfl ?_
  refine x_pass (d := 20) rfl rfl (en rfl (en rfl (en rfl (en rfl (en rfl (en rfl (en rfl es))))))) rfl ?_
  refine x_pass (d := 20) rfl rfl (en rfl (en rfl (en rfl (en rfl (en rfl (en rfl (en rfl (en rfl es)))))))) rfl ?_
  refine x_val (r_pick_t (en rfl (en rfl (en rfl (en rfl (en rfl (en rfl (en rfl (en rfl (en rfl es))))))))) ec) (nd_of rfl) rfl ?_
  refine x_val (r_assign es) (nd_of rfl) rfl ?_
  refine xw_nil ?_
  refine hK4 _ _ ?_
  refine xc_gen (fun g hg => ?_)
  have s0 := (hg 0).trans (en rfl (en rfl (en rfl (en rfl (en rfl (en rfl (en rfl (en rfl (en rfl (en rfl (en rfl (en rfl (en rfl (en rfl (en rfl (en rfl (en rfl (en rfl (en rfl (en rfl (en rfl (en rfl (en rfl s0)))))))))))))))))))))))
  have s1 := (hg 1).trans (en rfl (en rfl (en rfl (en rfl (en rfl (en rfl (en rfl (en rfl (en rfl (en rfl (en rfl (en rfl (en rfl (en rfl (en rfl (en rfl (en rfl (en rfl (en rfl (en rfl (en rfl (en rfl (en rfl s1)))))))))))))))))))))))
  have s4 := (hg 4).trans (en rfl (en rfl (en rfl (en rfl (en rfl (en rfl (en rfl (en rfl (en rfl (en rfl (en rfl (en rfl (en rfl (en rfl (en rfl (en rfl (en rfl (en rfl (en rfl (en rfl (en rfl (en rfl (en rfl s4)))))))))))))))))))))))
  have s5 := (hg 5).trans (en rfl (en rfl (en rfl (en rfl (en rfl (en rfl (en rfl (en rfl (en rfl (en rfl (en rfl (en rfl (en rfl (en rfl (en rfl (en rfl (en rfl (en rfl (en rfl (en rfl (en rfl (en rfl (en rfl s5)))))))))))))))))))))))
  have s8 := (hg 8).trans es
  clear hg
  refine xc_cond s8 (fun _ => ?_) (fun hc => by cases hc)
  refine xc_seq (fun K hK5 => ?_)
  refine xc_region ?_
  refine x_val (r_assign ec) (nd_of rfl) rfl ?_
  refine xw_nil ?_
  refine hK5 _ _ ?_
  refine xc_gen (fun g hg => ?_)
  have s0 := (hg 0).trans (en rfl s0)
  have s1 := (hg 1).trans (en rfl s1)
  have s4 := (hg 4).trans es
  have s5 := (hg 5).trans (en rfl s5)
  have s8 := (hg 8).trans (en rfl s8)
  clear hg
  refine xc_ret ?_
  refine bodyR_1 rfl s4 ?_
  exact ⟨rfl, h⟩

theorem asked_far {i : Int} (hi : (pl.length : Int) ≤ i) (h : SatL E w (Ar b pl fr :: R)) :
    Calls Try.prog 29 #[.pointer (some ⟨b, 0, none⟩), .int .i64 i] w (Ret fun v w' => v = .int .i64 5 ∧ SatL E w' (Ar b pl fr :: R)) := by
  refine calls_x Try.func29 rfl Try.ntmps29 rfl ?_
  refine xc_gen (fun g hg => ?_)
  have s0 := (hg 0).trans arg0
  have s1 := (hg 1).trans arg1
  clear hg
  obtain ⟨ps, fs, hp, h⟩ := h.openArena
  obtain ⟨gp, cp, rfl, _, _⟩ := (h.f1).rowVal
  refine xc_seq (fun K hK1 => ?_)
  refine xc_region ?_
  refine x_val (r_assign ec) (nd_of rfl) rfl ?_
  refine xw_nil ?_
  refine hK1 _ _ ?_
  refine xc_gen (fun g hg => ?_)
  have s0 := (hg 0).trans (en rfl s0)
  have s1 := (hg 1).trans (en rfl s1)
  have s4 := (hg 4).trans es
  clear hg
  refine xc_seq (fun K hK2 => ?_)
  refine xc_block ?_
  refine xc_seq (fun K hK3 => ?_)
  refine xc_region ?_
  refine x_val (r_move s0) (nd_of rfl) rfl ?_
  refine x_val (r_eqnil Try.underlying33 es ec (r := false) rfl) (nd_of rfl) rfl ?_
  refine x_val (r_assign es) (nd_of rfl) rfl ?_
  refine xw_nil ?_
  refine hK3 _ _ ?_
  refine xc_gen (fun g hg => ?_)
  have s0 := (hg 0).trans (en rfl (en rfl (en rfl s0)))
  have s1 := (hg 1).trans (en rfl (en rfl (en rfl s1)))
  have s4 := (hg 4).trans (en rfl (en rfl (en rfl s4)))
  have s5 := (hg 5).trans es
  clear hg
  refine xc_cond s5 (fun hc => by cases hc) (fun _ => ?_)
  refine xc_seq (fun K hK4 => ?_)
  refine xc_region ?_
  refine x_val (r_move s1) (nd_of rfl) rfl ?_
  refine x_val (r_lss es ec (decide_eq_false (by omega))) (nd_of rfl) rfl ?_
  refine x_val (r_move es) (nd_of rfl) rfl ?_
  refine x_take (d := 11) rfl rfl es ?_
  refine x_val (r_move (en rfl (en rfl (en rfl s1)))) (nd_of rfl) rfl ?_
  refine x_take (d := 11) rfl rfl (en rfl es) ?_
  refine x_val (r_move (en rfl (en rfl (en rfl (en rfl s0))))) (nd_of rfl) rfl ?_
  refine x_take (d := 11) rfl rfl (en rfl (en rfl es)) ?_
  refine x_val (r_nilCheck es) (nd_of rfl) rfl ?_
  refine x_take (d := 11) rfl rfl (en rfl (en rfl (en rfl es))) ?_
  refine x_val (r_fieldAddr (o' := 0) Try.underlying69 rfl Try.sizeOf67 rfl es rfl) (nd_of rfl) rfl ?_
  refine x_take (d := 11) rfl rfl (en rfl (en rfl (en rfl (en rfl es)))) ?_
  refine x_val (r_load h 0 rfl Try.isAgg67 es gc0) (nd_of rfl) rfl ?_
  refine x_take (d := 11) rfl rfl (en rfl (en rfl (en rfl (en rfl (en rfl es))))) ?_
  refine x_val (r_len Try.underlying67 es) (nd_of rfl) rfl ?_
  refine x_take (d := 11) rfl rfl (en rfl (en rfl (en rfl (en rfl (en rfl (en rfl es)))))) ?_
  refine x_val (r_geq (en rfl (en rfl (en rfl (en rfl (en rfl es))))) es (decide_eq_true (by omega))) (nd_of rfl) rfl ?_
  refine x_val (r_pick_f (en rfl (en rfl (en rfl (en rfl (en rfl (en rfl (en rfl es))))))) es) (nd_of rfl) rfl ?_
  refine x_val (r_move es) (nd_of rfl) rfl ?_
  refine x_pass (d := 20) rfl rfl es rfl ?_
  refine x_pass (d := 20) rfl rfl (en rfl es) rfl ?_
  refine x_pass (d := 20) rfl rfl (en rfl (en rfl es)) rfl ?_
  refine x_pass (d := 20) rfl rfl (en rfl (en rfl (en rfl es))) rfl ?_
  refine x_pass (d := 20) rfl rfl (en rfl (en rfl (en rfl (en rfl es)))) rfl ?_
  refine x_pass (d := 20) rfl rfl (en rfl (en rfl (en rfl (en rfl (en rfl es))))) rfl ?_
  refine x_pass (d := 20) rfl rfl (en rfl (en rfl (en rfl (en rfl (en rfl (en rfl es)))))) rfl ?_
  refine x_pass (d := 20) rfl rfl (en rfl (en rfl (en rfl (en rfl (en rfl (en rfl (en rfl es))))))) rfl ?_
  refine x_pass (d := 20) rfl rfl (en rfl (en rfl (en rfl (en rfl (en rfl (en rfl (en rfl (en rfl es)))))))) rfl ?_
  refine x_val (r_pick_t (en rfl (en rfl (en rfl (en rfl (en rfl (en rfl (en rfl (en rfl (en rfl es))))))))) ec) (nd_of rfl) rfl ?_
  refine x_val (r_assign es) (nd_of rfl) rfl ?_
  refine xw_nil ?_
  refine hK4 _ _ ?_
  refine xc_gen (fun g hg => ?_)
  have s0 := (hg 0).trans (en rfl (en rfl (en rfl (en rfl (en rfl (en rfl (en rfl (en rfl (en rfl (en rfl (en rfl (en rfl (en rfl (en rfl (en rfl (en rfl (en rfl (en rfl (en rfl (en rfl (en rfl (en rfl (en rfl s0)))))))))))))))))))))))
  have s1 := (hg 1).trans (en rfl (en rfl (en rfl (en rfl (en rfl (en rfl (en rfl (en rfl (en rfl (en rfl (en rfl (en rfl (en rfl (en rfl (en rfl (en rfl (en rfl (en rfl (en rfl (en rfl (en rfl (en rfl (en rfl s1)))))))))))))))))))))))
  have s4 := (hg 4).trans (en rfl (en rfl (en rfl (en rfl (en rfl (en rfl (en rfl (en rfl (en rfl (en rfl (en rfl (en rfl (en rfl (en rfl (en rfl (en rfl (en rfl (en rfl (en rfl (en rfl (en rfl (en rfl (en rfl s4)))))))))))))))))))))))
  have s5 := (hg 5).trans (en rfl (en rfl (en rfl (en rfl (en rfl (en rfl (en rfl (en rfl (en rfl (en rfl (en rfl (en rfl (en rfl (en rfl (en rfl (en rfl (en rfl (en rfl (en rfl (en rfl (en rfl (en rfl (en rfl s5)))))))))))))))))))))))
  have s8 := (hg 8).trans es
  clear hg
  refine xc_cond s8 (fun _ => ?_) (fun hc => by cases hc)
  refine xc_seq (fun K hK5 => ?_)
  refine xc_region ?_
  refine x_val (r_assign ec) (nd_of rfl) rfl ?_
  refine xw_nil ?_
  refine hK5 _ _ ?_
  refine xc_gen (fun g hg => ?_)
  have s0 := (hg 0).trans (en rfl s0)
  have s1 := (hg 1).trans (en rfl s1)
  have s4 := (hg 4).trans es
  have s5 := (hg 5).trans (en rfl s5)
  have s8 := (hg 8).trans (en rfl s8)
  clear hg
  refine xc_ret ?_
  refine bodyR_1 rfl s4 ?_
  exact ⟨rfl, SatL.closeArena hp h⟩

/-- whether a number is that of a thing -/
def has (pl : List (Option (Array Value))) (i : Int) : Prop := ∃ (n : Nat) (c : Array Value), i = n ∧ pl[n]? = some (some c)

theorem asked_no {i : Int} (hi : ¬ has pl i) (h : SatL E w (Ar b pl fr :: R)) :
    Calls Try.prog 29 #[.pointer (some ⟨b, 0, none⟩), .int .i64 i] w (Ret fun v w' => v = .int .i64 5 ∧ SatL E w' (Ar b pl fr :: R)) := by
  by_cases h0 : i < 0
  · exact asked_neg h0 h
  by_cases h1 : (pl.length : Int) ≤ i
  · exact asked_far h1 h
  obtain ⟨n, rfl⟩ := Int.eq_ofNat_of_zero_le (by omega : 0 ≤ i)
  have hlt : n < pl.length := by omega
  match e : pl[n]? with
  | none => rw [List.getElem?_eq_getElem hlt] at e; cases e
  | some none => exact asked_free e h
  | some (some c) => exact absurd ⟨n, c, rfl, e⟩ hi

theorem at_ok (hi : pl[i]? = some (some #[(Value.string x)])) (h : SatL E w (Ar b pl fr :: R)) :
    Calls Try.prog 18 #[.pointer (some ⟨b, 0, none⟩), .int .i64 (i : Int)] w (Ret fun v w' => v = .tuple #[(Value.string x), .int .i64 0] ∧ SatL E w' (Ar b pl fr :: R)) := by
  have hlt := (List.getElem?_eq_some_iff.1 hi).1
  refine calls_x Try.func18 rfl Try.ntmps18 rfl ?_
  refine xc_gen (fun g hg => ?_)
  have s0 := (hg 0).trans arg0
  have s1 := (hg 1).trans arg1
  clear hg
  refine xc_seq (fun K hK1 => ?_)
  refine xc_region ?_
  refine x_val (r_assign ec) (nd_of rfl) rfl ?_
  refine x_val (r_assign ec) (nd_of rfl) rfl ?_
  refine xw_nil ?_
  refine hK1 _ _ ?_
  refine xc_gen (fun g hg => ?_)
  have s0 := (hg 0).trans (en rfl (en rfl s0))
  have s1 := (hg 1).trans (en rfl (en rfl s1))
  have s4 := (hg 4).trans (en rfl es)
  have s5 := (hg 5).trans es
  clear hg
  refine xc_seq (fun K hK2 => ?_)
  refine xc_seq (fun K hK3 => ?_)
  refine xc_region ?_
  refine x_val (r_move s0) (nd_of rfl) rfl ?_
  refine x_val (r_move (en rfl s1)) (nd_of rfl) rfl ?_
  refine x_enter (r_call Try.call29 (.cons (en rfl es) (.cons es .nil))) (nd_of rfl) rfl (asked_ok hi h) ?_
  rintro _ w ⟨rfl, h⟩
  obtain ⟨ps, fs, hp, h⟩ := h.openArena
  obtain ⟨gp, cp, cur, hr, h⟩ := (h.f1).openRow (by omega)
  obtain rfl := hr.val
  refine x_val (r_assign es) (nd_of rfl) rfl ?_
  refine xw_nil ?_
  refine hK3 _ _ ?_
  refine xc_gen (fun g hg => ?_)
  have s0 := (hg 0).trans (en rfl (en rfl (en rfl (en rfl s0))))
  have s1 := (hg 1).trans (en rfl (en rfl (en rfl (en rfl s1))))
  have s4 := (hg 4).trans (en rfl (en rfl (en rfl (en rfl s4))))
  have s5 := (hg 5).trans (en rfl (en rfl (en rfl (en rfl s5))))
  have s6 := (hg 6).trans es
  clear hg
  refine xc_seq (fun K hK4 => ?_)
  refine xc_region ?_
  refine x_val (r_move s6) (nd_of rfl) rfl ?_
  refine x_val (r_neq es ec (r := false) rfl) (nd_of rfl) rfl ?_
  refine xw_nil ?_
  refine hK4 _ _ ?_
  refine xc_gen (fun g hg => ?_)
  have s0 := (hg 0).trans (en rfl (en rfl s0))
  have s1 := (hg 1).trans (en rfl (en rfl s1))
  have s4 := (hg 4).trans (en rfl (en rfl s4))
  have s5 := (hg 5).trans (en rfl (en rfl s5))
  have s6 := (hg 6).trans (en rfl (en rfl s6))
  have s12 := (hg 12).trans es
  clear hg
  refine xc_cond s12 (fun hc => by cases hc) (fun _ => ?_)
  refine xc_skip ?_
  refine hK2 _ _ ?_
  refine xc_seq (fun K hK5 => ?_)
  refine xc_region ?_
  refine x_val (r_move s0) (nd_of rfl) rfl ?_
  refine x_val (r_nilCheck es) (nd_of rfl) rfl ?_
  refine x_val (r_fieldAddr (o' := 0) Try.underlying69 rfl Try.sizeOf67 rfl es rfl) (nd_of rfl) rfl ?_
  refine x_val (r_load h 1 rfl Try.isAgg67 es gc0) (nd_of rfl) rfl ?_
  refine x_val (r_move (en rfl (en rfl (en rfl (en rfl s1))))) (nd_of rfl) rfl ?_
  refine x_val (r_indexAddrN Try.underlying67 Try.sizeOf71 (en rfl es) es (by omega)) (nd_of rfl) rfl ?_
  refine x_val (r_fieldAddrZ Try.underlying71 rfl Try.sizeOf9 rfl es rfl) (nd_of rfl) rfl ?_
  refine x_val (r_load h 0 rfl Try.isAgg9 es (hr.get (hp.cells hi (Nat.lt_succ_self 0)))) (nd_of rfl) rfl ?_
  refine x_val (r_assign es) (nd_of rfl) rfl ?_
  refine x_val (r_assign ec) (nd_of rfl) rfl ?_
  refine xw_nil ?_
  refine hK5 _ _ ?_
  refine xc_gen (fun g hg => ?_)
  have s0 := (hg 0).trans (en rfl (en rfl (en rfl (en rfl (en rfl (en rfl (en rfl (en rfl (en rfl (en rfl s0))))))))))
  have s1 := (hg 1).trans (en rfl (en rfl (en rfl (en rfl (en rfl (en rfl (en rfl (en rfl (en rfl (en rfl s1))))))))))
  have s4 := (hg 4).trans (en rfl es)
  have s5 := (hg 5).trans es
  have s6 := (hg 6).trans (en rfl (en rfl (en rfl (en rfl (en rfl (en rfl (en rfl (en rfl (en rfl (en rfl s6))))))))))
  have s12 := (hg 12).trans (en rfl (en rfl (en rfl (en rfl (en rfl (en rfl (en rfl (en rfl (en rfl (en rfl s12))))))))))
  clear hg
  refine xc_ret ?_
  refine bodyR_2 rfl s4 s5 ?_
  exact ⟨rfl, SatL.closeArena hp ((h.closeRow hr).f1)⟩

theorem at_no {i : Int} (hi : ¬ has pl i) (h : SatL E w (Ar b pl fr :: R)) :
    Calls Try.prog 18 #[.pointer (some ⟨b, 0, none⟩), .int .i64 i] w (Ret fun v w' => v = .tuple #[zN.getD 0 default, .int .i64 5] ∧ SatL E w' (Ar b pl fr :: R)) := by
  refine calls_x Try.func18 rfl Try.ntmps18 rfl ?_
  refine xc_gen (fun g hg => ?_)
  have s0 := (hg 0).trans arg0
  have s1 := (hg 1).trans arg1
  clear hg
  refine xc_seq (fun K hK1 => ?_)
  refine xc_region ?_
  refine x_val (r_assign ec) (nd_of rfl) rfl ?_
  refine x_val (r_assign ec) (nd_of rfl) rfl ?_
  refine xw_nil ?_
  refine hK1 _ _ ?_
  refine xc_gen (fun g hg => ?_)
  have s0 := (hg 0).trans (en rfl (en rfl s0))
  have s1 := (hg 1).trans (en rfl (en rfl s1))
  have s4 := (hg 4).trans (en rfl es)
  have s5 := (hg 5).trans es
  clear hg
  refine xc_seq (fun K hK2 => ?_)
  refine xc_seq (fun K hK3 => ?_)
  refine xc_region ?_
  refine x_val (r_move s0) (nd_of rfl) rfl ?_
  refine x_val (r_move (en rfl s1)) (nd_of rfl) rfl ?_
  refine x_enter (r_call Try.call29 (.cons (en rfl es) (.cons es .nil))) (nd_of rfl) rfl (asked_no hi h) ?_
  rintro _ w ⟨rfl, h⟩
  refine x_val (r_assign es) (nd_of rfl) rfl ?_
  refine xw_nil ?_
  refine hK3 _ _ ?_
  refine xc_gen (fun g hg => ?_)
  have s0 := (hg 0).trans (en rfl (en rfl (en rfl (en rfl s0))))
  have s1 := (hg 1).trans (en rfl (en rfl (en rfl (en rfl s1))))
  have s4 := (hg 4).trans (en rfl (en rfl (en rfl (en rfl s4))))
  have s5 := (hg 5).trans (en rfl (en rfl (en rfl (en rfl s5))))
  have s6 := (hg 6).trans es
  clear hg
  refine xc_seq (fun K hK4 => ?_)
  refine xc_region ?_
  refine x_val (r_move s6) (nd_of rfl) rfl ?_
  refine x_val (r_neq es ec (r := true) rfl) (nd_of rfl) rfl ?_
  refine xw_nil ?_
  refine hK4 _ _ ?_
  refine xc_gen (fun g hg => ?_)
  have s0 := (hg 0).trans (en rfl (en rfl s0))
  have s1 := (hg 1).trans (en rfl (en rfl s1))
  have s4 := (hg 4).trans (en rfl (en rfl s4))
  have s5 := (hg 5).trans (en rfl (en rfl s5))
  have s6 := (hg 6).trans (en rfl (en rfl s6))
  have s12 := (hg 12).trans es
  clear hg
  refine xc_cond s12 (fun _ => ?_) (fun hc => by cases hc)
  refine xc_seq (fun K hK5 => ?_)
  refine xc_region ?_
  refine x_val (r_assign ec) (nd_of rfl) rfl ?_
  refine xw_nil ?_
  refine hK5 _ _ ?_
  refine xc_gen (fun g hg => ?_)
  have s0 := (hg 0).trans (en rfl s0)
  have s1 := (hg 1).trans (en rfl s1)
  have s4 := (hg 4).trans (en rfl s4)
  have s5 := (hg 5).trans (en rfl s5)
  have s6 := (hg 6).trans (en rfl s6)
  have s7 := (hg 7).trans es
  have s12 := (hg 12).trans (en rfl s12)
  clear hg
  refine xc_seq (fun K hK6 => ?_)
  refine xc_region ?_
  refine x_val (r_move s7) (nd_of rfl) rfl ?_
  refine x_val (r_move (en rfl s6)) (nd_of rfl) rfl ?_
  refine x_val (r_assign (en rfl es)) (nd_of rfl) rfl ?_
  refine x_val (r_assign (en rfl es)) (nd_of rfl) rfl ?_
  refine xw_nil ?_
  refine hK6 _ _ ?_
  refine xc_gen (fun g hg => ?_)
  have s0 := (hg 0).trans (en rfl (en rfl (en rfl (en rfl s0))))
  have s1 := (hg 1).trans (en rfl (en rfl (en rfl (en rfl s1))))
  have s4 := (hg 4).trans (en rfl es)
  have s5 := (hg 5).trans es
  have s6 := (hg 6).trans (en rfl (en rfl (en rfl (en rfl s6))))
  have s7 := (hg 7).trans (en rfl (en rfl (en rfl (en rfl s7))))
  have s12 := (hg 12).trans (en rfl (en rfl (en rfl (en rfl s12))))
  clear hg
  refine xc_ret ?_
  refine bodyR_2 rfl s4 s5 ?_
  exact ⟨rfl, h⟩

theorem closePut1 {ps fs : Value} {g cap : Nat} {cur : Array Value} {v : Value} {c : Array Value} (hp : PlOk KN zN pl fr) (hr : RowAt (KN + 1) ps pl.length (placesC zN pl) g cap cur) (hi : pl[i]? = some (some c)) (hv : Ok 1 #[v])
    (h : SatL E w (Cells g (cur.setIfInBounds (i * (1 + 1)) v) 71 :: Cells b #[ps, fs] 69 :: Row 3 1 fs fr.length (frC fr) :: R)) : SatL E w (Ar b (pl.set i (some #[v])) fr :: R) := by
  have hlt := (List.getElem?_eq_some_iff.1 hi).1
  have e := hp.put (c' := #[v]) hi
  have hl := hp.len
  have hr2 := hr.set (i * (1 + 1)) v
  have hb : i * (1 + 1) < (placesC zN pl).length := by rw [hl]; exact Nat.mul_lt_mul_of_pos_right hlt (by decide)
  rw [List.set_eq_take_append_cons_drop, if_pos hb] at hr2
  have e2 : (placesC zN pl).take (i * (1 + 1)) ++ v :: (placesC zN pl).drop (i * (1 + 1) + 1) = placesC zN (pl.set i (some #[v])) := by rw [← e]; simp
  rw [e2] at hr2
  have hl2 : (pl.set i (some #[v])).length = pl.length := List.length_set
  refine SatL.closeArena (ps := ps) (fs := fs) (hp.set hv (hp.notFree hi)) ?_
  rw [hl2]
  exact (h.closeRow hr2).f1

theorem put_ok {c : Array Value} (hi : pl[i]? = some (some c)) (h : SatL E w (Ar b pl fr :: R)) :
    Calls Try.prog 17 #[.pointer (some ⟨b, 0, none⟩), .int .i64 (i : Int), (Value.string x)] w (Ret fun v w' => v = .int .i64 0 ∧ SatL E w' (Ar b (pl.set i (some #[(Value.string x)])) fr :: R)) := by
  have hlt := (List.getElem?_eq_some_iff.1 hi).1
  obtain ⟨ps0, fs0, hp, _⟩ := h.openArena
  have htk := hp.taken hi
  refine calls_x Try.func17 rfl Try.ntmps17 rfl ?_
  refine xc_gen (fun g hg => ?_)
  have s0 := (hg 0).trans arg0
  have s1 := (hg 1).trans arg1
  have s2 := (hg 2).trans arg2
  clear hg
  refine xc_seq (fun K hK1 => ?_)
  refine xc_region ?_
  refine x_val (r_assign ec) (nd_of rfl) rfl ?_
  refine xw_nil ?_
  refine hK1 _ _ ?_
  refine xc_gen (fun g hg => ?_)
  have s0 := (hg 0).trans (en rfl s0)
  have s1 := (hg 1).trans (en rfl s1)
  have s2 := (hg 2).trans (en rfl s2)
  have s6 := (hg 6).trans es
  clear hg
  refine xc_seq (fun K hK2 => ?_)
  refine xc_seq (fun K hK3 => ?_)
  refine xc_region ?_
  refine x_val (r_move s0) (nd_of rfl) rfl ?_
  refine x_val (r_move (en rfl s1)) (nd_of rfl) rfl ?_
  refine x_enter (r_call Try.call29 (.cons (en rfl es) (.cons es .nil))) (nd_of rfl) rfl (asked_ok hi h) ?_
  rintro _ w ⟨rfl, h⟩
  obtain ⟨ps, fs, hp, h⟩ := h.openArena
  obtain ⟨gp, cp, cur, hr, h⟩ := (h.f1).openRow (by omega)
  obtain rfl := hr.val
  refine x_val (r_assign es) (nd_of rfl) rfl ?_
  refine xw_nil ?_
  refine hK3 _ _ ?_
  refine xc_gen (fun g hg => ?_)
  have s0 := (hg 0).trans (en rfl (en rfl (en rfl (en rfl s0))))
  have s1 := (hg 1).trans (en rfl (en rfl (en rfl (en rfl s1))))
  have s2 := (hg 2).trans (en rfl (en rfl (en rfl (en rfl s2))))
  have s6 := (hg 6).trans (en rfl (en rfl (en rfl (en rfl s6))))
  have s7 := (hg 7).trans es
  clear hg
  refine xc_seq (fun K hK4 => ?_)
  refine xc_region ?_
  refine x_val (r_move s7) (nd_of rfl) rfl ?_
  refine x_val (r_neq es ec (r := false) rfl) (nd_of rfl) rfl ?_
  refine xw_nil ?_
  refine hK4 _ _ ?_
  refine xc_gen (fun g hg => ?_)
  have s0 := (hg 0).trans (en rfl (en rfl s0))
  have s1 := (hg 1).trans (en rfl (en rfl s1))
  have s2 := (hg 2).trans (en rfl (en rfl s2))
  have s6 := (hg 6).trans (en rfl (en rfl s6))
  have s7 := (hg 7).trans (en rfl (en rfl s7))
  have s12 := (hg 12).trans es
  clear hg
  refine xc_cond s12 (fun hc => by cases hc) (fun _ => ?_)
  refine xc_skip ?_
  refine hK2 _ _ ?_
  refine xc_seq (fun K hK5 => ?_)
  refine xc_region ?_
  refine x_val (r_move s0) (nd_of rfl) rfl ?_
  refine x_val (r_nilCheck es) (nd_of rfl) rfl ?_
  refine x_val (r_fieldAddr (o' := 0) Try.underlying69 rfl Try.sizeOf67 rfl es rfl) (nd_of rfl) rfl ?_
  refine x_val (r_load h 1 rfl Try.isAgg67 es gc0) (nd_of rfl) rfl ?_
  refine x_val (r_move (en rfl (en rfl (en rfl (en rfl s1))))) (nd_of rfl) rfl ?_
  refine x_val (r_move (en rfl (en rfl (en rfl (en rfl (en rfl s2)))))) (nd_of rfl) rfl ?_
  refine x_val (r_indexAddrN Try.underlying67 Try.sizeOf71 (en rfl (en rfl es)) (en rfl es) (by omega)) (nd_of rfl) rfl ?_
  refine x_val (r_fieldAddrZ Try.underlying71 rfl Try.sizeOf9 rfl es rfl) (nd_of rfl) rfl ?_
  refine x_st (r_store h 0 rfl Try.sizeOf9 es (en rfl (en rfl es)) rfl (hr.get (hp.cells hi (Nat.lt_succ_self 0) ▸ (Array.getElem?_eq_getElem (by rw [(hp.thing i c hi).size]; exact Nat.lt_succ_self 0))))) rfl (h.u0 rfl) ?_
  intro w h
  refine xw_nil ?_
  refine hK5 _ _ ?_
  refine xc_gen (fun g hg => ?_)
  have s0 := (hg 0).trans (en rfl (en rfl (en rfl (en rfl (en rfl (en rfl (en rfl (en rfl s0))))))))
  have s1 := (hg 1).trans (en rfl (en rfl (en rfl (en rfl (en rfl (en rfl (en rfl (en rfl s1))))))))
  have s2 := (hg 2).trans (en rfl (en rfl (en rfl (en rfl (en rfl (en rfl (en rfl (en rfl s2))))))))
  have s6 := (hg 6).trans (en rfl (en rfl (en rfl (en rfl (en rfl (en rfl (en rfl (en rfl s6))))))))
  have s7 := (hg 7).trans (en rfl (en rfl (en rfl (en rfl (en rfl (en rfl (en rfl (en rfl s7))))))))
  have s12 := (hg 12).trans (en rfl (en rfl (en rfl (en rfl (en rfl (en rfl (en rfl (en rfl s12))))))))
  clear hg
  refine xc_seq (fun K hK6 => ?_)
  refine xc_region ?_
  refine x_val (r_assign ec) (nd_of rfl) rfl ?_
  refine xw_nil ?_
  refine hK6 _ _ ?_
  refine xc_gen (fun g hg => ?_)
  have s0 := (hg 0).trans (en rfl s0)
  have s1 := (hg 1).trans (en rfl s1)
  have s2 := (hg 2).trans (en rfl s2)
  have s6 := (hg 6).trans es
  have s7 := (hg 7).trans (en rfl s7)
  have s12 := (hg 12).trans (en rfl s12)
  clear hg
  refine xc_ret ?_
  refine bodyR_1 rfl s6 ?_
  exact ⟨rfl, closePut1 hp hr hi Xok h⟩

theorem put_no {i : Int} (hi : ¬ has pl i) (h : SatL E w (Ar b pl fr :: R)) :
    Calls Try.prog 17 #[.pointer (some ⟨b, 0, none⟩), .int .i64 i, (Value.string x)] w (Ret fun v w' => v = .int .i64 5 ∧ SatL E w' (Ar b pl fr :: R)) := by
  refine calls_x Try.func17 rfl Try.ntmps17 rfl ?_
  refine xc_gen (fun g hg => ?_)
  have s0 := (hg 0).trans arg0
  have s1 := (hg 1).trans arg1
  have s2 := (hg 2).trans arg2
  clear hg
  refine xc_seq (fun K hK1 => ?_)
  refine xc_region ?_
  refine x_val (r_assign ec) (nd_of rfl) rfl ?_
  refine xw_nil ?_
  refine hK1 _ _ ?_
  refine xc_gen (fun g hg => ?_)
  have s0 := (hg 0).trans (en rfl s0)
  have s1 := (hg 1).trans (en rfl s1)
  have s2 := (hg 2).trans (en rfl s2)
  have s6 := (hg 6).trans es
  clear hg
  refine xc_seq (fun K hK2 => ?_)
  refine xc_seq (fun K hK3 => ?_)
  refine xc_region ?_
  refine x_val (r_move s0) (nd_of rfl) rfl ?_
  refine x_val (r_move (en rfl s1)) (nd_of rfl) rfl ?_
  refine x_enter (r_call Try.call29 (.cons (en rfl es) (.cons es .nil))) (nd_of rfl) rfl (asked_no hi h) ?_
  rintro _ w ⟨rfl, h⟩
  refine x_val (r_assign es) (nd_of rfl) rfl ?_
  refine xw_nil ?_
  refine hK3 _ _ ?_
  refine xc_gen (fun g hg => ?_)
  have s0 := (hg 0).trans (en rfl (en rfl (en rfl (en rfl s0))))
  have s1 := (hg 1).trans (en rfl (en rfl (en rfl (en rfl s1))))
  have s2 := (hg 2).trans (en rfl (en rfl (en rfl (en rfl s2))))
  have s6 := (hg 6).trans (en rfl (en rfl (en rfl (en rfl s6))))
  have s7 := (hg 7).trans es
  clear hg
  refine xc_seq (fun K hK4 => ?_)
  refine xc_region ?_
  refine x_val (r_move s7) (nd_of rfl) rfl ?_
  refine x_val (r_neq es ec (r := true) rfl) (nd_of rfl) rfl ?_
  refine xw_nil ?_
  refine hK4 _ _ ?_
  refine xc_gen (fun g hg => ?_)
  have s0 := (hg 0).trans (en rfl (en rfl s0))
  have s1 := (hg 1).trans (en rfl (en rfl s1))
  have s2 := (hg 2).trans (en rfl (en rfl s2))
  have s6 := (hg 6).trans (en rfl (en rfl s6))
  have s7 := (hg 7).trans (en rfl (en rfl s7))
  have s12 := (hg 12).trans es
  clear hg
  refine xc_cond s12 (fun _ => ?_) (fun hc => by cases hc)
  refine xc_seq (fun K hK5 => ?_)
  refine xc_region ?_
  refine x_val (r_move s7) (nd_of rfl) rfl ?_
  refine x_val (r_assign es) (nd_of rfl) rfl ?_
  refine xw_nil ?_
  refine hK5 _ _ ?_
  refine xc_gen (fun g hg => ?_)
  have s0 := (hg 0).trans (en rfl (en rfl s0))
  have s1 := (hg 1).trans (en rfl (en rfl s1))
  have s2 := (hg 2).trans (en rfl (en rfl s2))
  have s6 := (hg 6).trans es
  have s7 := (hg 7).trans (en rfl (en rfl s7))
  have s12 := (hg 12).trans (en rfl (en rfl s12))
  clear hg
  refine xc_ret ?_
  refine bodyR_1 rfl s6 ?_
  exact ⟨rfl, h⟩

theorem free_no {i : Int} (hi : ¬ has pl i) (h : SatL E w (Ar b pl fr :: R)) :
    Calls Try.prog 16 #[.pointer (some ⟨b, 0, none⟩), .int .i64 i] w (Ret fun v w' => v = .int .i64 5 ∧ SatL E w' (Ar b pl fr :: R)) := by
  refine calls_x Try.func16 rfl Try.ntmps16 rfl ?_
  refine xc_gen (fun g hg => ?_)
  have s0 := (hg 0).trans arg0
  have s1 := (hg 1).trans arg1
  clear hg
  refine xc_seq (fun K hK1 => ?_)
  refine xc_region ?_
  refine x_val (r_assign ec) (nd_of rfl) rfl ?_
  refine xw_nil ?_
  refine hK1 _ _ ?_
  refine xc_gen (fun g hg => ?_)
  have s0 := (hg 0).trans (en rfl s0)
  have s1 := (hg 1).trans (en rfl s1)
  have s4 := (hg 4).trans es
  clear hg
  refine xc_seq (fun K hK2 => ?_)
  refine xc_seq (fun K hK3 => ?_)
  refine xc_region ?_
  refine x_val (r_move s0) (nd_of rfl) rfl ?_
  refine x_val (r_move (en rfl s1)) (nd_of rfl) rfl ?_
  refine x_enter (r_call Try.call29 (.cons (en rfl es) (.cons es .nil))) (nd_of rfl) rfl (asked_no hi h) ?_
  rintro _ w ⟨rfl, h⟩
  refine x_val (r_assign es) (nd_of rfl) rfl ?_
  refine xw_nil ?_
  refine hK3 _ _ ?_
  refine xc_gen (fun g hg => ?_)
  have s0 := (hg 0).trans (en rfl (en rfl (en rfl (en rfl s0))))
  have s1 := (hg 1).trans (en rfl (en rfl (en rfl (en rfl s1))))
  have s4 := (hg 4).trans (en rfl (en rfl (en rfl (en rfl s4))))
  have s5 := (hg 5).trans es
  clear hg
  refine xc_seq (fun K hK4 => ?_)
  refine xc_region ?_
  refine x_val (r_move s5) (nd_of rfl) rfl ?_
  refine x_val (r_neq es ec (r := true) rfl) (nd_of rfl) rfl ?_
  refine xw_nil ?_
  refine hK4 _ _ ?_
  refine xc_gen (fun g hg => ?_)
  have s0 := (hg 0).trans (en rfl (en rfl s0))
  have s1 := (hg 1).trans (en rfl (en rfl s1))
  have s4 := (hg 4).trans (en rfl (en rfl s4))
  have s5 := (hg 5).trans (en rfl (en rfl s5))
  have s10 := (hg 10).trans es
  clear hg
  refine xc_cond s10 (fun _ => ?_) (fun hc => by cases hc)
  refine xc_seq (fun K hK5 => ?_)
  refine xc_region ?_
  refine x_val (r_move s5) (nd_of rfl) rfl ?_
  refine x_val (r_assign es) (nd_of rfl) rfl ?_
  refine xw_nil ?_
  refine hK5 _ _ ?_
  refine xc_gen (fun g hg => ?_)
  have s0 := (hg 0).trans (en rfl (en rfl s0))
  have s1 := (hg 1).trans (en rfl (en rfl s1))
  have s4 := (hg 4).trans es
  have s5 := (hg 5).trans (en rfl (en rfl s5))
  have s10 := (hg 10).trans (en rfl (en rfl s10))
  clear hg
  refine xc_ret ?_
  refine bodyR_1 rfl s4 ?_
  exact ⟨rfl, h⟩

theorem zP_eq : ∀ w, (zeroValue 71).run Try.prog w = .ok (.agg (zN.toList ++ [Value.bool false]).toArray) w := fun _ => by kernel_rfl
theorem zP_one : ∀ v ∈ ((zN.toList ++ [Value.bool false]).toArray).toList, v.oneCell' = true := by
  have e : ((zN.toList ++ [Value.bool false]).toArray).toList.all (fun v => v.oneCell') = true := by kernel_rfl
  exact fun v hv => List.all_eq_true.1 e v hv
theorem zN_ok : Ok KN zN := ⟨by kernel_rfl, by
  have e : zN.toList.all (fun v => v.oneCell') = true := by kernel_rfl
  exact fun v hv => List.all_eq_true.1 e v hv⟩

theorem free_ok {c : Array Value} (hi : pl[i]? = some (some c)) (hb : pl.length ≤ 1000000000) (h : SatL E w (Ar b pl fr :: R)) :
    Calls Try.prog 16 #[.pointer (some ⟨b, 0, none⟩), .int .i64 (i : Int)] w (Ret fun v w' => v = .int .i64 0 ∧ SatL E w' (Ar b (pl.set i none) (fr ++ [i]) :: R)) := by
  have hlt := (List.getElem?_eq_some_iff.1 hi).1
  refine calls_x Try.func16 rfl Try.ntmps16 rfl ?_
  refine xc_gen (fun g hg => ?_)
  have s0 := (hg 0).trans arg0
  have s1 := (hg 1).trans arg1
  clear hg
  refine xc_seq (fun K hK1 => ?_)
  refine xc_region ?_
  refine x_val (r_assign ec) (nd_of rfl) rfl ?_
  refine xw_nil ?_
  refine hK1 _ _ ?_
  refine xc_gen (fun g hg => ?_)
  have s0 := (hg 0).trans (en rfl s0)
  have s1 := (hg 1).trans (en rfl s1)
  have s4 := (hg 4).trans es
  clear hg
  refine xc_seq (fun K hK2 => ?_)
  refine xc_seq (fun K hK3 => ?_)
  refine xc_region ?_
  refine x_val (r_move s0) (nd_of rfl) rfl ?_
  refine x_val (r_move (en rfl s1)) (nd_of rfl) rfl ?_
  refine x_enter (r_call Try.call29 (.cons (en rfl es) (.cons es .nil))) (nd_of rfl) rfl (asked_ok hi h) ?_
  rintro _ w ⟨rfl, h⟩
  obtain ⟨ps, fs, hp, h⟩ := h.openArena
  have hfl := hp.frLen
  obtain ⟨gp, cp, cur, hr, h⟩ := (h.f1).openRow (by omega)
  obtain rfl := hr.val
  refine x_val (r_assign es) (nd_of rfl) rfl ?_
  refine xw_nil ?_
  refine hK3 _ _ ?_
  refine xc_gen (fun g hg => ?_)
  have s0 := (hg 0).trans (en rfl (en rfl (en rfl (en rfl s0))))
  have s1 := (hg 1).trans (en rfl (en rfl (en rfl (en rfl s1))))
  have s4 := (hg 4).trans (en rfl (en rfl (en rfl (en rfl s4))))
  have s5 := (hg 5).trans es
  clear hg
  refine xc_seq (fun K hK4 => ?_)
  refine xc_region ?_
  refine x_val (r_move s5) (nd_of rfl) rfl ?_
  refine x_val (r_neq es ec (r := false) rfl) (nd_of rfl) rfl ?_
  refine xw_nil ?_
  refine hK4 _ _ ?_
  refine xc_gen (fun g hg => ?_)
  have s0 := (hg 0).trans (en rfl (en rfl s0))
  have s1 := (hg 1).trans (en rfl (en rfl s1))
  have s4 := (hg 4).trans (en rfl (en rfl s4))
  have s5 := (hg 5).trans (en rfl (en rfl s5))
  have s10 := (hg 10).trans es
  clear hg
  refine xc_cond s10 (fun hc => by cases hc) (fun _ => ?_)
  refine xc_skip ?_
  refine hK2 _ _ ?_
  refine xc_seq (fun K hK5 => ?_)
  refine xc_region ?_
  refine x_val (r_move s0) (nd_of rfl) rfl ?_
  refine x_val (r_nilCheck es) (nd_of rfl) rfl ?_
  refine x_val (r_fieldAddr (o' := 0) Try.underlying69 rfl Try.sizeOf67 rfl es rfl) (nd_of rfl) rfl ?_
  refine x_val (r_load h 1 rfl Try.isAgg67 es gc0) (nd_of rfl) rfl ?_
  refine x_val (r_move (en rfl (en rfl (en rfl (en rfl s1))))) (nd_of rfl) rfl ?_
  refine x_val (r_build02 Try.underlying71 zP_eq Try.sizeOf9 Try.sizeOf4) (nd_of rfl) rfl ?_
  refine x_val (r_indexAddrN Try.underlying67 Try.sizeOf71 (en rfl (en rfl es)) (en rfl es) (by omega)) (nd_of rfl) rfl ?_
  refine x_st (r_storeAgg h 0 rfl Try.sizeOf71 es (en rfl es) (by simp [zN_ok.size]) zP_one (hp.le hr hlt)) rfl (h.r0 rfl) ?_
  intro w h
  refine xw_nil ?_
  refine hK5 _ _ ?_
  refine xc_gen (fun g hg => ?_)
  have s0 := (hg 0).trans (en rfl (en rfl (en rfl (en rfl (en rfl (en rfl (en rfl s0)))))))
  have s1 := (hg 1).trans (en rfl (en rfl (en rfl (en rfl (en rfl (en rfl (en rfl s1)))))))
  have s4 := (hg 4).trans (en rfl (en rfl (en rfl (en rfl (en rfl (en rfl (en rfl s4)))))))
  have s5 := (hg 5).trans (en rfl (en rfl (en rfl (en rfl (en rfl (en rfl (en rfl s5)))))))
  have s10 := (hg 10).trans (en rfl (en rfl (en rfl (en rfl (en rfl (en rfl (en rfl s10)))))))
  clear hg
  refine xc_seq (fun K hK6 => ?_)
  have h := h.f1
  have h := h.f2
  refine xc_region ?_
  refine x_val (r_move s0) (nd_of rfl) rfl ?_
  refine x_val (r_move (en rfl s0)) (nd_of rfl) rfl ?_
  refine x_val (r_nilCheck es) (nd_of rfl) rfl ?_
  refine x_val (r_fieldAddr (o' := 1) Try.underlying69 rfl Try.sizeOf22 rfl es rfl) (nd_of rfl) rfl ?_
  refine x_val (r_load h 1 rfl Try.isAgg22 es gc1) (nd_of rfl) rfl ?_
  refine x_val (r_move (en rfl (en rfl (en rfl (en rfl (en rfl s1)))))) (nd_of rfl) rfl ?_
  refine x_bslice (c := #[.int .i64 (i : Int)]) h Try.underlying22 Try.sizeOf3 Try.zeroValue3 rfl rfl es rfl Ok.int1 rfl ?_; intro bn w h; have h := h.f1
  refine x_append (bytes := 8) h Try.underlying22 (by kernel_rfl) (en rfl (en rfl es)) es Ok.int1 (by omega) (by omega) rfl ?_; intro fs2 w h; obtain ⟨af, cf, rfl, _, _⟩ := h.rowVal; have h := h.f1.drop
  refine x_val (r_nilCheck (en rfl (en rfl (en rfl (en rfl (en rfl (en rfl (en rfl es)))))))) (nd_of rfl) rfl ?_
  refine x_val (r_fieldAddr (o' := 1) Try.underlying69 rfl Try.sizeOf22 rfl es rfl) (nd_of rfl) rfl ?_
  refine x_st (r_store h 1 rfl Try.sizeOf22 es (en rfl (en rfl es)) rfl gc1) rfl (h.u1 sc1) ?_
  intro w h
  refine xw_nil ?_
  refine hK6 _ _ ?_
  refine xc_gen (fun g hg => ?_)
  have s0 := (hg 0).trans (en rfl (en rfl (en rfl (en rfl (en rfl (en rfl (en rfl (en rfl (en rfl (en rfl s0))))))))))
  have s1 := (hg 1).trans (en rfl (en rfl (en rfl (en rfl (en rfl (en rfl (en rfl (en rfl (en rfl (en rfl s1))))))))))
  have s4 := (hg 4).trans (en rfl (en rfl (en rfl (en rfl (en rfl (en rfl (en rfl (en rfl (en rfl (en rfl s4))))))))))
  have s5 := (hg 5).trans (en rfl (en rfl (en rfl (en rfl (en rfl (en rfl (en rfl (en rfl (en rfl (en rfl s5))))))))))
  have s10 := (hg 10).trans (en rfl (en rfl (en rfl (en rfl (en rfl (en rfl (en rfl (en rfl (en rfl (en rfl s10))))))))))
  clear hg
  refine xc_seq (fun K hK7 => ?_)
  refine xc_region ?_
  refine x_val (r_assign ec) (nd_of rfl) rfl ?_
  refine xw_nil ?_
  refine hK7 _ _ ?_
  refine xc_gen (fun g hg => ?_)
  have s0 := (hg 0).trans (en rfl s0)
  have s1 := (hg 1).trans (en rfl s1)
  have s4 := (hg 4).trans es
  have s5 := (hg 5).trans (en rfl s5)
  have s10 := (hg 10).trans (en rfl s10)
  clear hg
  refine xc_ret ?_
  refine bodyR_1 rfl s4 ?_
  exact ⟨rfl, SatL.closePlace (us := zN.toList ++ [Value.bool false]) hr (by simp [zN_ok.size]) hlt (by exact hp.freeAt hlt) (hp.unset hi) (by rw [frC_snoc, List.length_append]; exact h.f1.f2)⟩

/-- a place that was freed last is taken -/
theorem take_free {j : Nat} (hb : pl.length ≤ 1000000000) (h : SatL E w (Ar b pl (fr ++ [j]) :: R)) :
    Calls Try.prog 15 #[.pointer (some ⟨b, 0, none⟩), (Value.string x)] w (Ret fun v w' => v = .int .i64 (j : Int) ∧ SatL E w' (Ar b (pl.set j (some #[(Value.string x)])) fr :: R)) := by
  have hc : Ok KN #[(Value.string x)] := Xok
  obtain ⟨ps, fs, hp, h⟩ := h.openArena
  have hjl := (List.getElem?_eq_some_iff.1 (hp.free j (by simp))).1
  have hfl := hp.frLen
  rw [List.length_append, List.length_singleton] at hfl
  obtain ⟨gp, cp, cur, hr, h⟩ := (h.f1).openRow (by omega)
  obtain rfl := hr.val
  rw [List.length_append, List.length_singleton] at h
  obtain ⟨gf, cf, curf, hrf, h⟩ := (h.f2).openRow (by omega)
  obtain rfl := hrf.val
  have hle := hrf.le
  have hcm := hrf.capm
  unfold maxLen at hcm
  have hj : curf[fr.length]? = some (Value.int .i64 (j : Int)) := hrf.get (by rw [frC_snoc, List.getElem?_append_right (by rw [frC_len]; exact Nat.le_refl _), frC_len, Nat.sub_self]; rfl)
  refine calls_x Try.func15 rfl Try.ntmps15 rfl ?_
  refine xc_gen (fun g hg => ?_)
  have s0 := (hg 0).trans arg0
  have s1 := (hg 1).trans arg1
  clear hg
  refine xc_seq (fun K hK1 => ?_)
  refine xc_region ?_
  refine x_val (r_assign ec) (nd_of rfl) rfl ?_
  refine xw_nil ?_
  refine hK1 _ _ ?_
  refine xc_gen (fun g hg => ?_)
  have s0 := (hg 0).trans (en rfl s0)
  have s1 := (hg 1).trans (en rfl s1)
  have s4 := (hg 4).trans es
  clear hg
  refine xc_seq (fun K hK2 => ?_)
  refine xc_seq (fun K hK3 => ?_)
  refine xc_region ?_
  refine x_val (r_move s0) (nd_of rfl) rfl ?_
  refine x_val (r_eqnil Try.underlying33 es ec (r := false) rfl) (nd_of rfl) rfl ?_
  refine xw_nil ?_
  refine hK3 _ _ ?_
  refine xc_gen (fun g hg => ?_)
  have s0 := (hg 0).trans (en rfl (en rfl s0))
  have s1 := (hg 1).trans (en rfl (en rfl s1))
  have s4 := (hg 4).trans (en rfl (en rfl s4))
  have s8 := (hg 8).trans es
  clear hg
  refine xc_cond s8 (fun hc => by cases hc) (fun _ => ?_)
  refine xc_skip ?_
  refine hK2 _ _ ?_
  refine xc_seq (fun K hK4 => ?_)
  refine xc_seq (fun K hK5 => ?_)
  refine xc_region ?_
  refine x_val (r_move s0) (nd_of rfl) rfl ?_
  refine x_val (r_nilCheck es) (nd_of rfl) rfl ?_
  refine x_val (r_fieldAddr (o' := 1) Try.underlying69 rfl Try.sizeOf22 rfl es rfl) (nd_of rfl) rfl ?_
  refine x_val (r_load h 2 rfl Try.isAgg22 es gc1) (nd_of rfl) rfl ?_
  refine x_val (r_len Try.underlying22 es) (nd_of rfl) rfl ?_
  refine x_val (r_sub es ec (show _ = ((fr.length : Int) : Int) from by omega) (by unfold I64; omega)) (nd_of rfl) rfl ?_
  refine x_val (r_assign es) (nd_of rfl) rfl ?_
  refine xw_nil ?_
  refine hK5 _ _ ?_
  refine xc_gen (fun g hg => ?_)
  have s0 := (hg 0).trans (en rfl (en rfl (en rfl (en rfl (en rfl (en rfl (en rfl s0)))))))
  have s1 := (hg 1).trans (en rfl (en rfl (en rfl (en rfl (en rfl (en rfl (en rfl s1)))))))
  have s4 := (hg 4).trans (en rfl (en rfl (en rfl (en rfl (en rfl (en rfl (en rfl s4)))))))
  have s5 := (hg 5).trans es
  have s8 := (hg 8).trans (en rfl (en rfl (en rfl (en rfl (en rfl (en rfl (en rfl s8)))))))
  clear hg
  refine xc_seq (fun K hK6 => ?_)
  refine xc_region ?_
  refine x_val (r_move s5) (nd_of rfl) rfl ?_
  refine x_val (r_geq es ec (decide_eq_true (by omega))) (nd_of rfl) rfl ?_
  refine xw_nil ?_
  refine hK6 _ _ ?_
  refine xc_gen (fun g hg => ?_)
  have s0 := (hg 0).trans (en rfl (en rfl s0))
  have s1 := (hg 1).trans (en rfl (en rfl s1))
  have s4 := (hg 4).trans (en rfl (en rfl s4))
  have s5 := (hg 5).trans (en rfl (en rfl s5))
  have s8 := (hg 8).trans (en rfl (en rfl s8))
  have s16 := (hg 16).trans es
  clear hg
  refine xc_cond s16 (fun _ => ?_) (fun hc => by cases hc)
  refine xc_seq (fun K hK7 => ?_)
  refine xc_region ?_
  refine x_val (r_move s0) (nd_of rfl) rfl ?_
  refine x_val (r_nilCheck es) (nd_of rfl) rfl ?_
  refine x_val (r_fieldAddr (o' := 1) Try.underlying69 rfl Try.sizeOf22 rfl es rfl) (nd_of rfl) rfl ?_
  refine x_val (r_load h 2 rfl Try.isAgg22 es gc1) (nd_of rfl) rfl ?_
  refine x_val (r_move (en rfl (en rfl (en rfl (en rfl s5))))) (nd_of rfl) rfl ?_
  refine x_val (r_indexAddrN Try.underlying22 Try.sizeOf3 (en rfl es) es (by omega)) (nd_of rfl) rfl ?_
  refine x_val (r_load h 0 rfl Try.isAgg3 es (by rw [Nat.mul_one]; exact hj)) (nd_of rfl) rfl ?_
  refine x_val (r_assign es) (nd_of rfl) rfl ?_
  refine xw_nil ?_
  refine hK7 _ _ ?_
  refine xc_gen (fun g hg => ?_)
  have s0 := (hg 0).trans (en rfl (en rfl (en rfl (en rfl (en rfl (en rfl (en rfl (en rfl s0))))))))
  have s1 := (hg 1).trans (en rfl (en rfl (en rfl (en rfl (en rfl (en rfl (en rfl (en rfl s1))))))))
  have s4 := (hg 4).trans (en rfl (en rfl (en rfl (en rfl (en rfl (en rfl (en rfl (en rfl s4))))))))
  have s5 := (hg 5).trans (en rfl (en rfl (en rfl (en rfl (en rfl (en rfl (en rfl (en rfl s5))))))))
  have s6 := (hg 6).trans es
  have s8 := (hg 8).trans (en rfl (en rfl (en rfl (en rfl (en rfl (en rfl (en rfl (en rfl s8))))))))
  have s16 := (hg 16).trans (en rfl (en rfl (en rfl (en rfl (en rfl (en rfl (en rfl (en rfl s16))))))))
  clear hg
  refine xc_seq (fun K hK8 => ?_)
  refine xc_region ?_
  refine x_val (r_move s0) (nd_of rfl) rfl ?_
  refine x_val (r_move (en rfl s0)) (nd_of rfl) rfl ?_
  refine x_val (r_nilCheck es) (nd_of rfl) rfl ?_
  refine x_val (r_fieldAddr (o' := 1) Try.underlying69 rfl Try.sizeOf22 rfl es rfl) (nd_of rfl) rfl ?_
  refine x_val (r_load h 2 rfl Try.isAgg22 es gc1) (nd_of rfl) rfl ?_
  refine x_val (r_move (en rfl (en rfl (en rfl (en rfl (en rfl s5)))))) (nd_of rfl) rfl ?_
  refine x_val (r_sliceToN Try.underlying22 Try.sizeOf3 (en rfl es) es (by omega)) (nd_of rfl) rfl ?_
  refine x_val (r_nilCheck (en rfl (en rfl (en rfl (en rfl (en rfl (en rfl es))))))) (nd_of rfl) rfl ?_
  refine x_val (r_fieldAddr (o' := 1) Try.underlying69 rfl Try.sizeOf22 rfl es rfl) (nd_of rfl) rfl ?_
  refine x_st (r_store h 2 rfl Try.sizeOf22 es (en rfl (en rfl es)) rfl gc1) rfl (h.u2 sc1) ?_
  intro w h
  refine xw_nil ?_
  refine hK8 _ _ ?_
  refine xc_gen (fun g hg => ?_)
  have s0 := (hg 0).trans (en rfl (en rfl (en rfl (en rfl (en rfl (en rfl (en rfl (en rfl (en rfl s0)))))))))
  have s1 := (hg 1).trans (en rfl (en rfl (en rfl (en rfl (en rfl (en rfl (en rfl (en rfl (en rfl s1)))))))))
  have s4 := (hg 4).trans (en rfl (en rfl (en rfl (en rfl (en rfl (en rfl (en rfl (en rfl (en rfl s4)))))))))
  have s5 := (hg 5).trans (en rfl (en rfl (en rfl (en rfl (en rfl (en rfl (en rfl (en rfl (en rfl s5)))))))))
  have s6 := (hg 6).trans (en rfl (en rfl (en rfl (en rfl (en rfl (en rfl (en rfl (en rfl (en rfl s6)))))))))
  have s8 := (hg 8).trans (en rfl (en rfl (en rfl (en rfl (en rfl (en rfl (en rfl (en rfl (en rfl s8)))))))))
  have s16 := (hg 16).trans (en rfl (en rfl (en rfl (en rfl (en rfl (en rfl (en rfl (en rfl (en rfl s16)))))))))
  clear hg
  refine xc_seq (fun K hK9 => ?_)
  refine xc_region ?_
  refine x_val (r_move s0) (nd_of rfl) rfl ?_
  refine x_val (r_nilCheck es) (nd_of rfl) rfl ?_
  refine x_val (r_fieldAddr (o' := 0) Try.underlying69 rfl Try.sizeOf67 rfl es rfl) (nd_of rfl) rfl ?_
  refine x_val (r_load h 2 rfl Try.isAgg67 es gc0) (nd_of rfl) rfl ?_
  refine x_val (r_move (en rfl (en rfl (en rfl (en rfl s6))))) (nd_of rfl) rfl ?_
  refine x_val (r_move (en rfl (en rfl (en rfl (en rfl (en rfl s1)))))) (nd_of rfl) rfl ?_
  refine x_val (r_place (c := #[(Value.string x)]) Try.underlying71 zP_eq Try.sizeOf9 Try.sizeOf4 rfl rfl (by simp [zN_ok.size]) es rfl hc ec) (nd_of rfl) rfl ?_
  refine x_val (r_indexAddrN Try.underlying67 Try.sizeOf71 (en rfl (en rfl (en rfl es))) (en rfl (en rfl es)) (by omega)) (nd_of rfl) rfl ?_
  refine x_st (r_storeAgg h 1 rfl Try.sizeOf71 es (en rfl es) (by simp) (Ok.place_one hc) (hp.le hr hjl)) rfl (h.r1 rfl) ?_
  intro w h
  refine xw_nil ?_
  refine hK9 _ _ ?_
  refine xc_gen (fun g hg => ?_)
  have s0 := (hg 0).trans (en rfl (en rfl (en rfl (en rfl (en rfl (en rfl (en rfl (en rfl s0))))))))
  have s1 := (hg 1).trans (en rfl (en rfl (en rfl (en rfl (en rfl (en rfl (en rfl (en rfl s1))))))))
  have s4 := (hg 4).trans (en rfl (en rfl (en rfl (en rfl (en rfl (en rfl (en rfl (en rfl s4))))))))
  have s5 := (hg 5).trans (en rfl (en rfl (en rfl (en rfl (en rfl (en rfl (en rfl (en rfl s5))))))))
  have s6 := (hg 6).trans (en rfl (en rfl (en rfl (en rfl (en rfl (en rfl (en rfl (en rfl s6))))))))
  have s8 := (hg 8).trans (en rfl (en rfl (en rfl (en rfl (en rfl (en rfl (en rfl (en rfl s8))))))))
  have s16 := (hg 16).trans (en rfl (en rfl (en rfl (en rfl (en rfl (en rfl (en rfl (en rfl s16))))))))
  clear hg
  refine xc_seq (fun K hK10 => ?_)
  have h := h.f2
  have h := h.f2
  refine xc_region ?_
  refine x_val (r_move s6) (nd_of rfl) rfl ?_
  refine x_val (r_assign es) (nd_of rfl) rfl ?_
  refine xw_nil ?_
  refine hK10 _ _ ?_
  refine xc_gen (fun g hg => ?_)
  have s0 := (hg 0).trans (en rfl (en rfl s0))
  have s1 := (hg 1).trans (en rfl (en rfl s1))
  have s4 := (hg 4).trans es
  have s5 := (hg 5).trans (en rfl (en rfl s5))
  have s6 := (hg 6).trans (en rfl (en rfl s6))
  have s8 := (hg 8).trans (en rfl (en rfl s8))
  have s16 := (hg 16).trans (en rfl (en rfl s16))
  clear hg
  refine xc_ret ?_
  refine bodyR_1 rfl s4 ?_
  exact ⟨rfl, SatL.closePlace hr (by simp) hjl (by exact hp.takeAt hjl) (hp.reuse hc) ((h.f2.closeRow (by have := hrf.cut (k := fr.length) (by omega); rwa [frC_snoc, Nat.mul_one, List.take_left' frC_len] at this)).f2.f2)⟩

/-- no place is free: one more is made -/
theorem take_new (hb : pl.length ≤ 100000000) (h : SatL E w (Ar b pl [] :: R)) :
    Calls Try.prog 15 #[.pointer (some ⟨b, 0, none⟩), (Value.string x)] w (Ret fun v w' => v = .int .i64 (pl.length : Int) ∧ SatL E w' (Ar b (pl ++ [some #[(Value.string x)]]) [] :: R)) := by
  have hc : Ok KN #[(Value.string x)] := Xok
  obtain ⟨ps, fs, hp, h⟩ := h.openArena
  obtain ⟨gf, cf, rfl, _, _⟩ := (h.f2).rowVal
  refine calls_x Try.func15 rfl Try.ntmps15 rfl ?_
  refine xc_gen (fun g hg => ?_)
  have s0 := (hg 0).trans arg0
  have s1 := (hg 1).trans arg1
  clear hg
  refine xc_seq (fun K hK1 => ?_)
  refine xc_region ?_
  refine x_val (r_assign ec) (nd_of rfl) rfl ?_
  refine xw_nil ?_
  refine hK1 _ _ ?_
  refine xc_gen (fun g hg => ?_)
  have s0 := (hg 0).trans (en rfl s0)
  have s1 := (hg 1).trans (en rfl s1)
  have s4 := (hg 4).trans es
  clear hg
  refine xc_seq (fun K hK2 => ?_)
  refine xc_seq (fun K hK3 => ?_)
  refine xc_region ?_
  refine x_val (r_move s0) (nd_of rfl) rfl ?_
  refine x_val (r_eqnil Try.underlying33 es ec (r := false) rfl) (nd_of rfl) rfl ?_
  refine xw_nil ?_
  refine hK3 _ _ ?_
  refine xc_gen (fun g hg => ?_)
  have s0 := (hg 0).trans (en rfl (en rfl s0))
  have s1 := (hg 1).trans (en rfl (en rfl s1))
  have s4 := (hg 4).trans (en rfl (en rfl s4))
  have s8 := (hg 8).trans es
  clear hg
  refine xc_cond s8 (fun hc => by cases hc) (fun _ => ?_)
  refine xc_skip ?_
  refine hK2 _ _ ?_
  refine xc_seq (fun K hK4 => ?_)
  refine xc_seq (fun K hK5 => ?_)
  refine xc_region ?_
  refine x_val (r_move s0) (nd_of rfl) rfl ?_
  refine x_val (r_nilCheck es) (nd_of rfl) rfl ?_
  refine x_val (r_fieldAddr (o' := 1) Try.underlying69 rfl Try.sizeOf22 rfl es rfl) (nd_of rfl) rfl ?_
  refine x_val (r_load h 0 rfl Try.isAgg22 es gc1) (nd_of rfl) rfl ?_
  refine x_val (r_len Try.underlying22 es) (nd_of rfl) rfl ?_
  refine x_val (r_sub es ec (show _ = ((-1 : Int) : Int) from by rfl) (by unfold I64; omega)) (nd_of rfl) rfl ?_
  refine x_val (r_assign es) (nd_of rfl) rfl ?_
  refine xw_nil ?_
  refine hK5 _ _ ?_
  refine xc_gen (fun g hg => ?_)
  have s0 := (hg 0).trans (en rfl (en rfl (en rfl (en rfl (en rfl (en rfl (en rfl s0)))))))
  have s1 := (hg 1).trans (en rfl (en rfl (en rfl (en rfl (en rfl (en rfl (en rfl s1)))))))
  have s4 := (hg 4).trans (en rfl (en rfl (en rfl (en rfl (en rfl (en rfl (en rfl s4)))))))
  have s5 := (hg 5).trans es
  have s8 := (hg 8).trans (en rfl (en rfl (en rfl (en rfl (en rfl (en rfl (en rfl s8)))))))
  clear hg
  refine xc_seq (fun K hK6 => ?_)
  refine xc_region ?_
  refine x_val (r_move s5) (nd_of rfl) rfl ?_
  refine x_val (r_geq es ec (decide_eq_false (by omega))) (nd_of rfl) rfl ?_
  refine xw_nil ?_
  refine hK6 _ _ ?_
  refine xc_gen (fun g hg => ?_)
  have s0 := (hg 0).trans (en rfl (en rfl s0))
  have s1 := (hg 1).trans (en rfl (en rfl s1))
  have s4 := (hg 4).trans (en rfl (en rfl s4))
  have s5 := (hg 5).trans (en rfl (en rfl s5))
  have s8 := (hg 8).trans (en rfl (en rfl s8))
  have s16 := (hg 16).trans es
  clear hg
  refine xc_cond s16 (fun hc => by cases hc) (fun _ => ?_)
  refine xc_skip ?_
  refine hK4 _ _ ?_
  refine xc_seq (fun K hK7 => ?_)
  refine xc_region ?_
  refine x_val (r_move s0) (nd_of rfl) rfl ?_
  refine x_val (r_move (en rfl s0)) (nd_of rfl) rfl ?_
  refine x_val (r_nilCheck es) (nd_of rfl) rfl ?_
  refine x_val (r_fieldAddr (o' := 0) Try.underlying69 rfl Try.sizeOf67 rfl es rfl) (nd_of rfl) rfl ?_
  refine x_val (r_load h 0 rfl Try.isAgg67 es gc0) (nd_of rfl) rfl ?_
  refine x_val (r_move (en rfl (en rfl (en rfl (en rfl (en rfl s1)))))) (nd_of rfl) rfl ?_
  refine x_val (r_place (c := #[(Value.string x)]) Try.underlying71 zP_eq Try.sizeOf9 Try.sizeOf4 rfl rfl (by simp [zN_ok.size]) es rfl hc ec) (nd_of rfl) rfl ?_
  have h := h.f1
  refine x_bslice (c := #[(Value.string x)] ++ #[.bool true]) h Try.underlying67 Try.sizeOf71 zP_eq rfl rfl es rfl ((Nat.one_mul _).symm ▸ hc.place) rfl ?_; intro bn w h
  have h := h.f1
  refine x_append (bytes := 24) h Try.underlying67 (by kernel_rfl) (en rfl (en rfl (en rfl es))) es hc.place (by omega) (by omega) rfl ?_; intro ps2 w h; obtain ⟨gp, cp, rfl, hpl, hcp⟩ := h.rowVal; have h := h.f1.drop
  have h := h.f1
  refine x_val (r_nilCheck (en rfl (en rfl (en rfl (en rfl (en rfl (en rfl (en rfl (en rfl es))))))))) (nd_of rfl) rfl ?_
  refine x_val (r_fieldAddr (o' := 0) Try.underlying69 rfl Try.sizeOf67 rfl es rfl) (nd_of rfl) rfl ?_
  refine x_st (r_store h 0 rfl Try.sizeOf67 es (en rfl (en rfl es)) rfl gc0) rfl (h.u0 sc0) ?_
  intro w h
  refine xw_nil ?_
  refine hK7 _ _ ?_
  refine xc_gen (fun g hg => ?_)
  have s0 := (hg 0).trans (en rfl (en rfl (en rfl (en rfl (en rfl (en rfl (en rfl (en rfl (en rfl (en rfl (en rfl s0)))))))))))
  have s1 := (hg 1).trans (en rfl (en rfl (en rfl (en rfl (en rfl (en rfl (en rfl (en rfl (en rfl (en rfl (en rfl s1)))))))))))
  have s4 := (hg 4).trans (en rfl (en rfl (en rfl (en rfl (en rfl (en rfl (en rfl (en rfl (en rfl (en rfl (en rfl s4)))))))))))
  have s5 := (hg 5).trans (en rfl (en rfl (en rfl (en rfl (en rfl (en rfl (en rfl (en rfl (en rfl (en rfl (en rfl s5)))))))))))
  have s8 := (hg 8).trans (en rfl (en rfl (en rfl (en rfl (en rfl (en rfl (en rfl (en rfl (en rfl (en rfl (en rfl s8)))))))))))
  have s16 := (hg 16).trans (en rfl (en rfl (en rfl (en rfl (en rfl (en rfl (en rfl (en rfl (en rfl (en rfl (en rfl s16)))))))))))
  clear hg
  refine xc_seq (fun K hK8 => ?_)
  refine xc_region ?_
  refine x_val (r_move s0) (nd_of rfl) rfl ?_
  refine x_val (r_nilCheck es) (nd_of rfl) rfl ?_
  refine x_val (r_fieldAddr (o' := 0) Try.underlying69 rfl Try.sizeOf67 rfl es rfl) (nd_of rfl) rfl ?_
  refine x_val (r_load h 0 rfl Try.isAgg67 es gc0) (nd_of rfl) rfl ?_
  refine x_val (r_len Try.underlying67 es) (nd_of rfl) rfl ?_
  refine x_val (r_sub es ec (show _ = ((pl.length : Int) : Int) from by omega) (by unfold I64; omega)) (nd_of rfl) rfl ?_
  have h := h.f2
  have h := h.f2
  have h := h.f2
  refine x_val (r_assign es) (nd_of rfl) rfl ?_
  refine xw_nil ?_
  refine hK8 _ _ ?_
  refine xc_gen (fun g hg => ?_)
  have s0 := (hg 0).trans (en rfl (en rfl (en rfl (en rfl (en rfl (en rfl (en rfl s0)))))))
  have s1 := (hg 1).trans (en rfl (en rfl (en rfl (en rfl (en rfl (en rfl (en rfl s1)))))))
  have s4 := (hg 4).trans es
  have s5 := (hg 5).trans (en rfl (en rfl (en rfl (en rfl (en rfl (en rfl (en rfl s5)))))))
  have s8 := (hg 8).trans (en rfl (en rfl (en rfl (en rfl (en rfl (en rfl (en rfl s8)))))))
  have s16 := (hg 16).trans (en rfl (en rfl (en rfl (en rfl (en rfl (en rfl (en rfl s16)))))))
  clear hg
  refine xc_ret ?_
  refine bodyR_1 rfl s4 ?_
  exact ⟨rfl, SatL.closeArena (hp.grow hc) (by rw [placesC_snoc, List.length_append]; exact h)⟩

theorem new_ok (h : SatL E w R) : Calls Try.prog 13 #[] w (Ret fun v w' => ∃ b, v = .pointer (some ⟨b, 0, none⟩) ∧ SatL E w' (Ar b [] [] :: R)) := by
  have zA : ∀ w, (zeroValue 69).run Try.prog w = .ok (.agg #[.slice none 0 0, .slice none 0 0]) w := fun _ => by kernel_rfl
  refine calls_x Try.func13 rfl Try.ntmps13 rfl ?_
  refine xc_gen (fun g hg => ?_)
  clear hg
  refine xc_seq (fun K hK1 => ?_)
  refine xc_region ?_
  refine x_val (r_assign ec) (nd_of rfl) rfl ?_
  refine xw_nil ?_
  refine hK1 _ _ ?_
  refine xc_gen (fun g hg => ?_)
  have s0 := (hg 0).trans es
  clear hg
  refine xc_seq (fun K hK2 => ?_)
  refine xc_region ?_
  refine x_val (r_build02 Try.underlying69 zA Try.sizeOf67 Try.sizeOf22) (nd_of rfl) rfl ?_
  refine x_boxA h es rfl ?_
  intro b2 w h
  refine x_val (r_assign es) (nd_of rfl) rfl ?_
  refine xw_nil ?_
  refine hK2 _ _ ?_
  refine xc_gen (fun g hg => ?_)
  have s0 := (hg 0).trans es
  clear hg
  refine xc_ret ?_
  refine bodyR_1 rfl s0 ?_
  exact ⟨_, rfl, SatL.closeArena ⟨zN_ok, by simp, by simp, List.nodup_nil⟩ ((h.rowNil (e := 3) (sz := 1)).f1 |> fun h => (h.rowNil (e := 71) (sz := 2)).f1 |> fun h => h)⟩

theorem len_ok (h : SatL E w (Ar b pl fr :: R)) (hl : pl.length ≤ 1000000000) :
    Calls Try.prog 19 #[.pointer (some ⟨b, 0, none⟩)] w (Ret fun v w' => v = .int .i64 ((pl.length : Int) - fr.length) ∧ SatL E w' (Ar b pl fr :: R)) := by
  obtain ⟨ps, fs, hp, h⟩ := h.openArena
  have hfl := hp.frLen
  obtain ⟨gp, cp, rfl, _, _⟩ := (h.f1).rowVal
  obtain ⟨gf, cf, rfl, _, _⟩ := (h.f2).rowVal
  refine calls_x Try.func19 rfl Try.ntmps19 rfl ?_
  refine xc_gen (fun g hg => ?_)
  have s0 := (hg 0).trans arg0
  clear hg
  refine xc_seq (fun K hK1 => ?_)
  refine xc_region ?_
  refine x_val (r_assign ec) (nd_of rfl) rfl ?_
  refine xw_nil ?_
  refine hK1 _ _ ?_
  refine xc_gen (fun g hg => ?_)
  have s0 := (hg 0).trans (en rfl s0)
  have s2 := (hg 2).trans es
  clear hg
  refine xc_seq (fun K hK2 => ?_)
  refine xc_seq (fun K hK3 => ?_)
  refine xc_region ?_
  refine x_val (r_move s0) (nd_of rfl) rfl ?_
  refine x_val (r_eqnil Try.underlying33 es ec (r := false) rfl) (nd_of rfl) rfl ?_
  refine xw_nil ?_
  refine hK3 _ _ ?_
  refine xc_gen (fun g hg => ?_)
  have s0 := (hg 0).trans (en rfl (en rfl s0))
  have s2 := (hg 2).trans (en rfl (en rfl s2))
  have s4 := (hg 4).trans es
  clear hg
  refine xc_cond s4 (fun hc => by cases hc) (fun _ => ?_)
  refine xc_skip ?_
  refine hK2 _ _ ?_
  refine xc_seq (fun K hK4 => ?_)
  refine xc_plan 12 [(0, 2), (1, 2), (2, 2), (3, 1), (4, 2), (5, 2), (6, 2), (7, 2), (8, 1), (9, 2), (10, 2), (11, 2)] (by kernel_rfl) rfl (by kernel_rfl) h ?_
  have h := h.drew
  refine xp_read (i := 0) rfl (fun W => r_move s0) rfl (fun _ _ _ hh => by first | exact bodyR_np hh | exact bodyY_np hh | exact hh) ?_
  refine xp_read (i := 1) rfl (fun W => r_nilCheck es) rfl (fun _ _ _ hh => by first | exact bodyR_np hh | exact bodyY_np hh | exact hh) ?_
  refine xp_read (i := 2) rfl (fun W => r_fieldAddr (o' := 0) Try.underlying69 rfl Try.sizeOf67 rfl es rfl) rfl (fun _ _ _ hh => by first | exact bodyR_np hh | exact bodyY_np hh | exact hh) ?_
  refine xp_load (i := 3) rfl (fun W hW => r_load hW 0 rfl Try.isAgg67 es gc0) rfl (fun _ _ _ hh => by first | exact bodyR_np hh | exact bodyY_np hh | exact hh) ?_
  refine xp_read (i := 4) rfl (fun W => r_len Try.underlying67 es) rfl (fun _ _ _ hh => by first | exact bodyR_np hh | exact bodyY_np hh | exact hh) ?_
  refine xp_read (i := 5) rfl (fun W => r_move (en rfl (en rfl (en rfl (en rfl (en rfl s0)))))) rfl (fun _ _ _ hh => by first | exact bodyR_np hh | exact bodyY_np hh | exact hh) ?_
  refine xp_read (i := 6) rfl (fun W => r_nilCheck es) rfl (fun _ _ _ hh => by first | exact bodyR_np hh | exact bodyY_np hh | exact hh) ?_
  refine xp_read (i := 7) rfl (fun W => r_fieldAddr (o' := 1) Try.underlying69 rfl Try.sizeOf22 rfl es rfl) rfl (fun _ _ _ hh => by first | exact bodyR_np hh | exact bodyY_np hh | exact hh) ?_
  refine xp_load (i := 8) rfl (fun W hW => r_load hW 0 rfl Try.isAgg22 es gc1) rfl (fun _ _ _ hh => by first | exact bodyR_np hh | exact bodyY_np hh | exact hh) ?_
  refine xp_read (i := 9) rfl (fun W => r_len Try.underlying22 es) rfl (fun _ _ _ hh => by first | exact bodyR_np hh | exact bodyY_np hh | exact hh) ?_
  refine xp_read (i := 10) rfl (fun W => r_sub (en rfl (en rfl (en rfl (en rfl (en rfl es))))) es rfl (by unfold I64; omega)) rfl (fun _ _ _ hh => by first | exact bodyR_np hh | exact bodyY_np hh | exact hh) ?_
  refine xp_read (i := 11) rfl (fun W => r_assign es) rfl (fun _ _ _ hh => by first | exact bodyR_np hh | exact bodyY_np hh | exact hh) ?_
  refine xp_nil ?_
  refine hK4 _ _ ?_
  refine xc_gen (fun g hg => ?_)
  have s0 := (hg 0).trans (en rfl (en rfl (en rfl (en rfl (en rfl (en rfl (en rfl (en rfl (en rfl (en rfl (en rfl (en rfl s0))))))))))))
  have s2 := (hg 2).trans es
  have s4 := (hg 4).trans (en rfl (en rfl (en rfl (en rfl (en rfl (en rfl (en rfl (en rfl (en rfl (en rfl (en rfl (en rfl s4))))))))))))
  clear hg
  refine xc_ret ?_
  refine bodyR_1 rfl s2 ?_
  exact ⟨rfl, SatL.closeArena hp h⟩

theorem cap_ok (h : SatL E w (Ar b pl fr :: R)) :
    Calls Try.prog 20 #[.pointer (some ⟨b, 0, none⟩)] w (Ret fun v w' => v = .int .i64 (pl.length : Int) ∧ SatL E w' (Ar b pl fr :: R)) := by
  obtain ⟨ps, fs, hp, h⟩ := h.openArena
  obtain ⟨gp, cp, rfl, _, _⟩ := (h.f1).rowVal
  refine calls_x Try.func20 rfl Try.ntmps20 rfl ?_
  refine xc_gen (fun g hg => ?_)
  have s0 := (hg 0).trans arg0
  clear hg
  refine xc_seq (fun K hK1 => ?_)
  refine xc_region ?_
  refine x_val (r_assign ec) (nd_of rfl) rfl ?_
  refine xw_nil ?_
  refine hK1 _ _ ?_
  refine xc_gen (fun g hg => ?_)
  have s0 := (hg 0).trans (en rfl s0)
  have s2 := (hg 2).trans es
  clear hg
  refine xc_seq (fun K hK2 => ?_)
  refine xc_seq (fun K hK3 => ?_)
  refine xc_region ?_
  refine x_val (r_move s0) (nd_of rfl) rfl ?_
  refine x_val (r_eqnil Try.underlying33 es ec (r := false) rfl) (nd_of rfl) rfl ?_
  refine xw_nil ?_
  refine hK3 _ _ ?_
  refine xc_gen (fun g hg => ?_)
  have s0 := (hg 0).trans (en rfl (en rfl s0))
  have s2 := (hg 2).trans (en rfl (en rfl s2))
  have s4 := (hg 4).trans es
  clear hg
  refine xc_cond s4 (fun hc => by cases hc) (fun _ => ?_)
  refine xc_skip ?_
  refine hK2 _ _ ?_
  refine xc_seq (fun K hK4 => ?_)
  refine xc_region ?_
  refine x_val (r_move s0) (nd_of rfl) rfl ?_
  refine x_val (r_nilCheck es) (nd_of rfl) rfl ?_
  refine x_val (r_fieldAddr (o' := 0) Try.underlying69 rfl Try.sizeOf67 rfl es rfl) (nd_of rfl) rfl ?_
  refine x_val (r_load h 0 rfl Try.isAgg67 es gc0) (nd_of rfl) rfl ?_
  refine x_val (r_len Try.underlying67 es) (nd_of rfl) rfl ?_
  refine x_val (r_assign es) (nd_of rfl) rfl ?_
  refine xw_nil ?_
  refine hK4 _ _ ?_
  refine xc_gen (fun g hg => ?_)
  have s0 := (hg 0).trans (en rfl (en rfl (en rfl (en rfl (en rfl (en rfl s0))))))
  have s2 := (hg 2).trans es
  have s4 := (hg 4).trans (en rfl (en rfl (en rfl (en rfl (en rfl (en rfl s4))))))
  clear hg
  refine xc_ret ?_
  refine bodyR_1 rfl s2 ?_
  exact ⟨rfl, SatL.closeArena hp h⟩
end
end Go.Proofs.Ytfmhcefjbghhlaa.S
