/-
A new tree.
-/
import Derived.Test.YtonnijghdlakfaaT13
namespace Go.Proofs.Ytonnijghdlakfaa
open Go Go.RowKit
section
variable {P : Program} {f : Nat → Value} {w : World} {d : Option Tmp} {ty : TypeId} {pos : String} {af : Array Edge} {g : Option (Tmp × Bool)}
theorem r_build3f {T : TypeId} {f0 f1 f2 : Field} {s0 s1 s2 : Nat} {x y z : Operand} {zs c : Array Value} {a b u : Value} (hu : P.underlying T = some (.struct #[f0, f1, f2])) (hz : ∀ w, (zeroValue T).run P w = .ok (.agg zs) w)
    (hs0 : ∀ w, (sizeOf f0.type).run P w = .ok s0 w) (hs1 : ∀ w, (sizeOf f1.type).run P w = .ok s1 w) (hs2 : ∀ w, (sizeOf f2.type).run P w = .ok s2 w) (hx : ev f x = a) (hy : ev f y = b) (hv : ev f z = u)
    (hf : Instr.fill (fun i => [(f0.offset, s0), (f1.offset, s1), (f2.offset, s2)][i]?) zs [(0, a), (1, b), (2, u)] = some c) :
    (execOp (ev f) ⟨d, .build T #[(0, x), (1, y), (2, z)], ty, pos, af, g⟩).run P w = .ok (.value (.agg c)) w := by
  have e : (Value.agg zs).cells = zs := rfl
  simp [execOp, Instr.build, hz, run_underlying hu, hs0, hs1, hs2, hx, hy, hv, e, hf]
theorem r_build01 {T : TypeId} {zs : Array Value} {f0 : Field} {s0 : Nat} (hu : P.underlying T = some (.struct #[f0])) (hz : ∀ w, (zeroValue T).run P w = .ok (.agg zs) w) (hs0 : ∀ w, (sizeOf f0.type).run P w = .ok s0 w) :
    (execOp (ev f) ⟨d, .build T #[], ty, pos, af, g⟩).run P w = .ok (.value (.agg zs)) w := by
  have e : (Value.agg zs).cells = zs := rfl
  simp [execOp, Instr.build, hz, run_underlying hu, hs0, Instr.fill, e]
end
section
variable {E : Env} {R : List SProp} {w : World}
theorem zAr : ∀ w, (zeroValue 107).run Try.prog w = .ok (.agg #[.slice none 0 0, .slice none 0 0]) w := fun _ => by kernel_rfl
theorem zTr : ∀ w, (zeroValue 83).run Try.prog w = .ok (.agg #[.nilFunc, .nilFunc, .nilFunc, .pointer none, .int .i64 0]) w := fun _ => by kernel_rfl
theorem zKd : ∀ w, (zeroValue 78).run Try.prog w = .ok (.agg #[.nilFunc, .nilFunc, .nilFunc]) w := fun _ => by kernel_rfl
theorem newAr_ok (h : SatL E w R) : Calls Try.prog 56 #[] w (Ret fun v w' => ∃ b : Nat, v = .pointer (some ⟨b, 0, none⟩) ∧ SatL E w' (Ar b [] [] :: R)) := by
  refine calls_x Try.func56 rfl Try.ntmps56 rfl ?_
  refine xc_gen (fun g hg => ?_)
  clear hg
  refine xc_seq (fun K hK1 => ?_)
  refine xc_region ?_
  refine x_val (r_assign ec) (nd_of rfl) rfl ?_
  refine xw_nil ?_
  refine hK1 _ _ ?_
  refine xc_gen (fun g hg => ?_)
  have s0 := (hg 0).trans es
  clear hg
  refine xc_seq (fun K hK2 => ?_)
  refine xc_region ?_
  refine x_val (r_build02 Try.underlying107 zAr Try.sizeOf104 Try.sizeOf105) (nd_of rfl) rfl ?_
  refine x_boxA h es rfl ?_
  intro b2 w h
  refine x_val (r_assign es) (nd_of rfl) rfl ?_
  refine xw_nil ?_
  refine hK2 _ _ ?_
  refine xc_gen (fun g hg => ?_)
  have s0 := (hg 0).trans es
  clear hg
  refine xc_ret ?_
  refine bodyR_1 rfl s0 ?_
  exact ⟨_, rfl, SatL.closeArena ⟨zN_ok, by simp, by simp, List.nodup_nil⟩ ((h.rowNil (e := 3) (sz := 1)).f1 |> fun h => (h.rowNil (e := 109) (sz := KN + 1)).f1 |> fun h => h)⟩
theorem new_t (h : SatL E w R) : Calls Try.prog 36 #[.agg #[fnM, fnC, fnJ]] w (Ret fun v w' => ∃ bt ba : Nat, v = pT bt ∧ SatL E w' (TreeB bt ba [] 0 :: R)) := by
  have hk : Ok 3 #[fnM, fnC, fnJ] := ⟨rfl, by simp [Value.oneCell']⟩
  refine calls_x Try.func36 rfl Try.ntmps36 rfl ?_
  refine xc_gen (fun g hg => ?_)
  have s0 := (hg 0).trans arg0
  clear hg
  refine xc_seq (fun K hK1 => ?_)
  refine xc_region ?_
  refine x_boxA h s0 rfl ?_
  intro b1 w h
  refine x_val (r_assign ec) (nd_of rfl) rfl ?_
  refine xw_nil ?_
  refine hK1 _ _ ?_
  refine xc_gen (fun g hg => ?_)
  have s0 := (hg 0).trans (en rfl (en rfl s0))
  have s1 := (hg 1).trans (en rfl es)
  have s2 := (hg 2).trans es
  clear hg
  refine xc_seq (fun K hK2 => ?_)
  have hS := h
  refine xc_plan 5 [(0, 1), (1, 0), (2, 2), (3, 0), (4, 2)] (by kernel_rfl) rfl (by kernel_rfl) hS ?_
  have h := h.drew
  refine xp_load (i := 0) rfl (fun W hW => r_loadAgg hW 0 rfl Try.isAgg78 Try.sizeOf78 s1 (by exact Nat.le_refl _) (ext_full rfl)) rfl (fun _ _ _ hh => by first | exact bodyR_np hh | exact bodyY_np hh | exact hh) ?_
  refine xp_enter (i := 1) rfl (r_call Try.call56 .nil) rfl (newAr_ok h) ?_
  rintro _ w ⟨ba, rfl, h⟩
  refine ⟨(fun _ => (h.f0).drop), ?_⟩
  refine xp_read (i := 2) rfl (fun W => r_build3f (c := #[fnM, fnC, fnJ, .pointer (some ⟨ba, 0, none⟩), .int .i64 (-1)]) Try.underlying83 zTr Try.sizeOf78 Try.sizeOf81 Try.sizeOf3 (en rfl es) es ec (by kernel_rfl)) rfl (fun _ _ _ hh => by first | exact bodyR_np hh | exact bodyY_np hh | exact hh) ?_
  refine xp_boxA (i := 3) rfl h es rfl ?_
  intro b6 w h
  refine ⟨(fun _ => ((h.f0).drop.f0).drop), ?_⟩
  refine xp_read (i := 4) rfl (fun W => r_assign es) rfl (fun _ _ _ hh => by first | exact bodyR_np hh | exact bodyY_np hh | exact hh) ?_
  refine xp_nil ?_
  refine hK2 _ _ ?_
  refine xc_gen (fun g hg => ?_)
  have s0 := (hg 0).trans (en rfl (en rfl (en rfl (en rfl (en rfl s0)))))
  have s1 := (hg 1).trans (en rfl (en rfl (en rfl (en rfl (en rfl s1)))))
  have s2 := (hg 2).trans es
  clear hg
  refine xc_ret ?_
  refine bodyR_1 rfl s2 ?_
  exact ⟨_, _, rfl, SatL.closeTree (t := .nil) (pl := []) (fr := []) ⟨trivial, List.nodup_nil, rfl, by simp [Ps], rfl, Nat.le_refl _, Bd.nil⟩ ((h.f2.drop))⟩
end
end Go.Proofs.Ytonnijghdlakfaa
