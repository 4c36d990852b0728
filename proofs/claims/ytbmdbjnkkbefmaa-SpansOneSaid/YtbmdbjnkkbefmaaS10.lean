/-
What Map makes of the numbers; two Maps, one behind the other.
-/
import Derived.Test.YtbmdbjnkkbefmaaS9
namespace Go.Proofs.Ytbmdbjnkkbefmaa
open Go Go.RowKit
theorem ids_mapR (g : Int → Int) : ∀ l : List X, ids (((l.map toR).map (mapR g)).map toX) = (ids l).map g
  | [] => rfl
  | x :: l => by
    have h := ids_mapR g l
    rw [List.map_cons, List.map_cons, List.map_cons, ids_cons, h, ids_cons, List.map_append, List.map_replicate]
    rfl
theorem sumR_mapR (g : Int → Int) : ∀ ps : List RS, sumR (ps.map (mapR g)) = sumR ps
  | [] => rfl
  | p :: ps => by
    have h := sumR_mapR g ps
    show p.1 + sumR (ps.map (mapR g)) = p.1 + sumR ps
    rw [h]
theorem mapPs_len (g : Int → Int) (xs : List X) (i j : Int) : (mapPs g xs i j).length ≤ xs.length := by
  unfold mapPs
  rw [List.length_map, List.length_map]
  exact over_len _ _ _
theorem ids_mapPs {g : Int → Int} {xs : List X} {i j : Int} : ids ((mapPs g xs i j).map toX) = (((ids xs).take j.toNat).drop i.toNat).map g := by
  unfold mapPs
  rw [ids_mapR, ids_over]
theorem sum_mapPs {g : Int → Int} {xs : List X} {i j : Int} (hp : isPart (sz xs) i j) : sumR (mapPs g xs i j) = j - i := by
  obtain ⟨h0, h1, h2⟩ := hp
  unfold mapPs
  rw [sumR_mapR, sumR_toR, sz_over (by omega)]
  omega
theorem sz_map {g : Int → Int} {xs : List X} {i j : Int} (hp : isPart (sz xs) i j) : sz (spliceS xs i j (mapPs g xs i j)) = sz xs := by
  by_cases he : spliceE xs i j (mapPs g xs i j) = 0
  · have h := sz_splice he
    rw [sum_mapPs hp] at h
    omega
  · unfold spliceS
    rw [if_neg he]
theorem len_map {g : Int → Int} {xs : List X} {i j : Int} : (spliceS xs i j (mapPs g xs i j)).length ≤ 2 * xs.length + 1 := by
  unfold spliceS
  split
  · have h1 := replL_len xs i.toNat j.toNat ((mapPs g xs i j).map toX)
    have h2 := mapPs_len g xs i j
    rw [List.length_map] at h1
    omega
  · omega
theorem canon_splice {xs : List X} {i j : Int} {ps : List RS} (h : Canon xs) : Canon (spliceS xs i j ps) := by
  unfold spliceS
  split
  · exact canon_repl h
  · exact h
theorem ids_map {g : Int → Int} {xs : List X} {i j : Int} (he : spliceE xs i j (mapPs g xs i j) = 0) : ids (spliceS xs i j (mapPs g xs i j)) = (ids xs).take i.toNat ++ ((((ids xs).take j.toNat).drop i.toNat).map g ++ (ids xs).drop j.toNat) := by
  rw [ids_splice he, ids_mapPs]
theorem map_twice {g g2 : Int → Int} {xs s1 : List X} {i j : Int} (hc : Canon xs) (hs : s1 = spliceS xs i j (mapPs g xs i j)) (h1 : spliceE xs i j (mapPs g xs i j) = 0) (h2 : spliceE s1 i j (mapPs g2 s1 i j) = 0) (h3 : spliceE xs i j (mapPs (fun x => g2 (g x)) xs i j) = 0) :
    spliceS s1 i j (mapPs g2 s1 i j) = spliceS xs i j (mapPs (fun x => g2 (g x)) xs i j) := by
  have hp := (spliceE_zero h1).2.1
  obtain ⟨p0, p1, p2⟩ := hp
  have i1 : ids s1 = (ids xs).take i.toNat ++ ((((ids xs).take j.toNat).drop i.toNat).map g ++ (ids xs).drop j.toNat) := by rw [hs]; exact ids_map h1
  have hc1 : Canon s1 := by rw [hs]; exact canon_splice hc
  refine canon_uniq (canon_splice hc1) (canon_splice hc) ?_
  rw [ids_map h2, ids_map h3, i1]
  have hl := ids_len xs
  have l1 : ((ids xs).take i.toNat).length = i.toNat := by rw [List.length_take]; omega
  have l2 : ((((ids xs).take j.toNat).drop i.toNat).map g).length = j.toNat - i.toNat := by rw [List.length_map, List.length_drop, List.length_take]; omega
  generalize ((ids xs).take j.toNat).drop i.toNat = M at *
  generalize (ids xs).take i.toNat = A at *
  generalize (ids xs).drop j.toNat = D at *
  have e : j.toNat = A.length + (M.map g).length := by omega
  rw [← l1, e]
  simp only [List.take_left, List.append_cancel_left_eq]
  rw [← List.append_assoc, show A.length + (M.map g).length = (A ++ M.map g).length by rw [List.length_append], List.take_left, List.drop_left, List.drop_left, List.map_map]
  rfl
section
variable {E : Env} {R : List SProp} {A : SProp} {fv : Value} {g : Int → Int}
theorem MapFn.weak (h : MapFn E R fv g) : MapFn E (A :: R) fv g := by
  obtain ⟨f, pre, us, e, hc, h1⟩ := h
  refine ⟨f, pre, us, e, hc, fun L w x hw => ?_⟩
  have e1 : L ++ A :: R = (L ++ [A]) ++ R := by simp
  rw [e1] at hw ⊢
  exact h1 _ w x hw
theorem MapFn.swap {B : SProp} (h : MapFn E (A :: B :: R) fv g) : MapFn E (B :: A :: R) fv g := by
  obtain ⟨f, pre, us, e, hc, h1⟩ := h
  refine ⟨f, pre, us, e, hc, fun L w x hw => ?_⟩
  exact Calls.ret_mono (h1 L w x (hw.perm (List.Perm.append_left L (List.Perm.swap _ _ _)))) fun u w hh => ⟨hh.1, hh.2.perm (List.Perm.append_left L (List.Perm.swap _ _ _))⟩
theorem mapped_fn {c0 c1 c2 c3 : Value} {y p : Int} : MapFn E R (.func (.func 16) #[.agg #[c0, c1, c2, c3, .int .i64 y, .int .i64 p]] #[]) (gM y p) :=
  ⟨_, _, _, rfl, Try.call16, fun _ _ _ h => mapped_ok h⟩
theorem both_fn {ba bb : Nat} {c0 c1 c2 c3 e0 e1 e2 e3 : Value} {ya pa yb pb : Int} : MapFn E (Cells ba #[c0, c1, c2, c3, .int .i64 ya, .int .i64 pa] 28 :: Cells bb #[e0, e1, e2, e3, .int .i64 yb, .int .i64 pb] 28 :: R)
    (.func (.func 15) #[] #[pT bb, pT ba]) (fun x => gM yb pb (gM ya pa x)) := by
  refine ⟨_, _, _, rfl, Try.call15, fun L w x h => ?_⟩
  replace h := h.app
  show Calls _ _ #[.int .i64 x, pT bb, pT ba] _ _
  refine calls_x Try.func15 rfl Try.ntmps15 rfl ?_
  refine xc_gen (fun g hg => ?_)
  have s0 := (hg 0).trans arg0
  have s1 := (hg 1).trans arg1
  have s2 := (hg 2).trans arg2
  clear hg
  refine xc_seq (fun K hK1 => ?_)
  refine xc_region ?_
  refine x_val (r_assign ec) (nd_of rfl) rfl ?_
  refine xw_nil ?_
  refine hK1 _ _ ?_
  refine xc_gen (fun g hg => ?_)
  have s0 := (hg 0).trans (en rfl s0)
  have s1 := (hg 1).trans (en rfl s1)
  have s2 := (hg 2).trans (en rfl s2)
  have s4 := (hg 4).trans es
  clear hg
  refine xc_seq (fun K hK2 => ?_)
  refine xc_plan 6 [(0, 1), (1, 1), (2, 2), (3, 0), (4, 0), (5, 2)] (by kernel_rfl) rfl (by kernel_rfl) h ?_
  have h := h.drew
  refine xp_load (i := 0) rfl (fun W hW => r_loadAgg hW 1 rfl Try.isAgg28 Try.sizeOf28 s1 (by exact Nat.le_refl _) (ext_full rfl)) rfl (fun _ _ _ hh => by first | exact bodyR_np hh | exact bodyY_np hh | exact hh) ?_
  refine xp_load (i := 1) rfl (fun W hW => r_loadAgg hW 0 rfl Try.isAgg28 Try.sizeOf28 (en rfl s2) (by exact Nat.le_refl _) (ext_full rfl)) rfl (fun _ _ _ hh => by first | exact bodyR_np hh | exact bodyY_np hh | exact hh) ?_
  refine xp_read (i := 2) rfl (fun W => r_move (en rfl (en rfl s0))) rfl (fun _ _ _ hh => by first | exact bodyR_np hh | exact bodyY_np hh | exact hh) ?_
  refine xp_enter (i := 3) rfl (r_call Try.call16 (.cons (en rfl es) (.cons es .nil))) rfl (mapped_ok h) ?_
  rintro _ w ⟨rfl, h⟩
  refine ⟨(fun _ => h), ?_⟩
  refine xp_enter (i := 4) rfl (r_call Try.call16 (.cons (en rfl (en rfl (en rfl es))) (.cons es .nil))) rfl (mapped_ok h) ?_
  rintro _ w ⟨rfl, h⟩
  refine ⟨(fun _ => h), ?_⟩
  refine xp_read (i := 5) rfl (fun W => r_assign es) rfl (fun _ _ _ hh => by first | exact bodyR_np hh | exact bodyY_np hh | exact hh) ?_
  refine xp_nil ?_
  refine hK2 _ _ ?_
  refine xc_gen (fun g hg => ?_)
  have s0 := (hg 0).trans (en rfl (en rfl (en rfl (en rfl (en rfl (en rfl s0))))))
  have s1 := (hg 1).trans (en rfl (en rfl (en rfl (en rfl (en rfl (en rfl s1))))))
  have s2 := (hg 2).trans (en rfl (en rfl (en rfl (en rfl (en rfl (en rfl s2))))))
  have s4 := (hg 4).trans es
  clear hg
  refine xc_ret ?_
  refine bodyR_1 rfl s4 ?_
  exact ⟨rfl, SatL.app h⟩
end
end Go.Proofs.Ytbmdbjnkkbefmaa
