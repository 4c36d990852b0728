/-
Records: each call in one; the known case.
-/
import Derived.Test.YtonnijghdlakfaaU9
namespace Go.Proofs.Ytonnijghdlakfaa
open Go Go.RowKit
section
variable {P : Program} {f : Nat → Value} {w : World} {d : Option Tmp} {ty : TypeId} {pos : String} {af : Array Edge} {g : Option (Tmp × Bool)}
theorem r_build4p {T : TypeId} {f0 f1 f2 f3 : Field} {x y : Operand} {zs : Array Value} {v0 v1 z2 z3 : Value} (hu : P.underlying T = some (.struct #[f0, f1, f2, f3])) (hz : ∀ w, (zeroValue T).run P w = .ok (.agg zs) w) (hzs : ∃ z0 z1, zs = #[z0, z1, z2, z3])
    (hs0 : ∀ w, (sizeOf f0.type).run P w = .ok 1 w) (hs1 : ∀ w, (sizeOf f1.type).run P w = .ok 1 w) (hs2 : ∀ w, (sizeOf f2.type).run P w = .ok 1 w) (hs3 : ∀ w, (sizeOf f3.type).run P w = .ok 1 w) (o0 : f0.offset = 0) (o1 : f1.offset = 1) (o2 : f2.offset = 2) (o3 : f3.offset = 3)
    (hx : ev f x = v0) (h0 : v0.cells = #[v0]) (hy : ev f y = v1) (h1 : v1.cells = #[v1]) :
    (execOp (ev f) ⟨d, .build T #[(0, x), (1, y)], ty, pos, af, g⟩).run P w = .ok (.value (.agg #[v0, v1, z2, z3])) w := by
  obtain ⟨z0, z1, rfl⟩ := hzs
  have e0 : (Value.agg #[z0, z1, z2, z3]).cells = #[z0, z1, z2, z3] := rfl
  have hf : Instr.fill (fun i => [(0, 1), (1, 1), (2, 1), (3, 1)][i]?) #[z0, z1, z2, z3] [(0, v0), (1, v1)] = some #[v0, v1, z2, z3] := by
    simp [Instr.fill, h0, h1]
  simp [execOp, Instr.build, hz, run_underlying hu, hs0, hs1, hs2, hs3, o0, o1, o2, o3, hx, hy, e0, hf]
theorem r_build114 {T : TypeId} {f0 f1 f2 : Field} {x y : Operand} {zs : Array Value} {v0 z1 a b c e : Value} (hu : P.underlying T = some (.struct #[f0, f1, f2])) (hz : ∀ w, (zeroValue T).run P w = .ok (.agg zs) w) (hzs : ∃ z0 z2 z3 z4 z5, zs = #[z0, z1, z2, z3, z4, z5])
    (hs0 : ∀ w, (sizeOf f0.type).run P w = .ok 1 w) (hs1 : ∀ w, (sizeOf f1.type).run P w = .ok 1 w) (hs2 : ∀ w, (sizeOf f2.type).run P w = .ok 4 w) (o0 : f0.offset = 0) (o1 : f1.offset = 1) (o2 : f2.offset = 2)
    (hx : ev f x = v0) (h0 : v0.cells = #[v0]) (hy : ev f y = .agg #[a, b, c, e]) :
    (execOp (ev f) ⟨d, .build T #[(0, x), (2, y)], ty, pos, af, g⟩).run P w = .ok (.value (.agg #[v0, z1, a, b, c, e])) w := by
  obtain ⟨z0, z2, z3, z4, z5, rfl⟩ := hzs
  have e0 : (Value.agg #[z0, z1, z2, z3, z4, z5]).cells = #[z0, z1, z2, z3, z4, z5] := rfl
  have e1 : (Value.agg #[a, b, c, e]).cells = #[a, b, c, e] := rfl
  have hf : Instr.fill (fun i => [(0, 1), (1, 1), (2, 4)][i]?) #[z0, z1, z2, z3, z4, z5] [(0, v0), (2, Value.agg #[a, b, c, e])] = some #[v0, z1, a, b, c, e] := by
    simp [Instr.fill, h0, e1]
  simp [execOp, Instr.build, hz, run_underlying hu, hs0, hs1, hs2, o0, o1, o2, hx, hy, e0, hf]
end
/-- what a call answers -/
def errP (L : List (List Atr)) (i j : Int) : Int := open Classical in if isPart L.length i j then 0 else 5
def insL (L : List (List Atr)) (i : Int) (M : List (List Atr)) : List (List Atr) := open Classical in if isPart L.length i i then L.take i.toNat ++ (M ++ L.drop i.toNat) else L
def delL (L : List (List Atr)) (i j : Int) : List (List Atr) := open Classical in if isPart L.length i j then L.take i.toNat ++ L.drop j.toNat else L
def patL (L : List (List Atr)) (i j : Int) (X : List Chg) : List (List Atr) := open Classical in if isPart L.length i j then L.take i.toNat ++ (((L.take j.toNat).drop i.toNat).map (fun l => applyL l X) ++ L.drop j.toNat) else L
/-- what holds of records behind n calls -/
structure InvP (L : List (List Atr)) (n : Nat) : Prop where
  len : L.length ≤ 60 * n
  each : ∀ l ∈ L, l.length ≤ 70 * (n + 1) ∧ Rise l ∧ ∀ a ∈ l, wfA a
/-- what `small` asks of sets and patches -/
def okSets (M : List (List Atr)) : Prop := M.length ≤ 60 ∧ ∀ l ∈ M, l.length ≤ 70 ∧ Rise l ∧ ∀ a ∈ l, wfA a
def okPatch (X : List Chg) : Prop := X.length ≤ 70 ∧ RiseC X ∧ ∀ c ∈ X, wfC c
theorem InvP.nil : InvP [] 0 := ⟨by simp, by simp⟩
theorem InvP.mono {L : List (List Atr)} {n m : Nat} (h : InvP L n) (hm : n ≤ m) : InvP L m :=
  ⟨Nat.le_trans h.len (Nat.mul_le_mul_left _ hm), fun l hl => ⟨by have := (h.each l hl).1; omega, (h.each l hl).2⟩⟩
theorem InvP.ins {L M : List (List Atr)} {n : Nat} {i : Int} (h : InvP L n) (hM : okSets M) : InvP (insL L i M) (n + 1) := by
  unfold insL
  split
  · refine ⟨?_, ?_⟩
    · have := h.len; have := hM.1
      simp only [List.length_append, List.length_take, List.length_drop]; omega
    · intro l hl
      have h2 : l ∈ L ∨ l ∈ M := by
        rcases List.mem_append.1 hl with hl | hl
        · exact .inl (List.mem_of_mem_take hl)
        · rcases List.mem_append.1 hl with hl | hl
          · exact .inr hl
          · exact .inl (List.mem_of_mem_drop hl)
      rcases h2 with h2 | h2
      · exact ((h.mono (Nat.le_succ n)).each l h2)
      · exact ⟨by have := (hM.2 l h2).1; omega, (hM.2 l h2).2⟩
  · exact h.mono (Nat.le_succ n)
theorem InvP.del {L : List (List Atr)} {n : Nat} {i j : Int} (h : InvP L n) : InvP (delL L i j) (n + 1) := by
  unfold delL
  split
  · rename_i hp
    obtain ⟨h0, h1, h2⟩ := hp
    refine ⟨?_, ?_⟩
    · have := h.len
      simp only [List.length_append, List.length_take, List.length_drop]; omega
    · intro l hl
      have h2 : l ∈ L := by
        rcases List.mem_append.1 hl with hl | hl
        · exact List.mem_of_mem_take hl
        · exact List.mem_of_mem_drop hl
      exact ((h.mono (Nat.le_succ n)).each l h2)
  · exact h.mono (Nat.le_succ n)
theorem InvP.pat {L : List (List Atr)} {n : Nat} {i j : Int} {X : List Chg} (h : InvP L n) (hX : okPatch X) : InvP (patL L i j X) (n + 1) := by
  unfold patL
  split
  · rename_i hp
    obtain ⟨h0, h1, h2⟩ := hp
    refine ⟨?_, ?_⟩
    · have := h.len
      simp only [List.length_append, List.length_take, List.length_drop, List.length_map]; omega
    · intro l hl
      rcases List.mem_append.1 hl with hl | hl
      · exact ((h.mono (Nat.le_succ n)).each l (List.mem_of_mem_take hl))
      · rcases List.mem_append.1 hl with hl | hl
        · obtain ⟨l', hl', rfl⟩ := List.mem_map.1 hl
          have h3 := h.each l' (List.mem_of_mem_take (List.mem_of_mem_drop hl'))
          exact ⟨by have := apply_len l' X; have := h3.1; have := hX.1; omega, apply_rise _ _ h3.2.1 hX.2.1, apply_wf h3.2.2 hX.2.2⟩
        · exact ((h.mono (Nat.le_succ n)).each l (List.mem_of_mem_drop hl))
  · exact h.mono (Nat.le_succ n)
/-- places for records behind n calls -/
def plc (n : Nat) : Nat := 130 * n
section
variable {E : Env} {R : List SProp} {w : World} {b bt ba B B' n : Nat} {L M : List (List Atr)} {xs zs : List Value} {v : Value} {X : List Chg} {i j : Int}
theorem insP (hI : InvP L n) (hM : okSets M) (hn : n ≤ 1000) (hv : SReads E R v xs M) (h : SatL E w (Pa b L (plc n) :: R)) :
    Calls Try.prog 10 #[pT b, .int .i64 i, v] w (Ret fun u w' => u = .int .i64 (errP L i i) ∧ SatL E w' (Pa b (insL L i M) (plc (n + 1)) :: R)) := by
  unfold errP insL plc at *
  have h1 := hI.len
  have h2 := hM.1
  by_cases hp : isPart L.length i i
  · rw [if_pos hp, if_pos hp]
    exact insertP hv (fun l hl => by have := (hM.2 l hl).1; omega) hp (by omega) (by omega) (by omega) h
  · rw [if_neg hp, if_neg hp]
    exact Calls.ret_mono (insert_noP hp h) fun _ _ ⟨e, h⟩ => ⟨e, h.paMono (by omega)⟩
theorem delP (hI : InvP L n) (hn : n ≤ 1000) (h : SatL E w (Pa b L (plc n) :: R)) :
    Calls Try.prog 11 #[pT b, .int .i64 i, .int .i64 j] w (Ret fun u w' => u = .int .i64 (errP L i j) ∧ SatL E w' (Pa b (delL L i j) (plc (n + 1)) :: R)) := by
  unfold errP delL plc at *
  have h1 := hI.len
  by_cases hp : isPart L.length i j
  · rw [if_pos hp, if_pos hp]
    exact deleteP hp (by omega) (by omega) (by omega) h
  · rw [if_neg hp, if_neg hp]
    exact Calls.ret_mono (delete_noP hp h) fun _ _ ⟨e, h⟩ => ⟨e, h.paMono (by omega)⟩
theorem patP (hI : InvP L n) (hXo : okPatch X) (hn : n ≤ 1000) (hX : CReads E R v X) (h : SatL E w (Pa b L (plc n) :: R)) :
    Calls Try.prog 12 #[pT b, .int .i64 i, .int .i64 j, v] w (Ret fun u w' => u = .int .i64 (errP L i j) ∧ SatL E w' (Pa b (patL L i j X) (plc (n + 1)) :: R)) := by
  unfold errP patL plc at *
  have h1 := hI.len
  have h2 := hXo.1
  by_cases hp : isPart L.length i j
  · rw [if_pos hp, if_pos hp]
    exact patchP hp hX (by omega) (fun l hl => by have := (hI.each l hl).1; omega) (by omega) (by omega) (by omega) h
  · rw [if_neg hp, if_neg hp]
    exact Calls.ret_mono (patch_noP hp h) fun _ _ ⟨e, h⟩ => ⟨e, h.paMono (by omega)⟩
def lev (n : Int) : Atr := (14, 2, n, 0, ⟨#[]⟩)
def levC (n : Int) : Chg := (14, false, 2, n, 0, ⟨#[]⟩)
theorem zVal : ∀ w, (zeroValue 44).run Try.prog w = .ok (.agg #[.int .u8 0, .int .i64 0, .int .u64 0, .string ⟨#[]⟩]) w := fun _ => by kernel_rfl
theorem zChg : ∀ w, (zeroValue 46).run Try.prog w = .ok (.agg #[.int .i64 0, .bool false, .int .u8 0, .int .i64 0, .int .u64 0, .string ⟨#[]⟩]) w := fun _ => by kernel_rfl
theorem level_ok {k : Int} (h : SatL E w R) : Calls Try.prog 22 #[.int .i64 k] w (Ret fun u w' => SatL E w' (ARow u [lev k] :: R)) := by
  refine calls_x Try.func22 rfl Try.ntmps22 rfl ?_
  refine xc_gen (fun g hg => ?_)
  have s0 := (hg 0).trans arg0
  clear hg
  refine xc_seq (fun K hK1 => ?_)
  refine xc_region ?_
  refine x_val (r_assign ec) (nd_of rfl) rfl ?_
  refine xw_nil ?_
  refine hK1 _ _ ?_
  refine xc_gen (fun g hg => ?_)
  have s0 := (hg 0).trans (en rfl s0)
  have s2 := (hg 2).trans es
  clear hg
  refine xc_seq (fun K hK2 => ?_)
  refine xc_region ?_
  refine x_val (r_move s0) (nd_of rfl) rfl ?_
  refine x_val (r_build4p Try.underlying44 zVal ⟨_, _, rfl⟩ Try.sizeOf5 Try.sizeOf2 Try.sizeOf42 Try.sizeOf9 rfl rfl rfl rfl ec rfl es rfl) (nd_of rfl) rfl ?_
  refine x_val (r_build14 Try.underlying72 zAttr rfl Try.sizeOf3 Try.sizeOf44 rfl rfl ec rfl es) (nd_of rfl) rfl ?_
  refine x_bslice h Try.underlying38 Try.sizeOf72 zAttr rfl rfl es rfl (ok_at5 (lev k)) rfl ?_; intro bs w h
  refine x_val (r_assign es) (nd_of rfl) rfl ?_
  refine xw_nil ?_
  refine hK2 _ _ ?_
  refine xc_gen (fun g hg => ?_)
  have s0 := (hg 0).trans (en rfl (en rfl (en rfl (en rfl (en rfl s0)))))
  have s2 := (hg 2).trans es
  clear hg
  refine xc_ret ?_
  refine bodyR_1 rfl s2 ?_
  exact h.closeRow (sz := 5) ⟨rfl, rfl, Nat.le_refl _, by unfold maxLen; decide, rfl, rfl⟩
theorem levels_ok {k : Int} (h : SatL E w R) : Calls Try.prog 23 #[.int .i64 k] w (Ret fun u w' => ∃ c, u = .slice (some ⟨c, 0, none⟩) 1 1 ∧ SatL E w' (Cells c (cgC (levC k)).toArray 46 :: R)) := by
  refine calls_x Try.func23 rfl Try.ntmps23 rfl ?_
  refine xc_gen (fun g hg => ?_)
  have s0 := (hg 0).trans arg0
  clear hg
  refine xc_seq (fun K hK1 => ?_)
  refine xc_region ?_
  refine x_val (r_assign ec) (nd_of rfl) rfl ?_
  refine xw_nil ?_
  refine hK1 _ _ ?_
  refine xc_gen (fun g hg => ?_)
  have s0 := (hg 0).trans (en rfl s0)
  have s2 := (hg 2).trans es
  clear hg
  refine xc_seq (fun K hK2 => ?_)
  refine xc_region ?_
  refine x_val (r_move s0) (nd_of rfl) rfl ?_
  refine x_val (r_build4p Try.underlying44 zVal ⟨_, _, rfl⟩ Try.sizeOf5 Try.sizeOf2 Try.sizeOf42 Try.sizeOf9 rfl rfl rfl rfl ec rfl es rfl) (nd_of rfl) rfl ?_
  refine x_val (r_build114 Try.underlying46 zChg ⟨_, _, _, _, _, rfl⟩ Try.sizeOf3 Try.sizeOf4 Try.sizeOf44 rfl rfl rfl ec rfl es) (nd_of rfl) rfl ?_
  refine x_bslice h Try.underlying24 Try.sizeOf46 zChg rfl rfl es rfl (ok_cg (levC k)) rfl ?_; intro bs w h
  refine x_val (r_assign es) (nd_of rfl) rfl ?_
  refine xw_nil ?_
  refine hK2 _ _ ?_
  refine xc_gen (fun g hg => ?_)
  have s0 := (hg 0).trans (en rfl (en rfl (en rfl (en rfl (en rfl s0)))))
  have s2 := (hg 2).trans es
  clear hg
  refine xc_ret ?_
  refine bodyR_1 rfl s2 ?_
  exact ⟨bs, rfl, h⟩
theorem areads_nil : AReads E R (.slice none 0 0) [] := ⟨none, 0, rfl, Nat.le_refl _, fun w h k x hx => by simp at hx⟩
theorem sreads_two {c t : Nat} {x0 x1 : Value} {l0 l1 : List Atr} (h0 : AReads E (Cells c #[x0, x1] t :: R) x0 l0) (h1 : AReads E (Cells c #[x0, x1] t :: R) x1 l1) : SReads E (Cells c #[x0, x1] t :: R) (.slice (some ⟨c, 0, none⟩) 2 2) [x0, x1] [l0, l1] := by
  refine ⟨_, _, rfl, Nat.le_refl _, rfl, fun w h k x hx => ⟨_, rfl, ?_⟩, fun k x l hx hl => ?_⟩
  · rw [add_pt, Nat.zero_add]
    exact h.cell 0 rfl (by simpa using hx)
  · match k with
    | 0 => cases hx; cases hl; exact h0
    | 1 => cases hx; cases hl; exact h1
    | k + 2 => simp at hx
theorem creads_one {c t : Nat} {x : Chg} : CReads E (Cells c (cgC x).toArray t :: R) (.slice (some ⟨c, 0, none⟩) 1 1) [x] := by
  refine ⟨_, _, rfl, fun w h k y hy => ⟨_, rfl, fun j u hj => ?_⟩⟩
  match k with
  | 0 =>
    cases hy
    rw [add_pt, add_pt, Nat.zero_mul, Nat.zero_add]
    exact h.cell 0 rfl (by simpa using hj)
  | k + 1 => simp at hy
theorem apply_lev : applyL [lev 1] [levC 2] = [lev 2] ∧ applyL [] [levC 2] = [lev 2] := by
  constructor
  · rw [apply_eq rfl, apply_end]; rfl
  · rw [apply_nil, apply_end]; rfl
theorem known_ok (h : SatL E w R) : Calls Try.prog 9 #[] w (Ret fun u w' => u = .bool true ∧ SatL E w' R) := by
  have zS : ∀ w, (zeroValue 38).run Try.prog w = .ok (.slice none 0 0) w := zX
  have hw2 : ∀ a ∈ [lev 2], wfA a := by intro a ha; simp at ha; subst ha; exact ⟨rfl, rfl, rfl, rfl, by unfold maxLen lev; exact Nat.zero_le _⟩
  refine calls_x Try.func9 rfl Try.ntmps9 rfl ?_
  refine xc_gen (fun g hg => ?_)
  clear hg
  refine xc_seq (fun K hK1 => ?_)
  refine xc_region ?_
  refine x_val (r_assign ec) (nd_of rfl) rfl ?_
  refine xw_nil ?_
  refine hK1 _ _ ?_
  refine xc_gen (fun g hg => ?_)
  have s0 := (hg 0).trans es
  clear hg
  refine xc_seq (fun K hK2 => ?_)
  refine xc_region ?_
  refine x_enter (r_call Try.call7 .nil) (nd_of rfl) rfl (newP h) ?_
  rintro _ w ⟨b, rfl, h⟩
  refine x_val (r_assign es) (nd_of rfl) rfl ?_
  refine xw_nil ?_
  refine hK2 _ _ ?_
  refine xc_gen (fun g hg => ?_)
  have s0 := (hg 0).trans (en rfl (en rfl s0))
  have s1 := (hg 1).trans es
  clear hg
  refine xc_seq (fun K hK3 => ?_)
  refine xc_seq (fun K hK4 => ?_)
  refine xc_region ?_
  refine x_val (r_move s1) (nd_of rfl) rfl ?_
  refine x_val (r_eqnil Try.underlying27 es ec (r := false) rfl) (nd_of rfl) rfl ?_
  refine x_val (r_move es) (nd_of rfl) rfl ?_
  refine x_take (d := 9) rfl rfl es ?_
  refine x_val (r_move (en rfl (en rfl (en rfl s1)))) (nd_of rfl) rfl ?_
  refine x_take (d := 9) rfl rfl (en rfl es) ?_
  refine x_enter (r_call Try.call22 (.cons ec .nil)) (nd_of rfl) rfl (level_ok h) ?_
  rintro _ w h
  obtain ⟨a1, c1, rfl, _, _⟩ := h.rowVal
  refine x_take (d := 9) rfl rfl (en rfl (en rfl es)) ?_
  refine x_bsliceL (c := #[.slice none 0 0, .slice a1 1 c1]) h Try.underlying23 Try.sizeOf38 zS rfl (by kernel_rfl) rfl rfl rfl ?_; intro bs w h
  refine x_take (d := 9) rfl rfl (en rfl (en rfl (en rfl es))) ?_
  have h := h.f2
  refine x_enter (r_call Try.call10 (.cons (en rfl (en rfl es)) (.cons ec (.cons es .nil)))) (nd_of rfl) rfl (insertP (B' := 100) (xs := [.slice none 0 0, .slice a1 1 c1]) (M := [[], [lev 1]]) (sreads_two areads_nil ((a_row h.drop.f1).weak (fun _ h => h.f1))) (by simp) ⟨by decide, by decide, by decide⟩ (by decide) (by decide) (by decide) h) ?_
  rintro _ w ⟨rfl, h⟩
  rw [show List.take (Int.toNat 0) ([] : List (List Atr)) ++ ([[], [lev 1]] ++ List.drop (Int.toNat 0) []) = [[], [lev 1]] from rfl] at h
  refine x_take (d := 9) rfl rfl (en rfl (en rfl (en rfl (en rfl es)))) ?_
  refine x_val (r_neq es ec (r := false) rfl) (nd_of rfl) rfl ?_
  refine x_val (r_pick_f (en rfl (en rfl (en rfl (en rfl (en rfl es))))) es) (nd_of rfl) rfl ?_
  refine x_val (r_move es) (nd_of rfl) rfl ?_
  refine x_take (d := 16) rfl rfl es ?_
  refine x_val (r_move (en rfl (en rfl (en rfl (en rfl (en rfl (en rfl (en rfl (en rfl (en rfl (en rfl s1))))))))))) (nd_of rfl) rfl ?_
  refine x_take (d := 16) rfl rfl (en rfl es) ?_
  refine x_enter (r_call Try.call14 (.cons es .nil)) (nd_of rfl) rfl (lenP h) ?_
  rintro _ w ⟨rfl, h⟩
  refine x_take (d := 16) rfl rfl (en rfl (en rfl es)) ?_
  refine x_val (r_neq es ec (r := false) rfl) (nd_of rfl) rfl ?_
  refine x_val (r_pick_f (en rfl (en rfl (en rfl es))) es) (nd_of rfl) rfl ?_
  refine x_val (r_move es) (nd_of rfl) rfl ?_
  refine x_take (d := 21) rfl rfl es ?_
  refine x_val (r_move (en rfl (en rfl (en rfl (en rfl (en rfl (en rfl (en rfl (en rfl (en rfl (en rfl (en rfl (en rfl (en rfl (en rfl (en rfl s1)))))))))))))))) (nd_of rfl) rfl ?_
  refine x_take (d := 21) rfl rfl (en rfl es) ?_
  refine x_enter (r_call Try.call23 (.cons ec .nil)) (nd_of rfl) rfl (levels_ok h) ?_
  rintro _ w ⟨cx, rfl, h⟩
  refine x_take (d := 21) rfl rfl (en rfl (en rfl es)) ?_
  have h := h.f1
  refine x_enter (r_call Try.call12 (.cons (en rfl es) (.cons ec (.cons ec (.cons es .nil))))) (nd_of rfl) rfl (patchP (B' := 100) (X := [levC 2]) (i := 0) (j := 2) ⟨by decide, by decide, by decide⟩ creads_one (by decide) (by intro l hl; simp at hl; rcases hl with rfl | rfl <;> simp) (by decide) (by decide) (by decide) h) ?_
  rintro _ w ⟨rfl, h⟩
  rw [show List.take (Int.toNat 0) ([[], [lev 1]] : List (List Atr)) ++ (((List.take (Int.toNat 2) ([[], [lev 1]] : List (List Atr))).drop (Int.toNat 0)).map (fun l => applyL l [levC 2]) ++ List.drop (Int.toNat 2) ([[], [lev 1]] : List (List Atr))) = [[lev 2], [lev 2]] from (show [applyL [] [levC 2], applyL [lev 1] [levC 2]] = [[lev 2], [lev 2]] by rw [apply_lev.1, apply_lev.2])] at h
  refine x_take (d := 21) rfl rfl (en rfl (en rfl (en rfl es))) ?_
  refine x_val (r_neq es ec (r := false) rfl) (nd_of rfl) rfl ?_
  refine x_val (r_pick_f (en rfl (en rfl (en rfl (en rfl es)))) es) (nd_of rfl) rfl ?_
  refine xw_nil ?_
  refine hK4 _ _ ?_
  refine xc_gen (fun g hg => ?_)
  have s0 := (hg 0).trans (en rfl (en rfl (en rfl (en rfl (en rfl (en rfl (en rfl (en rfl (en rfl (en rfl (en rfl (en rfl (en rfl (en rfl (en rfl (en rfl (en rfl (en rfl (en rfl (en rfl s0))))))))))))))))))))
  have s1 := (hg 1).trans (en rfl (en rfl (en rfl (en rfl (en rfl (en rfl (en rfl (en rfl (en rfl (en rfl (en rfl (en rfl (en rfl (en rfl (en rfl (en rfl (en rfl (en rfl (en rfl (en rfl s1))))))))))))))))))))
  have s26 := (hg 26).trans es
  clear hg
  refine xc_cond s26 (fun hc => by cases hc) (fun _ => ?_)
  refine xc_skip ?_
  refine hK3 _ _ ?_
  refine xc_seq (fun K hK5 => ?_)
  refine xc_region ?_
  refine x_val (r_move s1) (nd_of rfl) rfl ?_
  refine x_enter (r_call Try.call15 (.cons es (.cons ec .nil))) (nd_of rfl) rfl (atP (n := 0) (l := [lev 2]) rfl (by decide) (by decide) h) ?_
  rintro _ w ⟨v2, rfl, h⟩
  refine x_val (r_move es) (nd_of rfl) rfl ?_
  refine x_val (r_extract es gc0) (nd_of rfl) rfl ?_
  refine x_val (r_extract (en rfl es) gc1) (nd_of rfl) rfl ?_
  refine x_val (r_assign (en rfl es)) (nd_of rfl) rfl ?_
  refine x_val (r_assign (en rfl es)) (nd_of rfl) rfl ?_
  refine xw_nil ?_
  refine hK5 _ _ ?_
  refine xc_gen (fun g hg => ?_)
  have s0 := (hg 0).trans (en rfl (en rfl (en rfl (en rfl (en rfl (en rfl (en rfl s0)))))))
  have s1 := (hg 1).trans (en rfl (en rfl (en rfl (en rfl (en rfl (en rfl (en rfl s1)))))))
  have s2 := (hg 2).trans (en rfl es)
  have s3 := (hg 3).trans es
  have s26 := (hg 26).trans (en rfl (en rfl (en rfl (en rfl (en rfl (en rfl (en rfl s26)))))))
  clear hg
  refine xc_seq (fun K hK6 => ?_)
  refine xc_region ?_
  refine x_val (r_move s1) (nd_of rfl) rfl ?_
  have h := h.f1
  refine x_enter (r_call Try.call15 (.cons es (.cons ec .nil))) (nd_of rfl) rfl (at_noP (i := 2) (.inr (by decide)) (by decide) h) ?_
  rintro _ w ⟨rfl, h⟩
  refine x_val (r_move es) (nd_of rfl) rfl ?_
  refine x_val (r_extract es gc0) (nd_of rfl) rfl ?_
  refine x_val (r_extract (en rfl es) gc1) (nd_of rfl) rfl ?_
  refine x_val (r_assign (en rfl es)) (nd_of rfl) rfl ?_
  refine x_val (r_assign (en rfl es)) (nd_of rfl) rfl ?_
  refine xw_nil ?_
  refine hK6 _ _ ?_
  refine xc_gen (fun g hg => ?_)
  have s0 := (hg 0).trans (en rfl (en rfl (en rfl (en rfl (en rfl (en rfl (en rfl s0)))))))
  have s1 := (hg 1).trans (en rfl (en rfl (en rfl (en rfl (en rfl (en rfl (en rfl s1)))))))
  have s2 := (hg 2).trans (en rfl (en rfl (en rfl (en rfl (en rfl (en rfl (en rfl s2)))))))
  have s3 := (hg 3).trans (en rfl (en rfl (en rfl (en rfl (en rfl (en rfl (en rfl s3)))))))
  have s5 := (hg 5).trans es
  have s26 := (hg 26).trans (en rfl (en rfl (en rfl (en rfl (en rfl (en rfl (en rfl s26)))))))
  clear hg
  refine xc_seq (fun K hK7 => ?_)
  refine xc_region ?_
  refine x_val (r_move s3) (nd_of rfl) rfl ?_
  refine x_val (r_eql es ec (r := true) rfl) (nd_of rfl) rfl ?_
  refine x_val (r_move es) (nd_of rfl) rfl ?_
  refine x_take (d := 39) rfl rfl es ?_
  refine x_val (r_move (en rfl (en rfl (en rfl s5)))) (nd_of rfl) rfl ?_
  refine x_take (d := 39) rfl rfl (en rfl es) ?_
  refine x_val (r_eql es ec (r := true) rfl) (nd_of rfl) rfl ?_
  refine x_val (r_pick_t (en rfl (en rfl es)) es) (nd_of rfl) rfl ?_
  refine x_val (r_move es) (nd_of rfl) rfl ?_
  refine x_take (d := 43) rfl rfl es ?_
  refine x_val (r_move (en rfl (en rfl (en rfl (en rfl (en rfl (en rfl (en rfl s2)))))))) (nd_of rfl) rfl ?_
  refine x_take (d := 43) rfl rfl (en rfl es) ?_
  refine x_enter (r_call Try.call22 (.cons ec .nil)) (nd_of rfl) rfl (level_ok h) ?_
  rintro _ w h
  refine x_take (d := 43) rfl rfl (en rfl (en rfl es)) ?_
  refine x_enter (r_call Try.call16 (.cons (en rfl es) (.cons es .nil))) (nd_of rfl) rfl (same_yes (l := [lev 2]) ((a_row h.f2).weak (fun _ h => h.f2)) (a_row h) hw2 (by decide) h) ?_
  rintro _ w ⟨rfl, h⟩
  refine x_val (r_pick_t (en rfl (en rfl (en rfl es))) es) (nd_of rfl) rfl ?_
  refine x_val (r_move es) (nd_of rfl) rfl ?_
  refine x_take (d := 48) rfl rfl es ?_
  refine x_val (r_move (en rfl (en rfl (en rfl (en rfl (en rfl (en rfl (en rfl (en rfl (en rfl (en rfl (en rfl (en rfl s1))))))))))))) (nd_of rfl) rfl ?_
  refine x_take (d := 48) rfl rfl (en rfl es) ?_
  have h := h.f1
  refine x_enter (r_call Try.call11 (.cons es (.cons ec (.cons ec .nil)))) (nd_of rfl) rfl (deleteP (B' := 100) (i := 0) (j := 1) ⟨by decide, by decide, by decide⟩ (by decide) (by decide) (by decide) h) ?_
  rintro _ w ⟨rfl, h⟩
  refine x_take (d := 48) rfl rfl (en rfl (en rfl es)) ?_
  refine x_val (r_eql es ec (r := true) rfl) (nd_of rfl) rfl ?_
  refine x_val (r_pick_t (en rfl (en rfl (en rfl es))) es) (nd_of rfl) rfl ?_
  refine x_val (r_move es) (nd_of rfl) rfl ?_
  refine x_take (d := 53) rfl rfl es ?_
  refine x_val (r_move (en rfl (en rfl (en rfl (en rfl (en rfl (en rfl (en rfl (en rfl (en rfl (en rfl (en rfl (en rfl (en rfl (en rfl (en rfl (en rfl (en rfl s1)))))))))))))))))) (nd_of rfl) rfl ?_
  refine x_take (d := 53) rfl rfl (en rfl es) ?_
  refine x_enter (r_call Try.call14 (.cons es .nil)) (nd_of rfl) rfl (lenP h) ?_
  rintro _ w ⟨rfl, h⟩
  refine x_take (d := 53) rfl rfl (en rfl (en rfl es)) ?_
  refine x_val (r_eql es ec (r := true) rfl) (nd_of rfl) rfl ?_
  refine x_val (r_pick_t (en rfl (en rfl (en rfl es))) es) (nd_of rfl) rfl ?_
  refine x_val (r_assign es) (nd_of rfl) rfl ?_
  refine xw_nil ?_
  refine hK7 _ _ ?_
  refine xc_gen (fun g hg => ?_)
  have s0 := (hg 0).trans es
  have s1 := (hg 1).trans (en rfl (en rfl (en rfl (en rfl (en rfl (en rfl (en rfl (en rfl (en rfl (en rfl (en rfl (en rfl (en rfl (en rfl (en rfl (en rfl (en rfl (en rfl (en rfl (en rfl (en rfl (en rfl s1))))))))))))))))))))))
  have s2 := (hg 2).trans (en rfl (en rfl (en rfl (en rfl (en rfl (en rfl (en rfl (en rfl (en rfl (en rfl (en rfl (en rfl (en rfl (en rfl (en rfl (en rfl (en rfl (en rfl (en rfl (en rfl (en rfl (en rfl s2))))))))))))))))))))))
  have s3 := (hg 3).trans (en rfl (en rfl (en rfl (en rfl (en rfl (en rfl (en rfl (en rfl (en rfl (en rfl (en rfl (en rfl (en rfl (en rfl (en rfl (en rfl (en rfl (en rfl (en rfl (en rfl (en rfl (en rfl s3))))))))))))))))))))))
  have s5 := (hg 5).trans (en rfl (en rfl (en rfl (en rfl (en rfl (en rfl (en rfl (en rfl (en rfl (en rfl (en rfl (en rfl (en rfl (en rfl (en rfl (en rfl (en rfl (en rfl (en rfl (en rfl (en rfl (en rfl s5))))))))))))))))))))))
  have s26 := (hg 26).trans (en rfl (en rfl (en rfl (en rfl (en rfl (en rfl (en rfl (en rfl (en rfl (en rfl (en rfl (en rfl (en rfl (en rfl (en rfl (en rfl (en rfl (en rfl (en rfl (en rfl (en rfl (en rfl s26))))))))))))))))))))))
  clear hg
  refine xc_ret ?_
  refine bodyR_1 rfl s0 ?_
  exact ⟨rfl, h.drop.drop.drop.drop.drop.drop⟩
end
end Go.Proofs.Ytonnijghdlakfaa
