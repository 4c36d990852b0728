/-
Trees taken apart: drop, pick, split; how many places are taken.
-/
import Derived.Test.YtonnijghdlakfaaT3
namespace Go.Proofs.Ytonnijghdlakfaa
open Go Go.RowKit
section
variable {P : Program} {f : Nat → Value} {w : World} {d : Option Tmp} {ty : TypeId} {pos : String} {af : Array Edge} {g : Option (Tmp × Bool)}
theorem r_fieldX {T TX : TypeId} {fs : Array Field} {f0 : Field} {x : Operand} {c : Array Value} {v : Value} {l r h s m : Int} (hu : P.underlying T = some (.struct fs)) (hf : fs[0]? = some f0) (ht : f0.type = TX) (ho : f0.offset = 0) (ha : ∀ w, (isAgg TX).run P w = .ok false w) (hx : ev f x = .agg (ndC c l r h s m)) (hc : c = #[v]) :
    (execOp (ev f) ⟨d, .field T x 0, ty, pos, af, g⟩).run P w = .ok (.value v) w := by
  subst ht; subst hc
  have e : (ndC #[v] l r h s m)[0]? = some v := by unfold ndC; simp
  simp [execOp, hx, Instr.field, run_underlying hu, hf, ho, part, ha, asAgg, e]
/-- a node of a thing alone -/
theorem r_bnode {T : TypeId} {f0 f1 f2 f3 f4 f5 : Field} {x : Operand} {zs c : Array Value} {v : Value} (hu : P.underlying T = some (.struct #[f0, f1, f2, f3, f4, f5])) (hz : ∀ w, (zeroValue T).run P w = .ok (.agg zs) w) (hzs : zs.size = KN) (hzd : zs.toList.drop KX = [.int .i64 0, .int .i64 0, .int .i64 0, .int .i64 0, .int .i64 0])
    (hs0 : ∀ w, (sizeOf f0.type).run P w = .ok KX w) (hs1 : ∀ w, (sizeOf f1.type).run P w = .ok 1 w) (hs2 : ∀ w, (sizeOf f2.type).run P w = .ok 1 w) (hs3 : ∀ w, (sizeOf f3.type).run P w = .ok 1 w) (hs4 : ∀ w, (sizeOf f4.type).run P w = .ok 1 w) (hs5 : ∀ w, (sizeOf f5.type).run P w = .ok 1 w) (ho0 : f0.offset = 0)
    (hx : ev f x = v) (hv : v.cells = c) (hc : Ok KX c) :
    (execOp (ev f) ⟨d, .build T #[(0, x)], ty, pos, af, g⟩).run P w = .ok (.value (.agg (ndC c 0 0 0 0 0))) w := by
  have hf : ∀ place : Nat → Option (Nat × Nat), place 0 = some (0, KX) → Instr.fill place (Value.agg zs).cells [(0, v)] = some (ndC c 0 0 0 0 0) := by
    intro place hp
    have hzc : (Value.agg zs).cells = zs := rfl
    rw [hzc, run_fill_one place _ 0 0 KX v _ hp (by rw [hv]; exact hc.size) (by rw [hzs]; decide), hv]
    simp only [Instr.fill]
    congr 1
    apply Array.ext'
    unfold ndC
    simp only [List.take_zero, List.nil_append, Array.toList_append, Nat.zero_add, hzd]
  simp [execOp, Instr.build, hz, run_underlying hu, hs0, hs1, hs2, hs3, hs4, hs5, ho0, hx]
  rw [hf _ rfl]
  rfl
end
theorem zN_drop : zN.toList.drop KX = [.int .i64 0, .int .i64 0, .int .i64 0, .int .i64 0, .int .i64 0] := by kernel_rfl
section
variable {E : Env} {R : List SProp} {w : World} {bt ba : Nat} {ro : Int} {pl pl1 pl2 : Pl} {fr fr1 fr2 : List Nat} {i j k : Nat} {c0 c : Array Value} {l r a b t t' : Tr} {x y : X}
theorem fr_le (h : SatL E w (Ar ba pl fr :: R)) : fr.length ≤ pl.length := by
  obtain ⟨ps0, fs0, hp, _⟩ := h.openArena
  exact hp.frLen
/-- a new node's place -/
structure Tk (pl : Pl) (fr : List Nat) (pl' : Pl) (fr' : List Nat) (j : Nat) (c : Array Value) : Prop where
  new : ∀ c', pl[j]? ≠ some (some c')
  slot : pl'[j]? = some (some c)
  keep : Keep pl pl' []
  live : pl'.length + fr.length = pl.length + fr'.length + 1
  len : pl'.length ≤ pl.length ∨ pl'.length + fr.length ≤ pl.length + 1
theorem take_t (hc : Ok KN c) (hb : pl.length ≤ 100000000) (h : SatL E w (Ar ba pl fr :: R)) :
    Calls Try.prog 47 #[.pointer (some ⟨ba, 0, none⟩), .agg c] w (Ret fun v w' => ∃ (j : Nat) (pl' : Pl) (fr' : List Nat), v = .int .i64 (j : Int) ∧ Tk pl fr pl' fr' j c ∧ SatL E w' (Ar ba pl' fr' :: R)) := by
  rcases List.eq_nil_or_concat fr with rfl | ⟨fr1, j, rfl⟩
  · refine Calls.ret_mono (take_new hc hb h) ?_
    rintro _ w' ⟨rfl, h⟩
    refine ⟨_, _, _, rfl, ⟨fun c' h1 => ?_, by simp, fun k c' _ h1 => ?_, by simp, .inr (by simp)⟩, h⟩
    · rw [List.getElem?_eq_none (Nat.le_refl _)] at h1; cases h1
    · rw [List.getElem?_append_left (List.getElem?_eq_some_iff.1 h1).1]; exact h1
  · rw [List.concat_eq_append] at h ⊢
    obtain ⟨ps0, fs0, hp, _⟩ := h.openArena
    have hj := hp.free j (by simp)
    refine Calls.ret_mono (take_free hc (by omega) h) ?_
    rintro _ w' ⟨rfl, h⟩
    refine ⟨_, _, _, rfl, ⟨fun c' h1 => ?_, ?_, fun k c' _ h1 => ?_, by simp; omega, .inl (by simp)⟩, h⟩
    · rw [hj] at h1; cases h1
    · rw [List.getElem?_set]; simp [(List.getElem?_eq_some_iff.1 hj).1]
    · rw [List.getElem?_set_ne (fun e => by subst e; rw [hj] at h1; cases h1)]; exact h1
theorem drop_t : ∀ (t : Tr) {R : List SProp} {w : World} {pl : Pl} {fr : List Nat}, Has pl t → t.idx.Nodup → pl.length ≤ 100000000 → SatL E w (TC bt ba ro :: Ar ba pl fr :: R) →
    Calls Try.prog 41 #[pT bt, .int .i64 t.root] w (Ret fun _ w' => ∃ (pl' : Pl) (fr' : List Nat), Keep pl pl' t.idx ∧ pl'.length = pl.length ∧ fr'.length = fr.length + t.xs.length ∧ SatL E w' (TC bt ba ro :: Ar ba pl' fr' :: R)) := by
  intro t
  induction t with
  | nil =>
    intro R w pl fr _ _ _ h
    refine calls_x Try.func41 rfl Try.ntmps41 rfl ?_
    refine xc_gen (fun g hg => ?_)
    have s0 := (hg 0).trans arg0
    have s1 := (hg 1).trans arg1
    clear hg
    refine xc_seq (fun K hK1 => ?_)
    refine xc_seq (fun K hK2 => ?_)
    refine xc_region ?_
    refine x_val (r_move s1) (nd_of rfl) rfl ?_
    refine x_val (r_eql es ec (decide_eq_true (by rfl))) (nd_of rfl) rfl ?_
    refine xw_nil ?_
    refine hK2 _ _ ?_
    refine xc_gen (fun g hg => ?_)
    have s0 := (hg 0).trans (en rfl (en rfl s0))
    have s1 := (hg 1).trans (en rfl (en rfl s1))
    have s6 := (hg 6).trans es
    clear hg
    refine xc_cond s6 (fun _ => ?_) (fun hc => by cases hc)
    refine xc_ret ?_
    refine bodyR_r0 rfl ?_
    exact ⟨pl, fr, Keep.refl, rfl, by simp [Tr.xs], h⟩
  | node i l x r ihl ihr =>
    intro R w pl fr ht hn hb h
    have hox := ht.2.1.cells
    have hni := List.nodup_cons.1 hn
    have hna := List.nodup_append.1 hni.2
    change Calls _ _ #[pT bt, .int .i64 (i : Int)] w _
    refine calls_x Try.func41 rfl Try.ntmps41 rfl ?_
    refine xc_gen (fun g hg => ?_)
    have s0 := (hg 0).trans arg0
    have s1 := (hg 1).trans arg1
    clear hg
    refine xc_seq (fun K hK1 => ?_)
    refine xc_seq (fun K hK2 => ?_)
    refine xc_region ?_
    refine x_val (r_move s1) (nd_of rfl) rfl ?_
    refine x_val (r_eql es ec (decide_eq_false (by omega))) (nd_of rfl) rfl ?_
    refine xw_nil ?_
    refine hK2 _ _ ?_
    refine xc_gen (fun g hg => ?_)
    have s0 := (hg 0).trans (en rfl (en rfl s0))
    have s1 := (hg 1).trans (en rfl (en rfl s1))
    have s6 := (hg 6).trans es
    clear hg
    refine xc_cond s6 (fun hc => by cases hc) (fun _ => ?_)
    refine xc_skip ?_
    refine hK1 _ _ ?_
    refine xc_seq (fun K hK3 => ?_)
    refine xc_region ?_
    refine x_val (r_move s0) (nd_of rfl) rfl ?_
    refine x_val (r_move (en rfl s1)) (nd_of rfl) rfl ?_
    refine x_enter (r_call Try.call54 (.cons (en rfl es) (.cons es .nil))) (nd_of rfl) rfl (at_t ht.1 h) ?_
    rintro _ w ⟨rfl, h⟩
    refine x_declA h Try.zeroValue90 Try.sizeOf90 rfl (en rfl es) (by first | assumption | exact Ok.node (by assumption) | exact xOk.cells (by assumption) | exact ChOk.ok (by assumption)) rfl ?_
    intro b4 w h
    refine xw_nil ?_
    refine hK3 _ _ ?_
    refine xc_gen (fun g hg => ?_)
    have s0 := (hg 0).trans (en rfl (en rfl (en rfl (en rfl s0))))
    have s1 := (hg 1).trans (en rfl (en rfl (en rfl (en rfl s1))))
    have s4 := (hg 4).trans es
    have s6 := (hg 6).trans (en rfl (en rfl (en rfl (en rfl s6))))
    clear hg
    refine xc_seq (fun K hK4 => ?_)
    refine xc_region ?_
    refine x_val (r_move s0) (nd_of rfl) rfl ?_
    refine x_val (r_fieldAddr (o' := 1) Try.underlying90 rfl Try.sizeOf3 rfl (en rfl s4) rfl) (nd_of rfl) rfl ?_
    refine x_val (r_load h 0 rfl Try.isAgg3 es (nd0 ‹_›)) (nd_of rfl) rfl ?_
    have h := h.f2
    have h := h.f2
    refine x_enter (r_call Try.call41 (.cons (en rfl (en rfl es)) (.cons es .nil))) (nd_of rfl) rfl (ihl ht.2.2.1 hna.1 hb h) ?_
    rintro _ w ⟨pl1, fr1, hk1, hl1, hf1, h⟩
    refine xw_nil ?_
    refine hK4 _ _ ?_
    refine xc_gen (fun g hg => ?_)
    have s0 := (hg 0).trans (en rfl (en rfl (en rfl (en rfl s0))))
    have s1 := (hg 1).trans (en rfl (en rfl (en rfl (en rfl s1))))
    have s4 := (hg 4).trans (en rfl (en rfl (en rfl (en rfl s4))))
    have s6 := (hg 6).trans (en rfl (en rfl (en rfl (en rfl s6))))
    clear hg
    refine xc_seq (fun K hK5 => ?_)
    have hr1 : Has pl1 r := ht.2.2.2.keep hk1 (fun m hm hh => hna.2.2 m hh m hm rfl)
    refine xc_region ?_
    refine x_val (r_move s0) (nd_of rfl) rfl ?_
    refine x_val (r_fieldAddr (o' := 2) Try.underlying90 rfl Try.sizeOf3 rfl (en rfl s4) rfl) (nd_of rfl) rfl ?_
    refine x_val (r_load h 2 rfl Try.isAgg3 es (nd1 ‹_›)) (nd_of rfl) rfl ?_
    have h := h.f1
    have h := h.f1
    refine x_enter (r_call Try.call41 (.cons (en rfl (en rfl es)) (.cons es .nil))) (nd_of rfl) rfl (ihr hr1 hna.2.1 (by omega) h) ?_
    rintro _ w ⟨pl2, fr2, hk2, hl2, hf2, h⟩
    refine xw_nil ?_
    refine hK5 _ _ ?_
    refine xc_gen (fun g hg => ?_)
    have s0 := (hg 0).trans (en rfl (en rfl (en rfl (en rfl s0))))
    have s1 := (hg 1).trans (en rfl (en rfl (en rfl (en rfl s1))))
    have s4 := (hg 4).trans (en rfl (en rfl (en rfl (en rfl s4))))
    have s6 := (hg 6).trans (en rfl (en rfl (en rfl (en rfl s6))))
    clear hg
    have hi2 := hk2 i _ (fun hm => hni.1 (by simp [hm])) (hk1 i _ (fun hm => hni.1 (by simp [hm])) ht.1)
    refine xc_region ?_
    refine x_val (r_move s0) (nd_of rfl) rfl ?_
    refine x_val (r_nilCheck es) (nd_of rfl) rfl ?_
    refine x_val (r_fieldAddr (o' := 3) Try.underlying83 rfl Try.sizeOf81 rfl es rfl) (nd_of rfl) rfl ?_
    refine x_val (r_load h 0 rfl Try.isAgg81 es gc3) (nd_of rfl) rfl ?_
    refine x_val (r_move (en rfl (en rfl (en rfl (en rfl s1))))) (nd_of rfl) rfl ?_
    have h := h.f1
    refine x_enter (r_call Try.call58 (.cons (en rfl es) (.cons es .nil))) (nd_of rfl) rfl (free_ok hi2 (by omega) h) ?_
    rintro _ w ⟨rfl, h⟩
    refine xw_nil ?_
    refine bodyR_0 rfl ?_
    exact ⟨_, _, (hk1.trans hk2 (U := (Tr.node i l x r).idx) (fun m hm => by simp [Tr.idx, hm]) (fun m hm => by simp [Tr.idx, hm])).trans Keep.set (fun m hm => hm) (fun m hm => by simp at hm; simp [Tr.idx, hm]), by simp; omega, by simp [Tr.xs]; omega, (h.f2.drop).f1⟩
theorem pick_t (hs : Slot pl i x) (hb : pl.length ≤ 100000000) (h : SatL E w (TC bt ba ro :: Ar ba pl fr :: R)) :
    Calls Try.prog 43 #[pT bt, .int .i64 (i : Int)] w (Ret fun v w' => xV x = v ∧ SatL E w' (TC bt ba ro :: Ar ba (pl.set i none) (fr ++ [i]) :: R)) := by
  obtain ⟨hx, p, q, s, t, u, hi⟩ := hs
  have hox := hx.cells
  refine calls_x Try.func43 rfl Try.ntmps43 rfl ?_
  refine xc_gen (fun g hg => ?_)
  have s0 := (hg 0).trans arg0
  have s1 := (hg 1).trans arg1
  clear hg
  refine xc_seq (fun K hK1 => ?_)
  refine xc_region ?_
  refine x_val (r_assign ec) (nd_of rfl) rfl ?_
  refine xw_nil ?_
  refine hK1 _ _ ?_
  refine xc_gen (fun g hg => ?_)
  have s0 := (hg 0).trans (en rfl s0)
  have s1 := (hg 1).trans (en rfl s1)
  have s4 := (hg 4).trans es
  clear hg
  refine xc_seq (fun K hK2 => ?_)
  refine xc_region ?_
  refine x_val (r_move s0) (nd_of rfl) rfl ?_
  refine x_val (r_move (en rfl s1)) (nd_of rfl) rfl ?_
  have h := h.f1
  have h := h.f1
  refine x_enter (r_call Try.call54 (.cons (en rfl es) (.cons es .nil))) (nd_of rfl) rfl (at_t hi h) ?_
  rintro _ w ⟨rfl, h⟩
  refine x_val (r_fieldX Try.underlying90 rfl rfl rfl Try.isAgg38 es rfl) (nd_of rfl) rfl ?_
  refine x_val (r_assign es) (nd_of rfl) rfl ?_
  refine xw_nil ?_
  refine hK2 _ _ ?_
  refine xc_gen (fun g hg => ?_)
  have s0 := (hg 0).trans (en rfl (en rfl (en rfl (en rfl (en rfl s0)))))
  have s1 := (hg 1).trans (en rfl (en rfl (en rfl (en rfl (en rfl s1)))))
  have s4 := (hg 4).trans (en rfl (en rfl (en rfl (en rfl (en rfl s4)))))
  have s5 := (hg 5).trans es
  clear hg
  refine xc_seq (fun K hK3 => ?_)
  refine xc_region ?_
  refine x_val (r_move s0) (nd_of rfl) rfl ?_
  refine x_val (r_nilCheck es) (nd_of rfl) rfl ?_
  refine x_val (r_fieldAddr (o' := 3) Try.underlying83 rfl Try.sizeOf81 rfl es rfl) (nd_of rfl) rfl ?_
  refine x_val (r_load h 0 rfl Try.isAgg81 es gc3) (nd_of rfl) rfl ?_
  refine x_val (r_move (en rfl (en rfl (en rfl (en rfl s1))))) (nd_of rfl) rfl ?_
  have h := h.f1
  refine x_enter (r_call Try.call58 (.cons (en rfl es) (.cons es .nil))) (nd_of rfl) rfl (free_ok hi (by omega) h) ?_
  rintro _ w ⟨rfl, h⟩
  refine xw_nil ?_
  refine hK3 _ _ ?_
  refine xc_gen (fun g hg => ?_)
  have s0 := (hg 0).trans (en rfl (en rfl (en rfl (en rfl (en rfl (en rfl s0))))))
  have s1 := (hg 1).trans (en rfl (en rfl (en rfl (en rfl (en rfl (en rfl s1))))))
  have s4 := (hg 4).trans (en rfl (en rfl (en rfl (en rfl (en rfl (en rfl s4))))))
  have s5 := (hg 5).trans (en rfl (en rfl (en rfl (en rfl (en rfl (en rfl s5))))))
  clear hg
  refine xc_seq (fun K hK4 => ?_)
  refine xc_region ?_
  refine x_val (r_move s5) (nd_of rfl) rfl ?_
  refine x_val (r_assign es) (nd_of rfl) rfl ?_
  refine xw_nil ?_
  refine hK4 _ _ ?_
  refine xc_gen (fun g hg => ?_)
  have s0 := (hg 0).trans (en rfl (en rfl s0))
  have s1 := (hg 1).trans (en rfl (en rfl s1))
  have s4 := (hg 4).trans es
  have s5 := (hg 5).trans (en rfl (en rfl s5))
  clear hg
  refine xc_ret ?_
  refine bodyR_1 rfl s4 ?_
  exact ⟨rfl, h.f1⟩
end
end Go.Proofs.Ytonnijghdlakfaa
