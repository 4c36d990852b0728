/-
The calls that a law looks at: small.
-/
import Derived.Test.YtonnijghdlakfaaR13
namespace Go.Proofs.Ytonnijghdlakfaa
open Go Go.RowKit
theorem pw_adj {α : Type} (key : α → Int) : ∀ l : List α, (∀ (k : Nat) (x y : α), l[k]? = some x → l[k + 1]? = some y → key x < key y) → l.Pairwise (fun a b => key a < key b)
  | [], _ => List.Pairwise.nil
  | [_], _ => by simp
  | a :: b :: l, h => by
    have ih := pw_adj key (b :: l) (fun k x y hx hy => h (k + 1) x y (by simpa using hx) (by simpa using hy))
    have hab := h 0 a b rfl rfl
    refine List.pairwise_cons.2 ⟨fun c hc => ?_, ih⟩
    rcases List.mem_cons.1 hc with rfl | hc
    · exact hab
    · exact Int.lt_trans hab ((List.pairwise_cons.1 ih).1 c hc)
structure SmallO (o : OpV) : Prop where
  n : o.ls.length ≤ 60
  x : o.cs.length ≤ 70
  c : RiseC o.cs
  s : ∀ p ∈ o.ls, p.2.length ≤ 70 ∧ Rise p.2
theorem SmallO.sets {W : World} {o : OpV} (h : SmallO o) (hw : OpWf W o) : okSets o.sets := by
  refine ⟨by unfold OpV.sets; rw [List.length_map]; exact h.n, fun l hl => ?_⟩
  obtain ⟨p, hp, rfl⟩ := List.mem_map.1 hl
  exact ⟨(h.s p hp).1, (h.s p hp).2, hw.wfs p hp⟩
theorem SmallO.patch {W : World} {o : OpV} (h : SmallO o) (hw : OpWf W o) : okPatch o.cs := ⟨h.x, h.c, hw.wfc⟩
/-- calls that can be read wherever the list of assertions holds -/
def OReads (E : Env) (R : List SProp) (v : Value) (os : List OpV) : Prop :=
  ∃ a cap, v = .slice a os.length cap ∧ (∀ w, SatL E w R → ∀ (k : Nat) (o : OpV), os[k]? = some o → ∃ ad, a = some ad ∧ ∀ (j : Nat) (u : Value), (opC o)[j]? = some u → w.cell? ((ad.add (k * 5)).add j) = some u) ∧
    ∀ o ∈ os, SReads E R o.lv (o.ls.map Prod.fst) o.sets ∧ CReads E R o.xv o.cs
theorem ok_op {o : OpV} (h1 : o.lv.oneCell' = true) (h2 : o.xv.oneCell' = true) : Ok 5 (opC o).toArray := ⟨rfl, by intro v hv; simp [opC] at hv; rcases hv with rfl | rfl | rfl | rfl | rfl <;> first | rfl | assumption⟩
section
variable {E : Env} {R : List SProp} {w : World} {v : Value} {os : List OpV}
theorem small_ok (hv : OReads E R v os) (h : SatL E w R) :
    Calls Try.prog 8 #[v] w (Ret fun u w' => ∃ r, u = .bool r ∧ (r = true → os.length ≤ 60 ∧ ∀ o ∈ os, SmallO o) ∧ SatL E w' R) := by
  obtain ⟨a, cap, rfl, hrd, hin⟩ := hv
  refine calls_x Try.func8 rfl Try.ntmps8 rfl ?_
  refine xc_gen (fun g hg => ?_)
  have s0 := (hg 0).trans arg0
  clear hg
  refine xc_seq (fun K hK1 => ?_)
  refine xc_region ?_
  refine x_val (r_assign ec) (nd_of rfl) rfl ?_
  refine xw_nil ?_
  refine hK1 _ _ ?_
  refine xc_gen (fun g hg => ?_)
  have s0 := (hg 0).trans (en rfl s0)
  have s2 := (hg 2).trans es
  clear hg
  refine xc_seq (fun K hK2 => ?_)
  refine xc_seq (fun K hK3 => ?_)
  refine xc_region ?_
  refine x_val (r_move s0) (nd_of rfl) rfl ?_
  refine x_val (r_len Try.underlying22 es) (nd_of rfl) rfl ?_
  refine x_val (r_gtr es ec rfl) (nd_of rfl) rfl ?_
  refine xw_nil ?_
  refine hK3 _ _ ?_
  refine xc_gen (fun g hg => ?_)
  have s0 := (hg 0).trans (en rfl (en rfl (en rfl s0)))
  have s2 := (hg 2).trans (en rfl (en rfl (en rfl s2)))
  have s9 := (hg 9).trans es
  clear hg
  refine xc_cond s9 (fun hc => ?_) (fun hc => ?_)
  ·
    refine xc_seq (fun K hK4 => ?_)
    refine xc_region ?_
    refine x_val (r_assign ec) (nd_of rfl) rfl ?_
    refine xw_nil ?_
    refine hK4 _ _ ?_
    refine xc_gen (fun g hg => ?_)
    have s0 := (hg 0).trans (en rfl s0)
    have s2 := (hg 2).trans es
    have s9 := (hg 9).trans (en rfl s9)
    clear hg
    refine xc_ret ?_
    refine bodyR_1 rfl s2 ?_
    exact ⟨false, rfl, fun h => (by cases h), h⟩
  ·
    refine xc_skip ?_
    refine hK2 _ _ ?_
    refine xc_seq (fun K hK5 => ?_)
    refine xc_seq (fun K hK6 => ?_)
    have hos : os.length ≤ 60 := by have := of_decide_eq_false hc; omega
    refine xc_region ?_
    refine x_val (r_move s0) (nd_of rfl) rfl ?_
    refine x_val (r_len Try.underlying22 es) (nd_of rfl) rfl ?_
    refine x_val (r_move ec) (nd_of rfl) rfl ?_
    refine xw_nil ?_
    refine hK6 _ _ ?_
    refine xc_gen (fun g hg => ?_)
    have s0 := (hg 0).trans (en rfl (en rfl (en rfl s0)))
    have s2 := (hg 2).trans (en rfl (en rfl (en rfl s2)))
    have s9 := (hg 9).trans (en rfl (en rfl (en rfl s9)))
    have s10 := (hg 10).trans (en rfl (en rfl es))
    have s11 := (hg 11).trans (en rfl es)
    have s12 := (hg 12).trans es
    clear hg
    refine xc_block ?_
    obtain ⟨G7, hG7⟩ : ∃ g0 : Nat → Value, g0 = g := ⟨_, rfl⟩
    have zG7_0 : G7 0 = _ := (congrFun hG7 0).trans s0
    have zG7_9 : G7 9 = _ := (congrFun hG7 9).trans s9
    have zG7_10 : G7 10 = _ := (congrFun hG7 10).trans s10
    have zG7_11 : G7 11 = _ := (congrFun hG7 11).trans s11
    refine xc_loop (fun m f w => (∃ (k : Nat), m = os.length - k ∧ k ≤ os.length ∧ (∀ o ∈ os.take k, SmallO o) ∧ f 12 = .int .i64 (k : Int) ∧ SatL E w R) ∧ (f 0 = G7 0 ∧ f 9 = G7 9 ∧ f 10 = G7 10 ∧ f 11 = G7 11)) (os.length) ⟨⟨0, by omega, by omega, by simp, s12, h⟩, ⟨congrFun hG7.symm 0, congrFun hG7.symm 9, congrFun hG7.symm 10, congrFun hG7.symm 11⟩⟩ ?_
    rintro m g w ⟨⟨k, hm, hk, hdone, s12, h⟩, ⟨y0, y9, y10, y11⟩⟩
    have s0 := y0.trans zG7_0
    have s9 := y9.trans zG7_9
    have s10 := y10.trans zG7_10
    have s11 := y11.trans zG7_11
    refine xc_seq (fun K hK8 => ?_)
    refine xc_region ?_
    refine x_val (r_lss s12 s11 rfl) (nd_of rfl) rfl ?_
    refine xw_nil ?_
    refine hK8 _ _ ?_
    refine xc_gen (fun g hg => ?_)
    have s0 := (hg 0).trans (en rfl s0)
    have s9 := (hg 9).trans (en rfl s9)
    have s10 := (hg 10).trans (en rfl s10)
    have s11 := (hg 11).trans (en rfl s11)
    have s12 := (hg 12).trans (en rfl s12)
    have s13 := (hg 13).trans es
    clear hg
    refine xc_seq (fun K hK9 => ?_)
    refine xc_cond s13 (fun hc => ?_) (fun hc => ?_)
    ·
      refine xc_skip ?_
      refine hK9 _ _ ?_
      refine xc_seq (fun K hK10 => ?_)
      refine xc_block ?_
      refine xc_seq (fun K hK11 => ?_)
      have hi : k < os.length := by have := of_decide_eq_true hc; omega
      obtain ⟨o, ho⟩ : ∃ o, os[k]? = some o := ⟨_, List.getElem?_eq_getElem hi⟩
      obtain ⟨ad, rfl, hcell⟩ := hrd _ h k o ho
      obtain ⟨hsr, hcr⟩ := hin o (List.mem_of_getElem? ho)
      have hcr0 := hcr
      obtain ⟨al, cl, hlv, hlc, hll, hlr, hls⟩ := hsr
      obtain ⟨ax, cx, hxv, _⟩ := hcr
      rw [List.length_map] at hlv
      have htk : os.take (k + 1) = os.take k ++ [o] := by rw [List.take_add_one, ho]; rfl
      have hoko : Ok 5 (opC o).toArray := ok_op (by rw [hlv]; rfl) (by rw [hxv]; rfl)
      refine xc_region ?_
      refine x_val (r_indexAny Try.underlying22 Try.sizeOf26 s10 s12 (by omega) (by omega)) (nd_of rfl) rfl ?_
      refine x_val (r_loadAggAt (cs := opC o) Try.isAgg26 Try.sizeOf26 es rfl hcell) (nd_of rfl) rfl ?_
      refine x_declA h Try.zeroValue26 Try.sizeOf26 rfl (en rfl es) (by first | assumption | exact Ok.node (by assumption) | exact xOk.cells (by assumption) | exact ChOk.ok (by assumption)) rfl ?_
      intro b4 w h
      refine xw_nil ?_
      refine hK11 _ _ ?_
      refine xc_gen (fun g hg => ?_)
      have s0 := (hg 0).trans (en rfl (en rfl (en rfl s0)))
      have s4 := (hg 4).trans es
      have s9 := (hg 9).trans (en rfl (en rfl (en rfl s9)))
      have s10 := (hg 10).trans (en rfl (en rfl (en rfl s10)))
      have s11 := (hg 11).trans (en rfl (en rfl (en rfl s11)))
      have s12 := (hg 12).trans (en rfl (en rfl (en rfl s12)))
      have s13 := (hg 13).trans (en rfl (en rfl (en rfl s13)))
      clear hg
      have h : SatL E w (Cells b4 #[.int .i64 o.kind, .int .i64 o.k, .int .i64 o.m, .slice al o.ls.length cl, .slice ax o.cs.length cx] 26 :: R) := by rw [opC, hlv, hxv] at h; exact h
      rcases Nat.lt_or_ge 60 o.ls.length with hq1 | hq1
      ·
        skip
        refine xc_seq (fun K hK12 => ?_)
        refine xc_seq (fun K hK13 => ?_)
        refine xc_region ?_
        refine x_val (r_fieldAddr (o' := 3) Try.underlying26 rfl Try.sizeOf23 rfl s4 rfl) (nd_of rfl) rfl ?_
        refine x_val (r_load h 0 rfl Try.isAgg23 es gc3) (nd_of rfl) rfl ?_
        refine x_val (r_len Try.underlying23 es) (nd_of rfl) rfl ?_
        refine x_val (r_gtr es ec (decide_eq_true (by omega))) (nd_of rfl) rfl ?_
        refine x_val (r_move es) (nd_of rfl) rfl ?_
        refine x_pass (d := 20) rfl rfl es rfl ?_
        refine x_pass (d := 20) rfl rfl (en rfl es) rfl ?_
        refine x_pass (d := 20) rfl rfl (en rfl (en rfl es)) rfl ?_
        refine x_pass (d := 20) rfl rfl (en rfl (en rfl (en rfl es))) rfl ?_
        refine x_val (r_pick_t (en rfl (en rfl (en rfl (en rfl es)))) ec) (nd_of rfl) rfl ?_
        refine x_val (r_move es) (nd_of rfl) rfl ?_
        refine x_pass (d := 26) rfl rfl es rfl ?_
        refine x_pass (d := 26) rfl rfl (en rfl es) rfl ?_
        refine x_pass (d := 26) rfl rfl (en rfl (en rfl es)) rfl ?_
        refine x_pass (d := 26) rfl rfl (en rfl (en rfl (en rfl es))) rfl ?_
        refine x_val (r_pick_t (en rfl (en rfl (en rfl (en rfl es)))) ec) (nd_of rfl) rfl ?_
        refine xw_nil ?_
        refine hK13 _ _ ?_
        refine xc_gen (fun g hg => ?_)
        have s0 := (hg 0).trans (en rfl (en rfl (en rfl (en rfl (en rfl (en rfl (en rfl (en rfl (en rfl (en rfl (en rfl (en rfl (en rfl (en rfl (en rfl (en rfl s0))))))))))))))))
        have s4 := (hg 4).trans (en rfl (en rfl (en rfl (en rfl (en rfl (en rfl (en rfl (en rfl (en rfl (en rfl (en rfl (en rfl (en rfl (en rfl (en rfl (en rfl s4))))))))))))))))
        have s9 := (hg 9).trans (en rfl (en rfl (en rfl (en rfl (en rfl (en rfl (en rfl (en rfl (en rfl (en rfl (en rfl (en rfl (en rfl (en rfl (en rfl (en rfl s9))))))))))))))))
        have s10 := (hg 10).trans (en rfl (en rfl (en rfl (en rfl (en rfl (en rfl (en rfl (en rfl (en rfl (en rfl (en rfl (en rfl (en rfl (en rfl (en rfl (en rfl s10))))))))))))))))
        have s11 := (hg 11).trans (en rfl (en rfl (en rfl (en rfl (en rfl (en rfl (en rfl (en rfl (en rfl (en rfl (en rfl (en rfl (en rfl (en rfl (en rfl (en rfl s11))))))))))))))))
        have s12 := (hg 12).trans (en rfl (en rfl (en rfl (en rfl (en rfl (en rfl (en rfl (en rfl (en rfl (en rfl (en rfl (en rfl (en rfl (en rfl (en rfl (en rfl s12))))))))))))))))
        have s13 := (hg 13).trans (en rfl (en rfl (en rfl (en rfl (en rfl (en rfl (en rfl (en rfl (en rfl (en rfl (en rfl (en rfl (en rfl (en rfl (en rfl (en rfl s13))))))))))))))))
        have s31 := (hg 31).trans es
        clear hg
        refine xc_cond s31 (fun _ => ?_) (fun hc => by cases hc)
        refine xc_seq (fun K hK14 => ?_)
        refine xc_region ?_
        refine x_val (r_assign ec) (nd_of rfl) rfl ?_
        refine xw_nil ?_
        refine hK14 _ _ ?_
        refine xc_gen (fun g hg => ?_)
        have s0 := (hg 0).trans (en rfl s0)
        have s2 := (hg 2).trans es
        have s4 := (hg 4).trans (en rfl s4)
        have s9 := (hg 9).trans (en rfl s9)
        have s10 := (hg 10).trans (en rfl s10)
        have s11 := (hg 11).trans (en rfl s11)
        have s12 := (hg 12).trans (en rfl s12)
        have s13 := (hg 13).trans (en rfl s13)
        have s31 := (hg 31).trans (en rfl s31)
        clear hg
        refine xc_ret ?_
        refine bodyR_1 rfl s2 ?_
        exact ⟨false, rfl, fun h => (by cases h), h.drop⟩
      ·
        skip
        rcases Nat.lt_or_ge 70 o.cs.length with hq2 | hq2
        ·
          skip
          refine xc_seq (fun K hK15 => ?_)
          refine xc_seq (fun K hK16 => ?_)
          refine xc_region ?_
          refine x_val (r_fieldAddr (o' := 3) Try.underlying26 rfl Try.sizeOf23 rfl s4 rfl) (nd_of rfl) rfl ?_
          refine x_val (r_load h 0 rfl Try.isAgg23 es gc3) (nd_of rfl) rfl ?_
          refine x_val (r_len Try.underlying23 es) (nd_of rfl) rfl ?_
          refine x_val (r_gtr es ec (decide_eq_false (by omega))) (nd_of rfl) rfl ?_
          refine x_val (r_move es) (nd_of rfl) rfl ?_
          refine x_take (d := 20) rfl rfl es ?_
          refine x_val (r_fieldAddr (o' := 4) Try.underlying26 rfl Try.sizeOf24 rfl (en rfl (en rfl (en rfl (en rfl (en rfl s4))))) rfl) (nd_of rfl) rfl ?_
          refine x_take (d := 20) rfl rfl (en rfl es) ?_
          refine x_val (r_load h 0 rfl Try.isAgg24 es gc4) (nd_of rfl) rfl ?_
          refine x_take (d := 20) rfl rfl (en rfl (en rfl es)) ?_
          refine x_val (r_len Try.underlying24 es) (nd_of rfl) rfl ?_
          refine x_take (d := 20) rfl rfl (en rfl (en rfl (en rfl es))) ?_
          refine x_val (r_gtr es ec (decide_eq_true (by omega))) (nd_of rfl) rfl ?_
          refine x_val (r_pick_f (en rfl (en rfl (en rfl (en rfl es)))) es) (nd_of rfl) rfl ?_
          refine x_val (r_move es) (nd_of rfl) rfl ?_
          refine x_pass (d := 26) rfl rfl es rfl ?_
          refine x_pass (d := 26) rfl rfl (en rfl es) rfl ?_
          refine x_pass (d := 26) rfl rfl (en rfl (en rfl es)) rfl ?_
          refine x_pass (d := 26) rfl rfl (en rfl (en rfl (en rfl es))) rfl ?_
          refine x_val (r_pick_t (en rfl (en rfl (en rfl (en rfl es)))) ec) (nd_of rfl) rfl ?_
          refine xw_nil ?_
          refine hK16 _ _ ?_
          refine xc_gen (fun g hg => ?_)
          have s0 := (hg 0).trans (en rfl (en rfl (en rfl (en rfl (en rfl (en rfl (en rfl (en rfl (en rfl (en rfl (en rfl (en rfl (en rfl (en rfl (en rfl (en rfl s0))))))))))))))))
          have s4 := (hg 4).trans (en rfl (en rfl (en rfl (en rfl (en rfl (en rfl (en rfl (en rfl (en rfl (en rfl (en rfl (en rfl (en rfl (en rfl (en rfl (en rfl s4))))))))))))))))
          have s9 := (hg 9).trans (en rfl (en rfl (en rfl (en rfl (en rfl (en rfl (en rfl (en rfl (en rfl (en rfl (en rfl (en rfl (en rfl (en rfl (en rfl (en rfl s9))))))))))))))))
          have s10 := (hg 10).trans (en rfl (en rfl (en rfl (en rfl (en rfl (en rfl (en rfl (en rfl (en rfl (en rfl (en rfl (en rfl (en rfl (en rfl (en rfl (en rfl s10))))))))))))))))
          have s11 := (hg 11).trans (en rfl (en rfl (en rfl (en rfl (en rfl (en rfl (en rfl (en rfl (en rfl (en rfl (en rfl (en rfl (en rfl (en rfl (en rfl (en rfl s11))))))))))))))))
          have s12 := (hg 12).trans (en rfl (en rfl (en rfl (en rfl (en rfl (en rfl (en rfl (en rfl (en rfl (en rfl (en rfl (en rfl (en rfl (en rfl (en rfl (en rfl s12))))))))))))))))
          have s13 := (hg 13).trans (en rfl (en rfl (en rfl (en rfl (en rfl (en rfl (en rfl (en rfl (en rfl (en rfl (en rfl (en rfl (en rfl (en rfl (en rfl (en rfl s13))))))))))))))))
          have s31 := (hg 31).trans es
          clear hg
          refine xc_cond s31 (fun _ => ?_) (fun hc => by cases hc)
          refine xc_seq (fun K hK17 => ?_)
          refine xc_region ?_
          refine x_val (r_assign ec) (nd_of rfl) rfl ?_
          refine xw_nil ?_
          refine hK17 _ _ ?_
          refine xc_gen (fun g hg => ?_)
          have s0 := (hg 0).trans (en rfl s0)
          have s2 := (hg 2).trans es
          have s4 := (hg 4).trans (en rfl s4)
          have s9 := (hg 9).trans (en rfl s9)
          have s10 := (hg 10).trans (en rfl s10)
          have s11 := (hg 11).trans (en rfl s11)
          have s12 := (hg 12).trans (en rfl s12)
          have s13 := (hg 13).trans (en rfl s13)
          have s31 := (hg 31).trans (en rfl s31)
          clear hg
          refine xc_ret ?_
          refine bodyR_1 rfl s2 ?_
          exact ⟨false, rfl, fun h => (by cases h), h.drop⟩
        ·
          skip
          refine xc_seq (fun K hK18 => ?_)
          refine xc_seq (fun K hK19 => ?_)
          refine xc_region ?_
          refine x_val (r_fieldAddr (o' := 3) Try.underlying26 rfl Try.sizeOf23 rfl s4 rfl) (nd_of rfl) rfl ?_
          refine x_val (r_load h 0 rfl Try.isAgg23 es gc3) (nd_of rfl) rfl ?_
          refine x_val (r_len Try.underlying23 es) (nd_of rfl) rfl ?_
          refine x_val (r_gtr es ec (decide_eq_false (by omega))) (nd_of rfl) rfl ?_
          refine x_val (r_move es) (nd_of rfl) rfl ?_
          refine x_take (d := 20) rfl rfl es ?_
          refine x_val (r_fieldAddr (o' := 4) Try.underlying26 rfl Try.sizeOf24 rfl (en rfl (en rfl (en rfl (en rfl (en rfl s4))))) rfl) (nd_of rfl) rfl ?_
          refine x_take (d := 20) rfl rfl (en rfl es) ?_
          refine x_val (r_load h 0 rfl Try.isAgg24 es gc4) (nd_of rfl) rfl ?_
          refine x_take (d := 20) rfl rfl (en rfl (en rfl es)) ?_
          refine x_val (r_len Try.underlying24 es) (nd_of rfl) rfl ?_
          refine x_take (d := 20) rfl rfl (en rfl (en rfl (en rfl es))) ?_
          refine x_val (r_gtr es ec (decide_eq_false (by omega))) (nd_of rfl) rfl ?_
          refine x_val (r_pick_f (en rfl (en rfl (en rfl (en rfl es)))) es) (nd_of rfl) rfl ?_
          refine x_val (r_move es) (nd_of rfl) rfl ?_
          refine x_take (d := 26) rfl rfl es ?_
          refine x_val (r_fieldAddr (o' := 4) Try.underlying26 rfl Try.sizeOf24 rfl (en rfl (en rfl (en rfl (en rfl (en rfl (en rfl (en rfl (en rfl (en rfl (en rfl (en rfl s4))))))))))) rfl) (nd_of rfl) rfl ?_
          refine x_take (d := 26) rfl rfl (en rfl es) ?_
          refine x_val (r_load h 0 rfl Try.isAgg24 es gc4) (nd_of rfl) rfl ?_
          refine x_take (d := 26) rfl rfl (en rfl (en rfl es)) ?_
          refine x_enter (r_call Try.call20 (.cons es .nil)) (nd_of rfl) rfl (risingC_ok ((hxv ▸ hcr0).weak (fun _ h => h.drop)) (by omega) h) ?_
          rintro _ w ⟨rC, rfl, hrC, h⟩
          refine x_take (d := 26) rfl rfl (en rfl (en rfl (en rfl es))) ?_
          refine x_val (r_not es rfl) (nd_of rfl) rfl ?_
          refine x_val (r_pick_f (en rfl (en rfl (en rfl (en rfl es)))) es) (nd_of rfl) rfl ?_
          refine xw_nil ?_
          refine hK19 _ _ ?_
          refine xc_gen (fun g hg => ?_)
          have s0 := (hg 0).trans (en rfl (en rfl (en rfl (en rfl (en rfl (en rfl (en rfl (en rfl (en rfl (en rfl (en rfl (en rfl (en rfl (en rfl (en rfl (en rfl s0))))))))))))))))
          have s4 := (hg 4).trans (en rfl (en rfl (en rfl (en rfl (en rfl (en rfl (en rfl (en rfl (en rfl (en rfl (en rfl (en rfl (en rfl (en rfl (en rfl (en rfl s4))))))))))))))))
          have s9 := (hg 9).trans (en rfl (en rfl (en rfl (en rfl (en rfl (en rfl (en rfl (en rfl (en rfl (en rfl (en rfl (en rfl (en rfl (en rfl (en rfl (en rfl s9))))))))))))))))
          have s10 := (hg 10).trans (en rfl (en rfl (en rfl (en rfl (en rfl (en rfl (en rfl (en rfl (en rfl (en rfl (en rfl (en rfl (en rfl (en rfl (en rfl (en rfl s10))))))))))))))))
          have s11 := (hg 11).trans (en rfl (en rfl (en rfl (en rfl (en rfl (en rfl (en rfl (en rfl (en rfl (en rfl (en rfl (en rfl (en rfl (en rfl (en rfl (en rfl s11))))))))))))))))
          have s12 := (hg 12).trans (en rfl (en rfl (en rfl (en rfl (en rfl (en rfl (en rfl (en rfl (en rfl (en rfl (en rfl (en rfl (en rfl (en rfl (en rfl (en rfl s12))))))))))))))))
          have s13 := (hg 13).trans (en rfl (en rfl (en rfl (en rfl (en rfl (en rfl (en rfl (en rfl (en rfl (en rfl (en rfl (en rfl (en rfl (en rfl (en rfl (en rfl s13))))))))))))))))
          have s31 := (hg 31).trans es
          clear hg
          refine xc_cond s31 (fun hc => ?_) (fun hc => ?_)
          ·
            refine xc_seq (fun K hK20 => ?_)
            refine xc_region ?_
            refine x_val (r_assign ec) (nd_of rfl) rfl ?_
            refine xw_nil ?_
            refine hK20 _ _ ?_
            refine xc_gen (fun g hg => ?_)
            have s0 := (hg 0).trans (en rfl s0)
            have s2 := (hg 2).trans es
            have s4 := (hg 4).trans (en rfl s4)
            have s9 := (hg 9).trans (en rfl s9)
            have s10 := (hg 10).trans (en rfl s10)
            have s11 := (hg 11).trans (en rfl s11)
            have s12 := (hg 12).trans (en rfl s12)
            have s13 := (hg 13).trans (en rfl s13)
            have s31 := (hg 31).trans (en rfl s31)
            clear hg
            refine xc_ret ?_
            refine bodyR_1 rfl s2 ?_
            exact ⟨false, rfl, fun h => (by cases h), h.drop⟩
          ·
            refine xc_skip ?_
            refine hK18 _ _ ?_
            refine xc_seq (fun K hK21 => ?_)
            have hrC := pw_adj (fun c : Chg => c.1) _ (hrC (by simpa using hc))
            refine xc_region ?_
            refine x_val (r_fieldAddr (o' := 3) Try.underlying26 rfl Try.sizeOf23 rfl s4 rfl) (nd_of rfl) rfl ?_
            refine x_val (r_load h 0 rfl Try.isAgg23 es gc3) (nd_of rfl) rfl ?_
            refine x_val (r_len Try.underlying23 es) (nd_of rfl) rfl ?_
            refine x_val (r_move ec) (nd_of rfl) rfl ?_
            refine xw_nil ?_
            refine hK21 _ _ ?_
            refine xc_gen (fun g hg => ?_)
            have s0 := (hg 0).trans (en rfl (en rfl (en rfl (en rfl s0))))
            have s4 := (hg 4).trans (en rfl (en rfl (en rfl (en rfl s4))))
            have s9 := (hg 9).trans (en rfl (en rfl (en rfl (en rfl s9))))
            have s10 := (hg 10).trans (en rfl (en rfl (en rfl (en rfl s10))))
            have s11 := (hg 11).trans (en rfl (en rfl (en rfl (en rfl s11))))
            have s12 := (hg 12).trans (en rfl (en rfl (en rfl (en rfl s12))))
            have s13 := (hg 13).trans (en rfl (en rfl (en rfl (en rfl s13))))
            have s31 := (hg 31).trans (en rfl (en rfl (en rfl (en rfl s31))))
            have s33 := (hg 33).trans (en rfl (en rfl es))
            have s34 := (hg 34).trans (en rfl es)
            have s35 := (hg 35).trans es
            clear hg
            refine xc_block ?_
            obtain ⟨G22, hG22⟩ : ∃ g0 : Nat → Value, g0 = g := ⟨_, rfl⟩
            have zG22_0 : G22 0 = _ := (congrFun hG22 0).trans s0
            have zG22_4 : G22 4 = _ := (congrFun hG22 4).trans s4
            have zG22_9 : G22 9 = _ := (congrFun hG22 9).trans s9
            have zG22_10 : G22 10 = _ := (congrFun hG22 10).trans s10
            have zG22_11 : G22 11 = _ := (congrFun hG22 11).trans s11
            have zG22_12 : G22 12 = _ := (congrFun hG22 12).trans s12
            have zG22_13 : G22 13 = _ := (congrFun hG22 13).trans s13
            have zG22_31 : G22 31 = _ := (congrFun hG22 31).trans s31
            have zG22_33 : G22 33 = _ := (congrFun hG22 33).trans s33
            have zG22_34 : G22 34 = _ := (congrFun hG22 34).trans s34
            refine xc_loop (fun m f w => (∃ (i : Nat), m = o.ls.length - i ∧ i ≤ o.ls.length ∧ (∀ p ∈ o.ls.take i, p.2.length ≤ 70 ∧ Rise p.2) ∧ f 35 = .int .i64 (i : Int) ∧ SatL E w (Cells b4 #[.int .i64 o.kind, .int .i64 o.k, .int .i64 o.m, .slice al o.ls.length cl, .slice ax o.cs.length cx] 26 :: R)) ∧ (f 0 = G22 0 ∧ f 4 = G22 4 ∧ f 9 = G22 9 ∧ f 10 = G22 10 ∧ f 11 = G22 11 ∧ f 12 = G22 12 ∧ f 13 = G22 13 ∧ f 31 = G22 31 ∧ f 33 = G22 33 ∧ f 34 = G22 34)) (o.ls.length) ⟨⟨0, by omega, by omega, by simp, s35, h⟩, ⟨congrFun hG22.symm 0, congrFun hG22.symm 4, congrFun hG22.symm 9, congrFun hG22.symm 10, congrFun hG22.symm 11, congrFun hG22.symm 12, congrFun hG22.symm 13, congrFun hG22.symm 31, congrFun hG22.symm 33, congrFun hG22.symm 34⟩⟩ ?_
            rintro m g w ⟨⟨i, hm2, hile, hdone2, s35, h⟩, ⟨y0, y4, y9, y10, y11, y12, y13, y31, y33, y34⟩⟩
            have s0 := y0.trans zG22_0
            have s4 := y4.trans zG22_4
            have s9 := y9.trans zG22_9
            have s10 := y10.trans zG22_10
            have s11 := y11.trans zG22_11
            have s12 := y12.trans zG22_12
            have s13 := y13.trans zG22_13
            have s31 := y31.trans zG22_31
            have s33 := y33.trans zG22_33
            have s34 := y34.trans zG22_34
            refine xc_seq (fun K hK23 => ?_)
            refine xc_region ?_
            refine x_val (r_lss s35 s34 rfl) (nd_of rfl) rfl ?_
            refine xw_nil ?_
            refine hK23 _ _ ?_
            refine xc_gen (fun g hg => ?_)
            have s0 := (hg 0).trans (en rfl s0)
            have s4 := (hg 4).trans (en rfl s4)
            have s9 := (hg 9).trans (en rfl s9)
            have s10 := (hg 10).trans (en rfl s10)
            have s11 := (hg 11).trans (en rfl s11)
            have s12 := (hg 12).trans (en rfl s12)
            have s13 := (hg 13).trans (en rfl s13)
            have s31 := (hg 31).trans (en rfl s31)
            have s33 := (hg 33).trans (en rfl s33)
            have s34 := (hg 34).trans (en rfl s34)
            have s35 := (hg 35).trans (en rfl s35)
            have s36 := (hg 36).trans es
            clear hg
            refine xc_seq (fun K hK24 => ?_)
            refine xc_cond s36 (fun hc => ?_) (fun hc => ?_)
            ·
              refine xc_skip ?_
              refine hK24 _ _ ?_
              refine xc_seq (fun K hK25 => ?_)
              refine xc_block ?_
              refine xc_seq (fun K hK26 => ?_)
              have hil : i < o.ls.length := by have := of_decide_eq_true hc; omega
              obtain ⟨p, hp⟩ : ∃ p, o.ls[i]? = some p := ⟨_, List.getElem?_eq_getElem hil⟩
              have hpx : (o.ls.map Prod.fst)[i]? = some p.1 := by rw [List.getElem?_map, hp]; rfl
              have hpl : o.sets[i]? = some p.2 := by unfold OpV.sets; rw [List.getElem?_map, hp]; rfl
              have har := hls i p.1 p.2 hpx hpl
              have har0 := har
              obtain ⟨aa, ca, hpv, _, _⟩ := har
              have htk2 : o.ls.take (i + 1) = o.ls.take i ++ [p] := by rw [List.take_add_one, hp]; rfl
              obtain ⟨ad2, rfl, hcell2⟩ := hlr _ h.drop i p.1 hpx
              rw [hpv] at hcell2 har0
              refine xc_region ?_
              refine x_val (r_index1 Try.underlying23 Try.sizeOf38 s33 s35 hil) (nd_of rfl) rfl ?_
              refine x_val (r_loadCell Try.isAgg38 es hcell2) (nd_of rfl) rfl ?_
              refine x_val (r_assign es) (nd_of rfl) rfl ?_
              refine xw_nil ?_
              refine hK26 _ _ ?_
              refine xc_gen (fun g hg => ?_)
              have s0 := (hg 0).trans (en rfl (en rfl (en rfl s0)))
              have s4 := (hg 4).trans (en rfl (en rfl (en rfl s4)))
              have s6 := (hg 6).trans es
              have s9 := (hg 9).trans (en rfl (en rfl (en rfl s9)))
              have s10 := (hg 10).trans (en rfl (en rfl (en rfl s10)))
              have s11 := (hg 11).trans (en rfl (en rfl (en rfl s11)))
              have s12 := (hg 12).trans (en rfl (en rfl (en rfl s12)))
              have s13 := (hg 13).trans (en rfl (en rfl (en rfl s13)))
              have s31 := (hg 31).trans (en rfl (en rfl (en rfl s31)))
              have s33 := (hg 33).trans (en rfl (en rfl (en rfl s33)))
              have s34 := (hg 34).trans (en rfl (en rfl (en rfl s34)))
              have s35 := (hg 35).trans (en rfl (en rfl (en rfl s35)))
              have s36 := (hg 36).trans (en rfl (en rfl (en rfl s36)))
              clear hg
              rcases Nat.lt_or_ge 70 p.2.length with hq3 | hq3
              ·
                skip
                refine xc_seq (fun K hK27 => ?_)
                refine xc_region ?_
                refine x_val (r_move s6) (nd_of rfl) rfl ?_
                refine x_val (r_len Try.underlying38 es) (nd_of rfl) rfl ?_
                refine x_val (r_gtr es ec (decide_eq_true (by omega))) (nd_of rfl) rfl ?_
                refine x_val (r_move es) (nd_of rfl) rfl ?_
                refine x_pass (d := 42) rfl rfl es rfl ?_
                refine x_pass (d := 42) rfl rfl (en rfl es) rfl ?_
                refine x_pass (d := 42) rfl rfl (en rfl (en rfl es)) rfl ?_
                refine x_val (r_pick_t (en rfl (en rfl (en rfl es))) ec) (nd_of rfl) rfl ?_
                refine xw_nil ?_
                refine hK27 _ _ ?_
                refine xc_gen (fun g hg => ?_)
                have s0 := (hg 0).trans (en rfl (en rfl (en rfl (en rfl (en rfl (en rfl (en rfl (en rfl s0))))))))
                have s4 := (hg 4).trans (en rfl (en rfl (en rfl (en rfl (en rfl (en rfl (en rfl (en rfl s4))))))))
                have s6 := (hg 6).trans (en rfl (en rfl (en rfl (en rfl (en rfl (en rfl (en rfl (en rfl s6))))))))
                have s9 := (hg 9).trans (en rfl (en rfl (en rfl (en rfl (en rfl (en rfl (en rfl (en rfl s9))))))))
                have s10 := (hg 10).trans (en rfl (en rfl (en rfl (en rfl (en rfl (en rfl (en rfl (en rfl s10))))))))
                have s11 := (hg 11).trans (en rfl (en rfl (en rfl (en rfl (en rfl (en rfl (en rfl (en rfl s11))))))))
                have s12 := (hg 12).trans (en rfl (en rfl (en rfl (en rfl (en rfl (en rfl (en rfl (en rfl s12))))))))
                have s13 := (hg 13).trans (en rfl (en rfl (en rfl (en rfl (en rfl (en rfl (en rfl (en rfl s13))))))))
                have s31 := (hg 31).trans (en rfl (en rfl (en rfl (en rfl (en rfl (en rfl (en rfl (en rfl s31))))))))
                have s33 := (hg 33).trans (en rfl (en rfl (en rfl (en rfl (en rfl (en rfl (en rfl (en rfl s33))))))))
                have s34 := (hg 34).trans (en rfl (en rfl (en rfl (en rfl (en rfl (en rfl (en rfl (en rfl s34))))))))
                have s35 := (hg 35).trans (en rfl (en rfl (en rfl (en rfl (en rfl (en rfl (en rfl (en rfl s35))))))))
                have s36 := (hg 36).trans (en rfl (en rfl (en rfl (en rfl (en rfl (en rfl (en rfl (en rfl s36))))))))
                have s46 := (hg 46).trans es
                clear hg
                refine xc_cond s46 (fun _ => ?_) (fun hc => by cases hc)
                refine xc_seq (fun K hK28 => ?_)
                refine xc_region ?_
                refine x_val (r_assign ec) (nd_of rfl) rfl ?_
                refine xw_nil ?_
                refine hK28 _ _ ?_
                refine xc_gen (fun g hg => ?_)
                have s0 := (hg 0).trans (en rfl s0)
                have s2 := (hg 2).trans es
                have s4 := (hg 4).trans (en rfl s4)
                have s6 := (hg 6).trans (en rfl s6)
                have s9 := (hg 9).trans (en rfl s9)
                have s10 := (hg 10).trans (en rfl s10)
                have s11 := (hg 11).trans (en rfl s11)
                have s12 := (hg 12).trans (en rfl s12)
                have s13 := (hg 13).trans (en rfl s13)
                have s31 := (hg 31).trans (en rfl s31)
                have s33 := (hg 33).trans (en rfl s33)
                have s34 := (hg 34).trans (en rfl s34)
                have s35 := (hg 35).trans (en rfl s35)
                have s36 := (hg 36).trans (en rfl s36)
                have s46 := (hg 46).trans (en rfl s46)
                clear hg
                refine xc_ret ?_
                refine bodyR_1 rfl s2 ?_
                exact ⟨false, rfl, fun h => (by cases h), h.drop⟩
              ·
                skip
                refine xc_seq (fun K hK29 => ?_)
                refine xc_region ?_
                refine x_val (r_move s6) (nd_of rfl) rfl ?_
                refine x_val (r_len Try.underlying38 es) (nd_of rfl) rfl ?_
                refine x_val (r_gtr es ec (decide_eq_false (by omega))) (nd_of rfl) rfl ?_
                refine x_val (r_move es) (nd_of rfl) rfl ?_
                refine x_take (d := 42) rfl rfl es ?_
                refine x_val (r_move (en rfl (en rfl (en rfl (en rfl s6))))) (nd_of rfl) rfl ?_
                refine x_take (d := 42) rfl rfl (en rfl es) ?_
                refine x_enter (r_call Try.call21 (.cons es .nil)) (nd_of rfl) rfl (rising_ok (har0.weak (fun _ h => h.drop)) (by omega) h) ?_
                rintro _ w ⟨rA, rfl, hrA, h⟩
                refine x_take (d := 42) rfl rfl (en rfl (en rfl es)) ?_
                refine x_val (r_not es rfl) (nd_of rfl) rfl ?_
                refine x_val (r_pick_f (en rfl (en rfl (en rfl es))) es) (nd_of rfl) rfl ?_
                refine xw_nil ?_
                refine hK29 _ _ ?_
                refine xc_gen (fun g hg => ?_)
                have s0 := (hg 0).trans (en rfl (en rfl (en rfl (en rfl (en rfl (en rfl (en rfl (en rfl s0))))))))
                have s4 := (hg 4).trans (en rfl (en rfl (en rfl (en rfl (en rfl (en rfl (en rfl (en rfl s4))))))))
                have s6 := (hg 6).trans (en rfl (en rfl (en rfl (en rfl (en rfl (en rfl (en rfl (en rfl s6))))))))
                have s9 := (hg 9).trans (en rfl (en rfl (en rfl (en rfl (en rfl (en rfl (en rfl (en rfl s9))))))))
                have s10 := (hg 10).trans (en rfl (en rfl (en rfl (en rfl (en rfl (en rfl (en rfl (en rfl s10))))))))
                have s11 := (hg 11).trans (en rfl (en rfl (en rfl (en rfl (en rfl (en rfl (en rfl (en rfl s11))))))))
                have s12 := (hg 12).trans (en rfl (en rfl (en rfl (en rfl (en rfl (en rfl (en rfl (en rfl s12))))))))
                have s13 := (hg 13).trans (en rfl (en rfl (en rfl (en rfl (en rfl (en rfl (en rfl (en rfl s13))))))))
                have s31 := (hg 31).trans (en rfl (en rfl (en rfl (en rfl (en rfl (en rfl (en rfl (en rfl s31))))))))
                have s33 := (hg 33).trans (en rfl (en rfl (en rfl (en rfl (en rfl (en rfl (en rfl (en rfl s33))))))))
                have s34 := (hg 34).trans (en rfl (en rfl (en rfl (en rfl (en rfl (en rfl (en rfl (en rfl s34))))))))
                have s35 := (hg 35).trans (en rfl (en rfl (en rfl (en rfl (en rfl (en rfl (en rfl (en rfl s35))))))))
                have s36 := (hg 36).trans (en rfl (en rfl (en rfl (en rfl (en rfl (en rfl (en rfl (en rfl s36))))))))
                have s46 := (hg 46).trans es
                clear hg
                refine xc_cond s46 (fun hc => ?_) (fun hc => ?_)
                ·
                  refine xc_seq (fun K hK30 => ?_)
                  refine xc_region ?_
                  refine x_val (r_assign ec) (nd_of rfl) rfl ?_
                  refine xw_nil ?_
                  refine hK30 _ _ ?_
                  refine xc_gen (fun g hg => ?_)
                  have s0 := (hg 0).trans (en rfl s0)
                  have s2 := (hg 2).trans es
                  have s4 := (hg 4).trans (en rfl s4)
                  have s6 := (hg 6).trans (en rfl s6)
                  have s9 := (hg 9).trans (en rfl s9)
                  have s10 := (hg 10).trans (en rfl s10)
                  have s11 := (hg 11).trans (en rfl s11)
                  have s12 := (hg 12).trans (en rfl s12)
                  have s13 := (hg 13).trans (en rfl s13)
                  have s31 := (hg 31).trans (en rfl s31)
                  have s33 := (hg 33).trans (en rfl s33)
                  have s34 := (hg 34).trans (en rfl s34)
                  have s35 := (hg 35).trans (en rfl s35)
                  have s36 := (hg 36).trans (en rfl s36)
                  have s46 := (hg 46).trans (en rfl s46)
                  clear hg
                  refine xc_ret ?_
                  refine bodyR_1 rfl s2 ?_
                  exact ⟨false, rfl, fun h => (by cases h), h.drop⟩
                ·
                  refine xc_skip ?_
                  refine hK25 _ _ ?_
                  have hrA := pw_adj (fun c : Atr => c.1) _ (hrA (by simpa using hc))
                  refine xc_region ?_
                  refine x_val (r_add s35 ec (show _ = (((i + 1 : Nat) : Int) : Int) from by omega) (by unfold I64; omega)) (nd_of rfl) rfl ?_
                  refine x_val (r_move es) (nd_of rfl) rfl ?_
                  refine xw_nil ?_
                  exact ⟨o.ls.length - (i + 1), by omega, ⟨i + 1, rfl, by omega, fun q hq => by rw [htk2] at hq; rcases List.mem_append.1 hq with hq | hq; exact hdone2 q hq; simp at hq; subst hq; exact ⟨hq3, hrA⟩, es, h⟩, ⟨((en rfl (en rfl s0))).trans zG22_0.symm, ((en rfl (en rfl s4))).trans zG22_4.symm, ((en rfl (en rfl s9))).trans zG22_9.symm, ((en rfl (en rfl s10))).trans zG22_10.symm, ((en rfl (en rfl s11))).trans zG22_11.symm, ((en rfl (en rfl s12))).trans zG22_12.symm, ((en rfl (en rfl s13))).trans zG22_13.symm, ((en rfl (en rfl s31))).trans zG22_31.symm, ((en rfl (en rfl s33))).trans zG22_33.symm, ((en rfl (en rfl s34))).trans zG22_34.symm⟩⟩
            ·
              refine xc_exit ?_
              refine hK10 _ _ ?_
              have hie : i = o.ls.length := by have := of_decide_eq_false hc; omega
              rw [hie, List.take_length] at hdone2
              refine xc_region ?_
              refine x_val (r_add s12 ec (show _ = (((k + 1 : Nat) : Int) : Int) from by omega) (by unfold I64; omega)) (nd_of rfl) rfl ?_
              refine x_val (r_move es) (nd_of rfl) rfl ?_
              refine xw_nil ?_
              exact ⟨os.length - (k + 1), by omega, ⟨k + 1, rfl, by omega, fun q hq => by rw [htk] at hq; rcases List.mem_append.1 hq with hq | hq; exact hdone q hq; simp at hq; subst hq; exact ⟨hq1, hq2, hrC, hdone2⟩, es, h.drop⟩, ⟨((en rfl (en rfl s0))).trans zG7_0.symm, ((en rfl (en rfl s9))).trans zG7_9.symm, ((en rfl (en rfl s10))).trans zG7_10.symm, ((en rfl (en rfl s11))).trans zG7_11.symm⟩⟩
    ·
      refine xc_exit ?_
      refine hK5 _ _ ?_
      refine xc_seq (fun K hK31 => ?_)
      have hke : k = os.length := by have := of_decide_eq_false hc; omega
      rw [hke, List.take_length] at hdone
      refine xc_region ?_
      refine x_val (r_assign ec) (nd_of rfl) rfl ?_
      refine xw_nil ?_
      refine hK31 _ _ ?_
      refine xc_gen (fun g hg => ?_)
      have s0 := (hg 0).trans (en rfl s0)
      have s2 := (hg 2).trans es
      have s9 := (hg 9).trans (en rfl s9)
      have s10 := (hg 10).trans (en rfl s10)
      have s11 := (hg 11).trans (en rfl s11)
      have s12 := (hg 12).trans (en rfl s12)
      have s13 := (hg 13).trans (en rfl s13)
      clear hg
      refine xc_ret ?_
      refine bodyR_1 rfl s2 ?_
      exact ⟨true, rfl, fun _ => ⟨hos, hdone⟩, h⟩
end
end Go.Proofs.Ytonnijghdlakfaa
