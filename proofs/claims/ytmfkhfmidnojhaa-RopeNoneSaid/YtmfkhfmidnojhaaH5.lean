/-
The chunks' Join.
-/
import Derived.Test.YtmfkhfmidnojhaaH3
namespace Go.Proofs.Ytmfkhfmidnojhaa
open Go Go.RowKit
/-- a block one of whose cells is told -/
def Part (b i : Nat) (v : Value) (t : TypeId) : SProp := fun m => ∃ cs : Array Value, cs[i]? = some v ∧ Cells b cs t m
theorem SatL.part {E : Env} {w : World} {L : List SProp} {b i : Nat} {v : Value} {t : TypeId} {cs : Array Value} (hv : cs[i]? = some v) (h : SatL E w (Cells b cs t :: L)) : SatL E w (Part b i v t :: L) := h.imp fun _ hm => ⟨cs, hv, hm⟩
theorem SatL.partCell {E : Env} {w : World} {L : List SProp} {b i : Nat} {v : Value} {t : TypeId} (h : SatL E w L) (k : Nat) (hk : L[k]? = some (Part b i v t)) : w.cell? ⟨b, i, none⟩ = some v := by
  obtain ⟨m, ⟨cs, hv, hm⟩, hs⟩ := h.at k hk
  rw [cell_of_row w b i cs t (0, 0) (hs b _ hm)]
  exact hv
def arrC (l : List Int) : Array Value := ((chR l).map fun r => Value.int .i32 r).toArray
theorem chC_ext {l : List Int} (h : ChOk l) : (chC l).extract 0 (0 + 32) = arrC l := by
  rw [chC_eq, arrC]
  apply Array.ext'
  rw [Array.toList_extract]
  have hl : ((chR l).map fun r => Value.int .i32 r).length = 32 := by rw [List.length_map, chR_len h]
  simp [hl]
theorem chC_le {l : List Int} (h : ChOk l) : 0 + 32 ≤ (chC l).size := by have := h.ok.size; omega
section
variable {P : Program} {f : Nat → Value} {w : World} {d : Option Tmp} {ty : TypeId} {pos : String} {af : Array Edge} {g : Option (Tmp × Bool)}
theorem r_buildArr0 {T e : TypeId} {N s : Nat} {zs : Array Value} (hu : P.underlying T = some (.array N e)) (hz : ∀ w, (zeroValue T).run P w = .ok (.agg zs) w) (hs : ∀ w, (sizeOf e).run P w = .ok s w) :
    (execOp (ev f) ⟨d, .build T #[], ty, pos, af, g⟩).run P w = .ok (.value (.agg zs)) w := by
  have e : (Value.agg zs).cells = zs := rfl
  simp [execOp, Instr.build, hz, run_underlying hu, hs, Instr.fill, e]
theorem r_eqArr {T I yt : TypeId} {x y : Operand} {l m : List Int} (hl : ChOk l) (hm : ChOk m) (hx : ev f x = .agg (arrC l)) (hy : ev f y = .agg (arrC m))
    (hA : P.underlying T = some (.array 32 I)) (hI : P.underlying I = some (.int .i32)) (hcA : P.cellsOf T = 32) (hcI : P.cellsOf I = 1) (hk : P.keyTypeAt 2 T = true) (hg : P.eqGuardType P.depth T = false) {r : Bool} (hr : decide (chR l = chR m) = r) :
    (execOp (ev f) ⟨d, .binOp .eql T x y yt, ty, pos, af, g⟩).run P w = .ok (.value (.bool r)) w := by
  have key : ∀ {l : List Int}, ChOk l → P.keyLits 3 T (Value.agg (arrC l)).cells.toList = some ((chR l).map (fun r => Lit.int .i32 r)) := fun {l} hl => keyLits_ints (d := 1) hA hI hcA hcI (chR l) (chR_len hl) (chR_wf hl)
  have fm : ∀ {l : List Int}, ChOk l → (Value.agg (arrC l)).formed P T = true := by
    intro l hl
    simp [Value.formed, hA, arrC, chR_len hl, hcA]
  obtain ⟨rr, hrr, hiff⟩ := run_equalIn_deep (P := P) 9998 2 T hk w 3 3 (.agg (arrC l)) (.agg (arrC m)) _ _ (fm hl) (fm hm) (key hl) (key hm)
  have hrl : rr = r := by
    subst hr
    rw [Bool.eq_iff_iff, hiff, decide_eq_true_iff]
    constructor
    · intro h
      have h4 := congrArg (List.map fun t => match t with | Lit.int _ n => n | _ => 0) h
      simpa [List.map_map, Function.comp_def] using h4
    · intro h; rw [h]
  subst hrl
  have e2 : (Op.equal T (.agg (arrC l)) (.agg (arrC m))).run P w = .ok rr w := hrr
  simp [execOp, hx, hy, eqGuard, hg, binOp, e2]
end
theorem zA : ∀ w, (zeroValue 56).run Try.prog w = .ok (.agg (arrC [])) w := fun _ => by kernel_rfl
theorem join_put {l m : List Int} (hs : l.length + m.length ≤ 32) : ((chC l).toList.take (if 32 = l.length then 0 else l.length * 1) ++ m.map (fun r => Value.int .i32 r) ++ (chC l).toList.drop ((if 32 = l.length then 0 else l.length * 1) + m.length)).toArray = ((chC l).toList.take l.length ++ i32s m ++ (chC l).toList.drop (l.length + m.length)).toArray := by
  by_cases h : 32 = l.length
  · have hm : m = [] := List.length_eq_zero_iff.1 (by omega)
    subst hm
    simp [i32s]
  · rw [if_neg h, Nat.mul_one]; rfl
theorem chC_mid {l m : List Int} (h : ChOk l) (hs : l.length + m.length ≤ 32) : (((chC l).toList.take l.length ++ i32s m ++ (chC l).toList.drop (l.length + m.length)).toArray)[32]? = some (.int .i64 (l.length : Int)) := by
  have hn := chC_n h
  have hz := h.ok.size
  rw [← Array.getElem?_toList] at hn
  rw [List.getElem?_toArray, List.getElem?_append_right (by simp [i32s]; omega), List.getElem?_drop, ← hn]
  congr 1
  simp [i32s]
  omega
section
variable {E : Env} {R L : List SProp} {w : World} {l m zs : List Int} {v : Value} {r : Int}
theorem join_long (ho : ChOk l) (hm : ChOk m) (hs : 32 < l.length + m.length) (h : SatL E w R) : Calls Try.prog 52 #[.agg (chC l), .agg (chC m)] w (Ret fun u w' => u = .tuple #[.agg (chC []), .int .i64 8] ∧ SatL E w' R) := by
  have hnil := chOk_nil
  have h1 := ho.len
  have h2 := hm.len
  refine calls_x Try.func52 rfl Try.ntmps52 rfl ?_
  refine xc_gen (fun g hg => ?_)
  have s0 := (hg 0).trans arg0
  have s1 := (hg 1).trans arg1
  clear hg
  refine xc_seq (fun K hK1 => ?_)
  refine xc_region ?_
  refine x_boxA h s0 rfl ?_
  intro b2 w h
  refine x_boxA h (en rfl s1) rfl ?_
  intro b3 w h
  refine x_allocA h zC rfl ?_
  intro b4 w h
  refine x_val (r_assign ec) (nd_of rfl) rfl ?_
  refine xw_nil ?_
  refine hK1 _ _ ?_
  refine xc_gen (fun g hg => ?_)
  have s0 := (hg 0).trans (en rfl (en rfl (en rfl (en rfl s0))))
  have s1 := (hg 1).trans (en rfl (en rfl (en rfl (en rfl s1))))
  have s2 := (hg 2).trans (en rfl (en rfl (en rfl es)))
  have s3 := (hg 3).trans (en rfl (en rfl es))
  have s4 := (hg 4).trans (en rfl es)
  have s5 := (hg 5).trans es
  clear hg
  refine xc_seq (fun K hK2 => ?_)
  refine xc_seq (fun K hK3 => ?_)
  refine xc_region ?_
  refine x_val (r_fieldAddr (o' := 32) Try.underlying58 rfl Try.sizeOf3 rfl s2 rfl) (nd_of rfl) rfl ?_
  refine x_val (r_load h 2 rfl Try.isAgg3 es (chC_n (by assumption))) (nd_of rfl) rfl ?_
  refine x_val (r_fieldAddr (o' := 32) Try.underlying58 rfl Try.sizeOf3 rfl (en rfl (en rfl s3)) rfl) (nd_of rfl) rfl ?_
  refine x_val (r_load h 1 rfl Try.isAgg3 es (chC_n (by assumption))) (nd_of rfl) rfl ?_
  refine x_val (r_add (en rfl (en rfl es)) es rfl (by unfold I64; omega)) (nd_of rfl) rfl ?_
  refine x_val (r_gtr es ec (decide_eq_true (by omega))) (nd_of rfl) rfl ?_
  refine xw_nil ?_
  refine hK3 _ _ ?_
  refine xc_gen (fun g hg => ?_)
  have s0 := (hg 0).trans (en rfl (en rfl (en rfl (en rfl (en rfl (en rfl s0))))))
  have s1 := (hg 1).trans (en rfl (en rfl (en rfl (en rfl (en rfl (en rfl s1))))))
  have s2 := (hg 2).trans (en rfl (en rfl (en rfl (en rfl (en rfl (en rfl s2))))))
  have s3 := (hg 3).trans (en rfl (en rfl (en rfl (en rfl (en rfl (en rfl s3))))))
  have s4 := (hg 4).trans (en rfl (en rfl (en rfl (en rfl (en rfl (en rfl s4))))))
  have s5 := (hg 5).trans (en rfl (en rfl (en rfl (en rfl (en rfl (en rfl s5))))))
  have s11 := (hg 11).trans es
  clear hg
  refine xc_cond s11 (fun _ => ?_) (fun hc => by cases hc)
  refine xc_seq (fun K hK4 => ?_)
  refine xc_region ?_
  refine x_val (r_buildZ Try.underlying58 zC Try.sizeOf56 Try.sizeOf3) (nd_of rfl) rfl ?_
  refine x_st (r_storeAgg h 0 rfl Try.sizeOf58 (en rfl s4) es (Ok.size (by first | assumption | exact Ok.node (by assumption) | exact xOk.cells (by assumption) | exact ChOk.ok (by assumption))) (Ok.one (by first | assumption | exact Ok.node (by assumption) | exact xOk.cells (by assumption) | exact ChOk.ok (by assumption))) (Ok.le (by first | assumption | exact Ok.node (by assumption) | exact xOk.cells (by assumption) | exact ChOk.ok (by assumption)))) rfl (h.r0 (over_full (Ok.size (by first | assumption | exact Ok.node (by assumption) | exact xOk.cells (by assumption) | exact ChOk.ok (by assumption))))) ?_
  intro w h
  refine x_val (r_assign ec) (nd_of rfl) rfl ?_
  refine xw_nil ?_
  refine hK4 _ _ ?_
  refine xc_gen (fun g hg => ?_)
  have s0 := (hg 0).trans (en rfl (en rfl s0))
  have s1 := (hg 1).trans (en rfl (en rfl s1))
  have s2 := (hg 2).trans (en rfl (en rfl s2))
  have s3 := (hg 3).trans (en rfl (en rfl s3))
  have s4 := (hg 4).trans (en rfl (en rfl s4))
  have s5 := (hg 5).trans es
  have s11 := (hg 11).trans (en rfl (en rfl s11))
  clear hg
  refine xc_ret ?_
  refine bodyR_ct rfl s4 (lv_agg h 0 rfl Try.isAgg58 Try.sizeOf58 (Ok.size (by first | assumption | exact Ok.node (by assumption) | exact xOk.cells (by assumption) | exact ChOk.ok (by assumption)))) s5 ?_
  exact ⟨rfl, h.drop.drop.drop⟩
theorem join_nil (hm : ChOk m) (h : SatL E w R) : Calls Try.prog 52 #[.agg (chC []), .agg (chC m)] w (Ret fun u w' => u = .tuple #[.agg (chC m), .int .i64 0] ∧ SatL E w' R) := by
  have hnil := chOk_nil
  have h2 := hm.len
  refine calls_x Try.func52 rfl Try.ntmps52 rfl ?_
  refine xc_gen (fun g hg => ?_)
  have s0 := (hg 0).trans arg0
  have s1 := (hg 1).trans arg1
  clear hg
  refine xc_seq (fun K hK1 => ?_)
  refine xc_region ?_
  refine x_boxA h s0 rfl ?_
  intro b2 w h
  refine x_boxA h (en rfl s1) rfl ?_
  intro b3 w h
  refine x_allocA h zC rfl ?_
  intro b4 w h
  refine x_val (r_assign ec) (nd_of rfl) rfl ?_
  refine xw_nil ?_
  refine hK1 _ _ ?_
  refine xc_gen (fun g hg => ?_)
  have s0 := (hg 0).trans (en rfl (en rfl (en rfl (en rfl s0))))
  have s1 := (hg 1).trans (en rfl (en rfl (en rfl (en rfl s1))))
  have s2 := (hg 2).trans (en rfl (en rfl (en rfl es)))
  have s3 := (hg 3).trans (en rfl (en rfl es))
  have s4 := (hg 4).trans (en rfl es)
  have s5 := (hg 5).trans es
  clear hg
  refine xc_seq (fun K hK2 => ?_)
  refine xc_seq (fun K hK3 => ?_)
  refine xc_region ?_
  refine x_val (r_fieldAddr (o' := 32) Try.underlying58 rfl Try.sizeOf3 rfl s2 rfl) (nd_of rfl) rfl ?_
  refine x_val (r_load h 2 rfl Try.isAgg3 es (chC_n (by assumption))) (nd_of rfl) rfl ?_
  refine x_val (r_fieldAddr (o' := 32) Try.underlying58 rfl Try.sizeOf3 rfl (en rfl (en rfl s3)) rfl) (nd_of rfl) rfl ?_
  refine x_val (r_load h 1 rfl Try.isAgg3 es (chC_n (by assumption))) (nd_of rfl) rfl ?_
  refine x_val (r_add (en rfl (en rfl es)) es (show _ = ((m.length : Int) : Int) from by simp) (by unfold I64; omega)) (nd_of rfl) rfl ?_
  refine x_val (r_gtr es ec (decide_eq_false (by omega))) (nd_of rfl) rfl ?_
  refine xw_nil ?_
  refine hK3 _ _ ?_
  refine xc_gen (fun g hg => ?_)
  have s0 := (hg 0).trans (en rfl (en rfl (en rfl (en rfl (en rfl (en rfl s0))))))
  have s1 := (hg 1).trans (en rfl (en rfl (en rfl (en rfl (en rfl (en rfl s1))))))
  have s2 := (hg 2).trans (en rfl (en rfl (en rfl (en rfl (en rfl (en rfl s2))))))
  have s3 := (hg 3).trans (en rfl (en rfl (en rfl (en rfl (en rfl (en rfl s3))))))
  have s4 := (hg 4).trans (en rfl (en rfl (en rfl (en rfl (en rfl (en rfl s4))))))
  have s5 := (hg 5).trans (en rfl (en rfl (en rfl (en rfl (en rfl (en rfl s5))))))
  have s11 := (hg 11).trans es
  clear hg
  refine xc_cond s11 (fun hc => by cases hc) (fun _ => ?_)
  refine xc_skip ?_
  refine hK2 _ _ ?_
  refine xc_seq (fun K hK4 => ?_)
  refine xc_seq (fun K hK5 => ?_)
  refine xc_region ?_
  refine x_val (r_fieldAddr (o' := 0) Try.underlying58 rfl Try.sizeOf56 rfl s2 rfl) (nd_of rfl) rfl ?_
  refine x_val (r_loadAgg h 2 rfl Try.isAgg56 Try.sizeOf56 es (chC_le hnil) (chC_ext hnil)) (nd_of rfl) rfl ?_
  refine x_val (r_buildArr0 Try.underlying56 zA Try.sizeOf21) (nd_of rfl) rfl ?_
  refine x_val (r_eqArr (r := true) hnil hnil (en rfl es) es Try.underlying56 Try.underlying21 (by kernel_rfl) (by kernel_rfl) (by kernel_rfl) (by kernel_rfl) (decide_eq_true rfl)) (nd_of rfl) rfl ?_
  refine x_val (r_move es) (nd_of rfl) rfl ?_
  refine x_take (d := 17) rfl rfl es ?_
  refine x_val (r_fieldAddr (o' := 32) Try.underlying58 rfl Try.sizeOf3 rfl (en rfl (en rfl (en rfl (en rfl (en rfl s2))))) rfl) (nd_of rfl) rfl ?_
  refine x_take (d := 17) rfl rfl (en rfl es) ?_
  refine x_val (r_load h 2 rfl Try.isAgg3 es (chC_n (by assumption))) (nd_of rfl) rfl ?_
  refine x_take (d := 17) rfl rfl (en rfl (en rfl es)) ?_
  refine x_val (r_eql es ec (decide_eq_true (by rfl))) (nd_of rfl) rfl ?_
  refine x_val (r_pick_t (en rfl (en rfl (en rfl es))) es) (nd_of rfl) rfl ?_
  refine xw_nil ?_
  refine hK5 _ _ ?_
  refine xc_gen (fun g hg => ?_)
  have s0 := (hg 0).trans (en rfl (en rfl (en rfl (en rfl (en rfl (en rfl (en rfl (en rfl (en rfl s0)))))))))
  have s1 := (hg 1).trans (en rfl (en rfl (en rfl (en rfl (en rfl (en rfl (en rfl (en rfl (en rfl s1)))))))))
  have s2 := (hg 2).trans (en rfl (en rfl (en rfl (en rfl (en rfl (en rfl (en rfl (en rfl (en rfl s2)))))))))
  have s3 := (hg 3).trans (en rfl (en rfl (en rfl (en rfl (en rfl (en rfl (en rfl (en rfl (en rfl s3)))))))))
  have s4 := (hg 4).trans (en rfl (en rfl (en rfl (en rfl (en rfl (en rfl (en rfl (en rfl (en rfl s4)))))))))
  have s5 := (hg 5).trans (en rfl (en rfl (en rfl (en rfl (en rfl (en rfl (en rfl (en rfl (en rfl s5)))))))))
  have s11 := (hg 11).trans (en rfl (en rfl (en rfl (en rfl (en rfl (en rfl (en rfl (en rfl (en rfl s11)))))))))
  have s21 := (hg 21).trans es
  clear hg
  refine xc_cond s21 (fun _ => ?_) (fun hc => by cases hc)
  refine xc_seq (fun K hK6 => ?_)
  refine xc_region ?_
  refine x_val (r_loadAgg h 1 rfl Try.isAgg58 Try.sizeOf58 s3 (Ok.le (by first | assumption | exact Ok.node (by assumption) | exact xOk.cells (by assumption) | exact ChOk.ok (by assumption))) (ext_full (Ok.size (by first | assumption | exact Ok.node (by assumption) | exact xOk.cells (by assumption) | exact ChOk.ok (by assumption))))) (nd_of rfl) rfl ?_
  refine x_st (r_storeAgg h 0 rfl Try.sizeOf58 (en rfl s4) es (Ok.size (by first | assumption | exact Ok.node (by assumption) | exact xOk.cells (by assumption) | exact ChOk.ok (by assumption))) (Ok.one (by first | assumption | exact Ok.node (by assumption) | exact xOk.cells (by assumption) | exact ChOk.ok (by assumption))) (Ok.le (by first | assumption | exact Ok.node (by assumption) | exact xOk.cells (by assumption) | exact ChOk.ok (by assumption)))) rfl (h.r0 (over_full (Ok.size (by first | assumption | exact Ok.node (by assumption) | exact xOk.cells (by assumption) | exact ChOk.ok (by assumption))))) ?_
  intro w h
  refine x_val (r_assign ec) (nd_of rfl) rfl ?_
  refine xw_nil ?_
  refine hK6 _ _ ?_
  refine xc_gen (fun g hg => ?_)
  have s0 := (hg 0).trans (en rfl (en rfl s0))
  have s1 := (hg 1).trans (en rfl (en rfl s1))
  have s2 := (hg 2).trans (en rfl (en rfl s2))
  have s3 := (hg 3).trans (en rfl (en rfl s3))
  have s4 := (hg 4).trans (en rfl (en rfl s4))
  have s5 := (hg 5).trans es
  have s11 := (hg 11).trans (en rfl (en rfl s11))
  have s21 := (hg 21).trans (en rfl (en rfl s21))
  clear hg
  refine xc_ret ?_
  refine bodyR_ct rfl s4 (lv_agg h 0 rfl Try.isAgg58 Try.sizeOf58 (Ok.size (by first | assumption | exact Ok.node (by assumption) | exact xOk.cells (by assumption) | exact ChOk.ok (by assumption)))) s5 ?_
  exact ⟨rfl, h.drop.drop.drop⟩
theorem join_ok (ho : ChOk l) (hm : ChOk m) (hs : l.length + m.length ≤ 32) (h : SatL E w R) : Calls Try.prog 52 #[.agg (chC l), .agg (chC m)] w (Ret fun u w' => u = .tuple #[.agg (chC (l ++ m)), .int .i64 0] ∧ SatL E w' R) := by
  by_cases hl0 : l = []
  · subst hl0
    exact join_nil hm h
  have hnil := chOk_nil
  have hlm := ho.app hm hs
  have h1 : 0 < l.length := List.length_pos_iff.2 hl0
  have h3 := ho.ok.size
  obtain ⟨e, he⟩ : ∃ e, decide (chR l = chR []) = e := ⟨_, rfl⟩
  refine calls_x Try.func52 rfl Try.ntmps52 rfl ?_
  refine xc_gen (fun g hg => ?_)
  have s0 := (hg 0).trans arg0
  have s1 := (hg 1).trans arg1
  clear hg
  refine xc_seq (fun K hK1 => ?_)
  refine xc_region ?_
  refine x_boxA h s0 rfl ?_
  intro b2 w h
  refine x_boxA h (en rfl s1) rfl ?_
  intro b3 w h
  refine x_allocA h zC rfl ?_
  intro b4 w h
  refine x_val (r_assign ec) (nd_of rfl) rfl ?_
  refine xw_nil ?_
  refine hK1 _ _ ?_
  refine xc_gen (fun g hg => ?_)
  have s0 := (hg 0).trans (en rfl (en rfl (en rfl (en rfl s0))))
  have s1 := (hg 1).trans (en rfl (en rfl (en rfl (en rfl s1))))
  have s2 := (hg 2).trans (en rfl (en rfl (en rfl es)))
  have s3 := (hg 3).trans (en rfl (en rfl es))
  have s4 := (hg 4).trans (en rfl es)
  have s5 := (hg 5).trans es
  clear hg
  refine xc_seq (fun K hK2 => ?_)
  refine xc_seq (fun K hK3 => ?_)
  refine xc_region ?_
  refine x_val (r_fieldAddr (o' := 32) Try.underlying58 rfl Try.sizeOf3 rfl s2 rfl) (nd_of rfl) rfl ?_
  refine x_val (r_load h 2 rfl Try.isAgg3 es (chC_n (by assumption))) (nd_of rfl) rfl ?_
  refine x_val (r_fieldAddr (o' := 32) Try.underlying58 rfl Try.sizeOf3 rfl (en rfl (en rfl s3)) rfl) (nd_of rfl) rfl ?_
  refine x_val (r_load h 1 rfl Try.isAgg3 es (chC_n (by assumption))) (nd_of rfl) rfl ?_
  refine x_val (r_add (en rfl (en rfl es)) es rfl (by unfold I64; omega)) (nd_of rfl) rfl ?_
  refine x_val (r_gtr es ec (decide_eq_false (by omega))) (nd_of rfl) rfl ?_
  refine xw_nil ?_
  refine hK3 _ _ ?_
  refine xc_gen (fun g hg => ?_)
  have s0 := (hg 0).trans (en rfl (en rfl (en rfl (en rfl (en rfl (en rfl s0))))))
  have s1 := (hg 1).trans (en rfl (en rfl (en rfl (en rfl (en rfl (en rfl s1))))))
  have s2 := (hg 2).trans (en rfl (en rfl (en rfl (en rfl (en rfl (en rfl s2))))))
  have s3 := (hg 3).trans (en rfl (en rfl (en rfl (en rfl (en rfl (en rfl s3))))))
  have s4 := (hg 4).trans (en rfl (en rfl (en rfl (en rfl (en rfl (en rfl s4))))))
  have s5 := (hg 5).trans (en rfl (en rfl (en rfl (en rfl (en rfl (en rfl s5))))))
  have s11 := (hg 11).trans es
  clear hg
  rcases e with _ | _
  ·
    skip
    refine xc_cond s11 (fun hc => by cases hc) (fun _ => ?_)
    refine xc_skip ?_
    refine hK2 _ _ ?_
    refine xc_seq (fun K hK4 => ?_)
    refine xc_seq (fun K hK5 => ?_)
    refine xc_region ?_
    refine x_val (r_fieldAddr (o' := 0) Try.underlying58 rfl Try.sizeOf56 rfl s2 rfl) (nd_of rfl) rfl ?_
    refine x_val (r_loadAgg h 2 rfl Try.isAgg56 Try.sizeOf56 es (chC_le ho) (chC_ext ho)) (nd_of rfl) rfl ?_
    refine x_val (r_buildArr0 Try.underlying56 zA Try.sizeOf21) (nd_of rfl) rfl ?_
    refine x_val (r_eqArr (r := false) ho hnil (en rfl es) es Try.underlying56 Try.underlying21 (by kernel_rfl) (by kernel_rfl) (by kernel_rfl) (by kernel_rfl) he) (nd_of rfl) rfl ?_
    have h := h.f1
    have h := h.f2
    refine x_val (r_move es) (nd_of rfl) rfl ?_
    refine x_pass (d := 17) rfl rfl es rfl ?_
    refine x_pass (d := 17) rfl rfl (en rfl es) rfl ?_
    refine x_pass (d := 17) rfl rfl (en rfl (en rfl es)) rfl ?_
    refine x_val (r_pick_f (en rfl (en rfl (en rfl es))) ec) (nd_of rfl) rfl ?_
    refine xw_nil ?_
    refine hK5 _ _ ?_
    refine xc_gen (fun g hg => ?_)
    have s0 := (hg 0).trans (en rfl (en rfl (en rfl (en rfl (en rfl (en rfl (en rfl (en rfl (en rfl s0)))))))))
    have s1 := (hg 1).trans (en rfl (en rfl (en rfl (en rfl (en rfl (en rfl (en rfl (en rfl (en rfl s1)))))))))
    have s2 := (hg 2).trans (en rfl (en rfl (en rfl (en rfl (en rfl (en rfl (en rfl (en rfl (en rfl s2)))))))))
    have s3 := (hg 3).trans (en rfl (en rfl (en rfl (en rfl (en rfl (en rfl (en rfl (en rfl (en rfl s3)))))))))
    have s4 := (hg 4).trans (en rfl (en rfl (en rfl (en rfl (en rfl (en rfl (en rfl (en rfl (en rfl s4)))))))))
    have s5 := (hg 5).trans (en rfl (en rfl (en rfl (en rfl (en rfl (en rfl (en rfl (en rfl (en rfl s5)))))))))
    have s11 := (hg 11).trans (en rfl (en rfl (en rfl (en rfl (en rfl (en rfl (en rfl (en rfl (en rfl s11)))))))))
    have s21 := (hg 21).trans es
    clear hg
    refine xc_cond s21 (fun hc => by cases hc) (fun _ => ?_)
    refine xc_skip ?_
    refine hK4 _ _ ?_
    refine xc_seq (fun K hK6 => ?_)
    have hS := ((h.part (chC_n ho)).f2).drop
    refine xc_plan 13 [(0, 2), (1, 1), (2, 2), (3, 2), (4, 1), (5, 2), (6, 2), (7, 2), (8, 1), (9, 2), (10, 0), (11, 2), (12, 2), (13, 0)] (by kernel_rfl) rfl (by kernel_rfl) hS ?_
    have h := h.drew
    refine xp_read (i := 0) rfl (fun W => r_fieldAddr (o' := 32) Try.underlying58 rfl Try.sizeOf3 rfl s2 rfl) rfl (fun _ _ _ hh => by first | exact bodyR_np hh | exact bodyY_np hh | exact hh) ?_
    refine xp_load (i := 1) rfl (fun W hW => r_loadCell Try.isAgg3 es (hW.partCell 0 rfl)) rfl (fun _ _ _ hh => by first | exact bodyR_np hh | exact bodyY_np hh | exact hh) ?_
    refine xp_read (i := 2) rfl (fun W => r_fieldAddr (o' := 0) Try.underlying58 rfl Try.sizeOf56 rfl (en rfl (en rfl s2)) rfl) rfl (fun _ _ _ hh => by first | exact bodyR_np hh | exact bodyY_np hh | exact hh) ?_
    refine xp_read (i := 3) rfl (fun W => r_fieldAddr (o' := 32) Try.underlying58 rfl Try.sizeOf3 rfl (en rfl (en rfl (en rfl s2))) rfl) rfl (fun _ _ _ hh => by first | exact bodyR_np hh | exact bodyY_np hh | exact hh) ?_
    refine xp_load (i := 4) rfl (fun W hW => r_loadCell Try.isAgg3 es (hW.partCell 0 rfl)) rfl (fun _ _ _ hh => by first | exact bodyR_np hh | exact bodyY_np hh | exact hh) ?_
    refine xp_read (i := 5) rfl (fun W => r_sliceArrFrom Try.underlying56 Try.sizeOf21 (en rfl (en rfl es)) es (by omega)) rfl (fun _ _ _ hh => by first | exact bodyR_np hh | exact bodyY_np hh | exact hh) ?_
    refine xp_read (i := 6) rfl (fun W => r_fieldAddr (o' := 0) Try.underlying58 rfl Try.sizeOf56 rfl (en rfl (en rfl (en rfl (en rfl (en rfl (en rfl s3)))))) rfl) rfl (fun _ _ _ hh => by first | exact bodyR_np hh | exact bodyY_np hh | exact hh) ?_
    refine xp_read (i := 7) rfl (fun W => r_fieldAddr (o' := 32) Try.underlying58 rfl Try.sizeOf3 rfl (en rfl (en rfl (en rfl (en rfl (en rfl (en rfl (en rfl s3))))))) rfl) rfl (fun _ _ _ hh => by first | exact bodyR_np hh | exact bodyY_np hh | exact hh) ?_
    refine xp_load (i := 8) rfl (fun W hW => r_load hW 1 rfl Try.isAgg3 es (chC_n hm)) rfl (fun _ _ _ hh => by first | exact bodyR_np hh | exact bodyY_np hh | exact hh) ?_
    refine xp_read (i := 9) rfl (fun W => r_sliceArrTo Try.underlying56 Try.sizeOf21 rfl (en rfl (en rfl es)) es (by omega)) rfl (fun _ _ _ hh => by first | exact bodyR_np hh | exact bodyY_np hh | exact hh) ?_
    refine xp_copy (i := 10) h rfl Try.underlying23 (by kernel_rfl) (en rfl (en rfl (en rfl (en rfl es)))) es (by have h4 := ckReads hm (Nat.le_refl _) 1 rfl h; rw [List.take_length] at h4; exact h4) (by omega) (by split <;> omega) rfl ?_; intro w h; rw [join_put hs] at h; refine ⟨fun _ => ((h.part (chC_mid ho hs)).f2).drop, ?_⟩
    refine xp_read (i := 11) rfl (fun W => r_add (en rfl (en rfl (en rfl (en rfl (en rfl (en rfl (en rfl (en rfl (en rfl es))))))))) es (show _ = (((l.length + m.length : Nat) : Int) : Int) from by omega) (by unfold I64; omega)) rfl (fun _ _ _ hh => by first | exact bodyR_np hh | exact bodyY_np hh | exact hh) ?_
    refine xp_read (i := 12) rfl (fun W => r_fieldAddr (o' := 32) Try.underlying58 rfl Try.sizeOf3 rfl (en rfl (en rfl (en rfl (en rfl (en rfl (en rfl (en rfl (en rfl (en rfl (en rfl (en rfl (en rfl s2)))))))))))) rfl) rfl (fun _ _ _ hh => by first | exact bodyR_np hh | exact bodyY_np hh | exact hh) ?_
    refine xp_st (i := 13) rfl (r_store h 0 rfl Try.sizeOf3 es (en rfl es) rfl (chC_mid ho hs)) (h.u0 (chC_put hs)) (fun hh => absurd rfl hh) ?_
    intro w h
    refine xp_nil ?_
    refine hK6 _ _ ?_
    refine xc_gen (fun g hg => ?_)
    have s0 := (hg 0).trans (en rfl (en rfl (en rfl (en rfl (en rfl (en rfl (en rfl (en rfl (en rfl (en rfl (en rfl (en rfl (en rfl s0)))))))))))))
    have s1 := (hg 1).trans (en rfl (en rfl (en rfl (en rfl (en rfl (en rfl (en rfl (en rfl (en rfl (en rfl (en rfl (en rfl (en rfl s1)))))))))))))
    have s2 := (hg 2).trans (en rfl (en rfl (en rfl (en rfl (en rfl (en rfl (en rfl (en rfl (en rfl (en rfl (en rfl (en rfl (en rfl s2)))))))))))))
    have s3 := (hg 3).trans (en rfl (en rfl (en rfl (en rfl (en rfl (en rfl (en rfl (en rfl (en rfl (en rfl (en rfl (en rfl (en rfl s3)))))))))))))
    have s4 := (hg 4).trans (en rfl (en rfl (en rfl (en rfl (en rfl (en rfl (en rfl (en rfl (en rfl (en rfl (en rfl (en rfl (en rfl s4)))))))))))))
    have s5 := (hg 5).trans (en rfl (en rfl (en rfl (en rfl (en rfl (en rfl (en rfl (en rfl (en rfl (en rfl (en rfl (en rfl (en rfl s5)))))))))))))
    have s11 := (hg 11).trans (en rfl (en rfl (en rfl (en rfl (en rfl (en rfl (en rfl (en rfl (en rfl (en rfl (en rfl (en rfl (en rfl s11)))))))))))))
    have s21 := (hg 21).trans (en rfl (en rfl (en rfl (en rfl (en rfl (en rfl (en rfl (en rfl (en rfl (en rfl (en rfl (en rfl (en rfl s21)))))))))))))
    clear hg
    refine xc_seq (fun K hK7 => ?_)
    refine xc_region ?_
    refine x_val (r_loadAgg h 0 rfl Try.isAgg58 Try.sizeOf58 s2 (Ok.le (by first | assumption | exact Ok.node (by assumption) | exact xOk.cells (by assumption) | exact ChOk.ok (by assumption))) (ext_full (Ok.size (by first | assumption | exact Ok.node (by assumption) | exact xOk.cells (by assumption) | exact ChOk.ok (by assumption))))) (nd_of rfl) rfl ?_
    refine x_st (r_storeAgg h 2 rfl Try.sizeOf58 (en rfl s4) es (Ok.size (by first | assumption | exact Ok.node (by assumption) | exact xOk.cells (by assumption) | exact ChOk.ok (by assumption))) (Ok.one (by first | assumption | exact Ok.node (by assumption) | exact xOk.cells (by assumption) | exact ChOk.ok (by assumption))) (Ok.le (by first | assumption | exact Ok.node (by assumption) | exact xOk.cells (by assumption) | exact ChOk.ok (by assumption)))) rfl (h.r2 (over_full (Ok.size (by first | assumption | exact Ok.node (by assumption) | exact xOk.cells (by assumption) | exact ChOk.ok (by assumption))))) ?_
    intro w h
    refine x_val (r_assign ec) (nd_of rfl) rfl ?_
    refine xw_nil ?_
    refine hK7 _ _ ?_
    refine xc_gen (fun g hg => ?_)
    have s0 := (hg 0).trans (en rfl (en rfl s0))
    have s1 := (hg 1).trans (en rfl (en rfl s1))
    have s2 := (hg 2).trans (en rfl (en rfl s2))
    have s3 := (hg 3).trans (en rfl (en rfl s3))
    have s4 := (hg 4).trans (en rfl (en rfl s4))
    have s5 := (hg 5).trans es
    have s11 := (hg 11).trans (en rfl (en rfl s11))
    have s21 := (hg 21).trans (en rfl (en rfl s21))
    clear hg
    refine xc_ret ?_
    refine bodyR_ct rfl s4 (lv_agg h 2 rfl Try.isAgg58 Try.sizeOf58 (Ok.size (by first | assumption | exact Ok.node (by assumption) | exact xOk.cells (by assumption) | exact ChOk.ok (by assumption)))) s5 ?_
    exact ⟨rfl, h.drop.drop.drop⟩
  ·
    skip
    refine xc_cond s11 (fun hc => by cases hc) (fun _ => ?_)
    refine xc_skip ?_
    refine hK2 _ _ ?_
    refine xc_seq (fun K hK8 => ?_)
    refine xc_seq (fun K hK9 => ?_)
    refine xc_region ?_
    refine x_val (r_fieldAddr (o' := 0) Try.underlying58 rfl Try.sizeOf56 rfl s2 rfl) (nd_of rfl) rfl ?_
    refine x_val (r_loadAgg h 2 rfl Try.isAgg56 Try.sizeOf56 es (chC_le ho) (chC_ext ho)) (nd_of rfl) rfl ?_
    refine x_val (r_buildArr0 Try.underlying56 zA Try.sizeOf21) (nd_of rfl) rfl ?_
    refine x_val (r_eqArr (r := true) ho hnil (en rfl es) es Try.underlying56 Try.underlying21 (by kernel_rfl) (by kernel_rfl) (by kernel_rfl) (by kernel_rfl) he) (nd_of rfl) rfl ?_
    refine x_val (r_move es) (nd_of rfl) rfl ?_
    refine x_take (d := 17) rfl rfl es ?_
    refine x_val (r_fieldAddr (o' := 32) Try.underlying58 rfl Try.sizeOf3 rfl (en rfl (en rfl (en rfl (en rfl (en rfl s2))))) rfl) (nd_of rfl) rfl ?_
    refine x_take (d := 17) rfl rfl (en rfl es) ?_
    refine x_val (r_load h 2 rfl Try.isAgg3 es (chC_n (by assumption))) (nd_of rfl) rfl ?_
    refine x_take (d := 17) rfl rfl (en rfl (en rfl es)) ?_
    refine x_val (r_eql es ec (decide_eq_false (by omega))) (nd_of rfl) rfl ?_
    have h := h.f1
    have h := h.f2
    refine x_val (r_pick_t (en rfl (en rfl (en rfl es))) es) (nd_of rfl) rfl ?_
    refine xw_nil ?_
    refine hK9 _ _ ?_
    refine xc_gen (fun g hg => ?_)
    have s0 := (hg 0).trans (en rfl (en rfl (en rfl (en rfl (en rfl (en rfl (en rfl (en rfl (en rfl s0)))))))))
    have s1 := (hg 1).trans (en rfl (en rfl (en rfl (en rfl (en rfl (en rfl (en rfl (en rfl (en rfl s1)))))))))
    have s2 := (hg 2).trans (en rfl (en rfl (en rfl (en rfl (en rfl (en rfl (en rfl (en rfl (en rfl s2)))))))))
    have s3 := (hg 3).trans (en rfl (en rfl (en rfl (en rfl (en rfl (en rfl (en rfl (en rfl (en rfl s3)))))))))
    have s4 := (hg 4).trans (en rfl (en rfl (en rfl (en rfl (en rfl (en rfl (en rfl (en rfl (en rfl s4)))))))))
    have s5 := (hg 5).trans (en rfl (en rfl (en rfl (en rfl (en rfl (en rfl (en rfl (en rfl (en rfl s5)))))))))
    have s11 := (hg 11).trans (en rfl (en rfl (en rfl (en rfl (en rfl (en rfl (en rfl (en rfl (en rfl s11)))))))))
    have s21 := (hg 21).trans es
    clear hg
    refine xc_cond s21 (fun hc => by cases hc) (fun _ => ?_)
    refine xc_skip ?_
    refine hK8 _ _ ?_
    refine xc_seq (fun K hK10 => ?_)
    have hS := ((h.part (chC_n ho)).f2).drop
    refine xc_plan 13 [(0, 2), (1, 1), (2, 2), (3, 2), (4, 1), (5, 2), (6, 2), (7, 2), (8, 1), (9, 2), (10, 0), (11, 2), (12, 2), (13, 0)] (by kernel_rfl) rfl (by kernel_rfl) hS ?_
    have h := h.drew
    refine xp_read (i := 0) rfl (fun W => r_fieldAddr (o' := 32) Try.underlying58 rfl Try.sizeOf3 rfl s2 rfl) rfl (fun _ _ _ hh => by first | exact bodyR_np hh | exact bodyY_np hh | exact hh) ?_
    refine xp_load (i := 1) rfl (fun W hW => r_loadCell Try.isAgg3 es (hW.partCell 0 rfl)) rfl (fun _ _ _ hh => by first | exact bodyR_np hh | exact bodyY_np hh | exact hh) ?_
    refine xp_read (i := 2) rfl (fun W => r_fieldAddr (o' := 0) Try.underlying58 rfl Try.sizeOf56 rfl (en rfl (en rfl s2)) rfl) rfl (fun _ _ _ hh => by first | exact bodyR_np hh | exact bodyY_np hh | exact hh) ?_
    refine xp_read (i := 3) rfl (fun W => r_fieldAddr (o' := 32) Try.underlying58 rfl Try.sizeOf3 rfl (en rfl (en rfl (en rfl s2))) rfl) rfl (fun _ _ _ hh => by first | exact bodyR_np hh | exact bodyY_np hh | exact hh) ?_
    refine xp_load (i := 4) rfl (fun W hW => r_loadCell Try.isAgg3 es (hW.partCell 0 rfl)) rfl (fun _ _ _ hh => by first | exact bodyR_np hh | exact bodyY_np hh | exact hh) ?_
    refine xp_read (i := 5) rfl (fun W => r_sliceArrFrom Try.underlying56 Try.sizeOf21 (en rfl (en rfl es)) es (by omega)) rfl (fun _ _ _ hh => by first | exact bodyR_np hh | exact bodyY_np hh | exact hh) ?_
    refine xp_read (i := 6) rfl (fun W => r_fieldAddr (o' := 0) Try.underlying58 rfl Try.sizeOf56 rfl (en rfl (en rfl (en rfl (en rfl (en rfl (en rfl s3)))))) rfl) rfl (fun _ _ _ hh => by first | exact bodyR_np hh | exact bodyY_np hh | exact hh) ?_
    refine xp_read (i := 7) rfl (fun W => r_fieldAddr (o' := 32) Try.underlying58 rfl Try.sizeOf3 rfl (en rfl (en rfl (en rfl (en rfl (en rfl (en rfl (en rfl s3))))))) rfl) rfl (fun _ _ _ hh => by first | exact bodyR_np hh | exact bodyY_np hh | exact hh) ?_
    refine xp_load (i := 8) rfl (fun W hW => r_load hW 1 rfl Try.isAgg3 es (chC_n hm)) rfl (fun _ _ _ hh => by first | exact bodyR_np hh | exact bodyY_np hh | exact hh) ?_
    refine xp_read (i := 9) rfl (fun W => r_sliceArrTo Try.underlying56 Try.sizeOf21 rfl (en rfl (en rfl es)) es (by omega)) rfl (fun _ _ _ hh => by first | exact bodyR_np hh | exact bodyY_np hh | exact hh) ?_
    refine xp_copy (i := 10) h rfl Try.underlying23 (by kernel_rfl) (en rfl (en rfl (en rfl (en rfl es)))) es (by have h4 := ckReads hm (Nat.le_refl _) 1 rfl h; rw [List.take_length] at h4; exact h4) (by omega) (by split <;> omega) rfl ?_; intro w h; rw [join_put hs] at h; refine ⟨fun _ => ((h.part (chC_mid ho hs)).f2).drop, ?_⟩
    refine xp_read (i := 11) rfl (fun W => r_add (en rfl (en rfl (en rfl (en rfl (en rfl (en rfl (en rfl (en rfl (en rfl es))))))))) es (show _ = (((l.length + m.length : Nat) : Int) : Int) from by omega) (by unfold I64; omega)) rfl (fun _ _ _ hh => by first | exact bodyR_np hh | exact bodyY_np hh | exact hh) ?_
    refine xp_read (i := 12) rfl (fun W => r_fieldAddr (o' := 32) Try.underlying58 rfl Try.sizeOf3 rfl (en rfl (en rfl (en rfl (en rfl (en rfl (en rfl (en rfl (en rfl (en rfl (en rfl (en rfl (en rfl s2)))))))))))) rfl) rfl (fun _ _ _ hh => by first | exact bodyR_np hh | exact bodyY_np hh | exact hh) ?_
    refine xp_st (i := 13) rfl (r_store h 0 rfl Try.sizeOf3 es (en rfl es) rfl (chC_mid ho hs)) (h.u0 (chC_put hs)) (fun hh => absurd rfl hh) ?_
    intro w h
    refine xp_nil ?_
    refine hK10 _ _ ?_
    refine xc_gen (fun g hg => ?_)
    have s0 := (hg 0).trans (en rfl (en rfl (en rfl (en rfl (en rfl (en rfl (en rfl (en rfl (en rfl (en rfl (en rfl (en rfl (en rfl s0)))))))))))))
    have s1 := (hg 1).trans (en rfl (en rfl (en rfl (en rfl (en rfl (en rfl (en rfl (en rfl (en rfl (en rfl (en rfl (en rfl (en rfl s1)))))))))))))
    have s2 := (hg 2).trans (en rfl (en rfl (en rfl (en rfl (en rfl (en rfl (en rfl (en rfl (en rfl (en rfl (en rfl (en rfl (en rfl s2)))))))))))))
    have s3 := (hg 3).trans (en rfl (en rfl (en rfl (en rfl (en rfl (en rfl (en rfl (en rfl (en rfl (en rfl (en rfl (en rfl (en rfl s3)))))))))))))
    have s4 := (hg 4).trans (en rfl (en rfl (en rfl (en rfl (en rfl (en rfl (en rfl (en rfl (en rfl (en rfl (en rfl (en rfl (en rfl s4)))))))))))))
    have s5 := (hg 5).trans (en rfl (en rfl (en rfl (en rfl (en rfl (en rfl (en rfl (en rfl (en rfl (en rfl (en rfl (en rfl (en rfl s5)))))))))))))
    have s11 := (hg 11).trans (en rfl (en rfl (en rfl (en rfl (en rfl (en rfl (en rfl (en rfl (en rfl (en rfl (en rfl (en rfl (en rfl s11)))))))))))))
    have s21 := (hg 21).trans (en rfl (en rfl (en rfl (en rfl (en rfl (en rfl (en rfl (en rfl (en rfl (en rfl (en rfl (en rfl (en rfl s21)))))))))))))
    clear hg
    refine xc_seq (fun K hK11 => ?_)
    refine xc_region ?_
    refine x_val (r_loadAgg h 0 rfl Try.isAgg58 Try.sizeOf58 s2 (Ok.le (by first | assumption | exact Ok.node (by assumption) | exact xOk.cells (by assumption) | exact ChOk.ok (by assumption))) (ext_full (Ok.size (by first | assumption | exact Ok.node (by assumption) | exact xOk.cells (by assumption) | exact ChOk.ok (by assumption))))) (nd_of rfl) rfl ?_
    refine x_st (r_storeAgg h 2 rfl Try.sizeOf58 (en rfl s4) es (Ok.size (by first | assumption | exact Ok.node (by assumption) | exact xOk.cells (by assumption) | exact ChOk.ok (by assumption))) (Ok.one (by first | assumption | exact Ok.node (by assumption) | exact xOk.cells (by assumption) | exact ChOk.ok (by assumption))) (Ok.le (by first | assumption | exact Ok.node (by assumption) | exact xOk.cells (by assumption) | exact ChOk.ok (by assumption)))) rfl (h.r2 (over_full (Ok.size (by first | assumption | exact Ok.node (by assumption) | exact xOk.cells (by assumption) | exact ChOk.ok (by assumption))))) ?_
    intro w h
    refine x_val (r_assign ec) (nd_of rfl) rfl ?_
    refine xw_nil ?_
    refine hK11 _ _ ?_
    refine xc_gen (fun g hg => ?_)
    have s0 := (hg 0).trans (en rfl (en rfl s0))
    have s1 := (hg 1).trans (en rfl (en rfl s1))
    have s2 := (hg 2).trans (en rfl (en rfl s2))
    have s3 := (hg 3).trans (en rfl (en rfl s3))
    have s4 := (hg 4).trans (en rfl (en rfl s4))
    have s5 := (hg 5).trans es
    have s11 := (hg 11).trans (en rfl (en rfl s11))
    have s21 := (hg 21).trans (en rfl (en rfl s21))
    clear hg
    refine xc_ret ?_
    refine bodyR_ct rfl s4 (lv_agg h 2 rfl Try.isAgg58 Try.sizeOf58 (Ok.size (by first | assumption | exact Ok.node (by assumption) | exact xOk.cells (by assumption) | exact ChOk.ok (by assumption)))) s5 ?_
    exact ⟨rfl, h.drop.drop.drop⟩
end
end Go.Proofs.Ytmfkhfmidnojhaa
