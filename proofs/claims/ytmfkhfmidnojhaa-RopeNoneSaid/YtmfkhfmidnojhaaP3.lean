/-
slices.Chunk over runes: the pieces of 32.
-/
import Derived.Test.YtmfkhfmidnojhaaP2
namespace Go.Proofs.Ytmfkhfmidnojhaa
open Go Go.RowKit
section
variable {P : Program} {f : Nat → Value} {w : World} {d : Option Tmp} {ty : TypeId} {pos : String} {af : Array Edge} {g : Option (Tmp × Bool)}
theorem r_sliceAnyFrom {T e : TypeId} {x y : Operand} {s : Nat} {kk : IntKind} {a : Option Addr} {len cap l : Nat} (hu : P.underlying T = some (.slice e)) (hs : ∀ w, (sizeOf e).run P w = .ok s w)
    (hx : ev f x = .slice a len cap) (hy : ev f y = .int kk (l : Int)) (h1 : l ≤ len) (h2 : len ≤ cap) :
    (execOp (ev f) ⟨d, .slice T x (some y) none none, ty, pos, af, g⟩).run P w = .ok (.value (.slice (if cap = l then a else a.map (·.add (l * s))) (len - l) (cap - l))) w := by
  by_cases hc : cap = l
  · subst hc
    simp [execOp, hx, hy, Instr.sliceAt, Instr.slice, Instr.sliceBounds, Instr.sliceBound, asIntOf, run_underlying hu, hs, h1]
  · simp [execOp, hx, hy, Instr.sliceAt, Instr.slice, Instr.sliceBounds, Instr.sliceBound, asIntOf, run_underlying hu, hs, h1, hc]
theorem r_slice3 {T e : TypeId} {x y z u : Operand} {s : Nat} {kk : IntKind} {a : Option Addr} {len cap l h : Nat} (hu : P.underlying T = some (.slice e)) (hs : ∀ w, (sizeOf e).run P w = .ok s w)
    (hx : ev f x = .slice a len cap) (hy : ev f y = .int kk (l : Int)) (hz : ev f z = .int kk (h : Int)) (hv : ev f u = .int kk (h : Int)) (h1 : l < h) (h2 : h ≤ cap) :
    (execOp (ev f) ⟨d, .slice T x (some y) (some z) (some u), ty, pos, af, g⟩).run P w = .ok (.value (.slice (a.map (·.add (l * s))) (h - l) (h - l))) w := by
  have hne : ¬ h = l := by omega
  have h3 : l ≤ h := by omega
  simp [execOp, hx, hy, hz, hv, Instr.sliceAt, Instr.slice, Instr.sliceBounds, Instr.sliceBound, asIntOf, run_underlying hu, hs, h2, h3, hne]
end
/-- the k-th piece -/
def piece (zs : List Int) (k : Nat) : List Int := (zs.drop (32 * k)).take 32
def nPieces (zs : List Int) : Nat := (zs.length + 31) / 32
def pieces (zs : List Int) (k : Nat) : List X := (List.range k).map (piece zs)
theorem pieces_succ {zs : List Int} {k : Nat} : pieces zs (k + 1) = pieces zs k ++ [piece zs k] := by
  unfold pieces
  rw [List.range_succ, List.map_append]
  rfl
theorem pieces_flat {zs : List Int} : ∀ k, (pieces zs k).flatten = zs.take (32 * k)
  | 0 => by simp [pieces]
  | k + 1 => by
    rw [pieces_succ, List.flatten_append, pieces_flat k, piece, show 32 * (k + 1) = 32 * k + 32 by omega, List.take_add]
    simp
theorem pieces_all {zs : List Int} : (pieces zs (nPieces zs)).flatten = zs := by
  rw [pieces_flat, List.take_of_length_le (by unfold nPieces; omega)]
theorem pieces_len {zs : List Int} {k : Nat} : (pieces zs k).length = k := by simp [pieces]
theorem piece_len {zs : List Int} {k : Nat} (hk : k < nPieces zs) : 0 < (piece zs k).length ∧ (piece zs k).length ≤ 32 ∧ 32 * k + (piece zs k).length ≤ zs.length ∧ (piece zs k).length = min 32 (zs.length - 32 * k) := by
  unfold piece
  rw [List.length_take, List.length_drop]
  unfold nPieces at hk
  omega
section
variable {E : Env} {R Rz : List SProp} {w : World} {zs : List Int} {v : Value} {a : Option Addr} {n cap : Nat}
theorem Reads.sub {kd : IntKind} {lo m : Nat} (hv : Reads E R (.slice a n cap) kd zs) (hm : lo + m ≤ n) : Reads E R (.slice (a.map (·.add (lo * 1))) (lo + m - lo) (lo + m - lo)) kd ((zs.drop lo).take m) := fun w h => by
  obtain ⟨a2, cap2, e1, h1, h2, h3⟩ := hv w h
  cases e1
  refine ⟨_, _, by rw [List.length_take, List.length_drop, show min m (zs.length - lo) = lo + m - lo by omega], by simp; omega, by omega, fun j r hj => ?_⟩
  rw [List.getElem?_take] at hj
  split at hj
  · rw [List.getElem?_drop] at hj
    obtain ⟨a', e2, hc⟩ := h3 _ r hj
    refine ⟨a'.add (lo * 1), by rw [e2]; rfl, ?_⟩
    rw [Addr.add_add, Nat.mul_one]
    exact hc
  · cases hj
theorem Reads.weak {R' : List SProp} {kd : IntKind} (hv : Reads E R v kd zs) (h : ∀ w, SatL E w R' → SatL E w R) : Reads E R' v kd zs := fun w hw => hv w (h w hw)
theorem chunk_mk (h : SatL E w R) : Calls Try.prog 29 #[.slice a n cap, .int .i64 32] w (Ret fun u w' => ∃ c1 c2 : Nat, u = .func (.func 63) #[] #[.pointer (some ⟨c1, 0, none⟩), .pointer (some ⟨c2, 0, none⟩)] ∧
    SatL E w' (Cells c2 #[.int .i64 32] 3 :: Cells c1 #[.slice a n cap] 23 :: R)) := by
  refine calls_x Try.func29 rfl Try.ntmps29 rfl ?_
  refine xc_gen (fun g hg => ?_)
  have s0 := (hg 0).trans arg0
  have s1 := (hg 1).trans arg1
  clear hg
  refine xc_seq (fun K hK1 => ?_)
  refine xc_region ?_
  refine x_box1 h s0 rfl rfl ?_
  intro b2 w h
  refine x_box1 h (en rfl s1) rfl rfl ?_
  intro b3 w h
  refine x_val (r_assign ec) (nd_of rfl) rfl ?_
  refine xw_nil ?_
  refine hK1 _ _ ?_
  refine xc_gen (fun g hg => ?_)
  have s0 := (hg 0).trans (en rfl (en rfl (en rfl s0)))
  have s1 := (hg 1).trans (en rfl (en rfl (en rfl s1)))
  have s2 := (hg 2).trans (en rfl (en rfl es))
  have s3 := (hg 3).trans (en rfl es)
  have s4 := (hg 4).trans es
  clear hg
  refine xc_seq (fun K hK2 => ?_)
  refine xc_seq (fun K hK3 => ?_)
  refine xc_region ?_
  refine x_val (r_load h 0 rfl Try.isAgg3 s3 gc0) (nd_of rfl) rfl ?_
  refine x_val (r_lss es ec (decide_eq_false (by omega))) (nd_of rfl) rfl ?_
  refine xw_nil ?_
  refine hK3 _ _ ?_
  refine xc_gen (fun g hg => ?_)
  have s0 := (hg 0).trans (en rfl (en rfl s0))
  have s1 := (hg 1).trans (en rfl (en rfl s1))
  have s2 := (hg 2).trans (en rfl (en rfl s2))
  have s3 := (hg 3).trans (en rfl (en rfl s3))
  have s4 := (hg 4).trans (en rfl (en rfl s4))
  have s6 := (hg 6).trans es
  clear hg
  refine xc_cond s6 (fun hc => by cases hc) (fun _ => ?_)
  refine xc_skip ?_
  refine hK2 _ _ ?_
  refine xc_seq (fun K hK4 => ?_)
  refine xc_region ?_
  refine x_val (r_func .nil (.cons s2 (.cons s3 .nil))) (nd_of rfl) rfl ?_
  refine x_val (r_assign es) (nd_of rfl) rfl ?_
  refine xw_nil ?_
  refine hK4 _ _ ?_
  refine xc_gen (fun g hg => ?_)
  have s0 := (hg 0).trans (en rfl (en rfl s0))
  have s1 := (hg 1).trans (en rfl (en rfl s1))
  have s2 := (hg 2).trans (en rfl (en rfl s2))
  have s3 := (hg 3).trans (en rfl (en rfl s3))
  have s4 := (hg 4).trans es
  have s6 := (hg 6).trans (en rfl (en rfl s6))
  clear hg
  refine xc_ret ?_
  refine bodyR_1 rfl s4 ?_
  exact ⟨_, _, rfl, h⟩
theorem chunkit_t {y : Value} {IL : Nat → List SProp} {JL : List SProp} {c1 c2 k0 : Nat} (hv : Reads E Rz (.slice a n cap) .i32 zs) (hz0 : SatL E w Rz) (hb : zs.length ≤ 1000000) (hk0 : k0 ≤ nPieces zs)
    (hY : ∀ (M : List SProp) (k : Nat) (pv : Value) (w : World), k < nPieces zs → k ≤ k0 → Reads E Rz pv .i32 (piece zs k) → SatL E w (M ++ IL k) → FnOk Try.prog y [pv] w (fun u w' => u = .bool (decide (k < k0)) ∧ SatL E w' (M ++ (if k < k0 then IL (k + 1) else JL))))
    (h : SatL E w (Cells c2 #[.int .i64 32] 3 :: Cells c1 #[.slice a n cap] 23 :: IL 0)) :
    Calls Try.prog 63 #[y, .pointer (some ⟨c1, 0, none⟩), .pointer (some ⟨c2, 0, none⟩)] w (Ret fun _ w' => SatL E w' (Cells c2 #[.int .i64 32] 3 :: Cells c1 #[.slice a n cap] 23 :: (if k0 < nPieces zs then JL else IL k0))) := by
  obtain ⟨a', cap', e', hl1, hl2⟩ := hv.slice hz0
  cases e'
  refine calls_x Try.func63 rfl Try.ntmps63 rfl ?_
  refine xc_gen (fun g hg => ?_)
  have s0 := (hg 0).trans arg0
  have s1 := (hg 1).trans arg1
  have s2 := (hg 2).trans arg2
  clear hg
  refine xc_seq (fun K hK1 => ?_)
  refine xc_region ?_
  refine x_val (r_assign ec) (nd_of rfl) rfl ?_
  refine xw_nil ?_
  refine hK1 _ _ ?_
  refine xc_gen (fun g hg => ?_)
  have s0 := (hg 0).trans (en rfl s0)
  have s1 := (hg 1).trans (en rfl s1)
  have s2 := (hg 2).trans (en rfl s2)
  have s4 := (hg 4).trans es
  clear hg
  refine xc_block ?_
  obtain ⟨G2, hG2⟩ : ∃ g0 : Nat → Value, g0 = g := ⟨_, rfl⟩
  have zG2_0 : G2 0 = _ := (congrFun hG2 0).trans s0
  have zG2_1 : G2 1 = _ := (congrFun hG2 1).trans s1
  have zG2_2 : G2 2 = _ := (congrFun hG2 2).trans s2
  refine xc_loop (fun m f w => (∃ k : Nat, m = nPieces zs - k ∧ k ≤ k0 ∧ f 4 = .int .i64 ((32 * k : Nat) : Int) ∧ SatL E w (Cells c2 #[.int .i64 32] 3 :: Cells c1 #[.slice a zs.length cap] 23 :: IL k)) ∧ (f 0 = G2 0 ∧ f 1 = G2 1 ∧ f 2 = G2 2)) (nPieces zs) ⟨⟨0, by omega, by omega, s4, h⟩, ⟨congrFun hG2.symm 0, congrFun hG2.symm 1, congrFun hG2.symm 2⟩⟩ ?_
  rintro m g w ⟨⟨k, hm, hk, s4, h⟩, ⟨y0, y1, y2⟩⟩
  have s0 := y0.trans zG2_0
  have s1 := y1.trans zG2_1
  have s2 := y2.trans zG2_2
  refine xc_seq (fun K hK3 => ?_)
  refine xc_seq (fun K hK4 => ?_)
  refine xc_region ?_
  refine x_val (r_move s4) (nd_of rfl) rfl ?_
  refine x_val (r_load h 1 rfl Try.isAgg23 (en rfl s1) gc0) (nd_of rfl) rfl ?_
  refine x_val (r_len Try.underlying23 es) (nd_of rfl) rfl ?_
  refine x_val (r_lss (en rfl (en rfl es)) es rfl) (nd_of rfl) rfl ?_
  refine xw_nil ?_
  refine hK4 _ _ ?_
  refine xc_gen (fun g hg => ?_)
  have s0 := (hg 0).trans (en rfl (en rfl (en rfl (en rfl s0))))
  have s1 := (hg 1).trans (en rfl (en rfl (en rfl (en rfl s1))))
  have s2 := (hg 2).trans (en rfl (en rfl (en rfl (en rfl s2))))
  have s4 := (hg 4).trans (en rfl (en rfl (en rfl (en rfl s4))))
  have s9 := (hg 9).trans es
  clear hg
  refine xc_cond s9 (fun hc => ?_) (fun hc => ?_)
  ·
    refine xc_skip ?_
    refine hK3 _ _ ?_
    refine xc_seq (fun K hK5 => ?_)
    refine xc_block ?_
    refine xc_seq (fun K hK6 => ?_)
    have hlt : 32 * k < zs.length := by have := of_decide_eq_true hc; omega
    have hkn : k < nPieces zs := by unfold nPieces; omega
    obtain ⟨hp1, hp2, hp3, hp4⟩ := piece_len hkn
    refine xc_plan 7 [(0, 1), (1, 1), (2, 2), (3, 2), (4, 2), (5, 2), (6, 2)] (by kernel_rfl) rfl (by kernel_rfl) h ?_
    have h := h.drew
    refine xp_load (i := 0) rfl (fun W hW => r_load hW 0 rfl Try.isAgg3 s2 gc0) rfl (fun _ _ _ hh => by first | exact bodyR_np hh | exact bodyY_np hh | exact hh) ?_
    refine xp_load (i := 1) rfl (fun W hW => r_load hW 1 rfl Try.isAgg23 (en rfl s1) gc0) rfl (fun _ _ _ hh => by first | exact bodyR_np hh | exact bodyY_np hh | exact hh) ?_
    refine xp_read (i := 2) rfl (fun W => r_move (en rfl (en rfl s4))) rfl (fun _ _ _ hh => by first | exact bodyR_np hh | exact bodyY_np hh | exact hh) ?_
    refine xp_read (i := 3) rfl (fun W => r_sliceAnyFrom Try.underlying23 Try.sizeOf21 (en rfl es) es (by omega) hl1) rfl (fun _ _ _ hh => by first | exact bodyR_np hh | exact bodyY_np hh | exact hh) ?_
    refine xp_read (i := 4) rfl (fun W => r_len Try.underlying23 es) rfl (fun _ _ _ hh => by first | exact bodyR_np hh | exact bodyY_np hh | exact hh) ?_
    refine xp_read (i := 5) rfl (fun W => r_min (en rfl (en rfl (en rfl (en rfl es)))) es (show _ = (((piece zs k).length : Int) : Int) from by split <;> omega)) rfl (fun _ _ _ hh => by first | exact bodyR_np hh | exact bodyY_np hh | exact hh) ?_
    refine xp_read (i := 6) rfl (fun W => r_assign es) rfl (fun _ _ _ hh => by first | exact bodyR_np hh | exact bodyY_np hh | exact hh) ?_
    refine xp_nil ?_
    refine hK6 _ _ ?_
    refine xc_gen (fun g hg => ?_)
    have s0 := (hg 0).trans (en rfl (en rfl (en rfl (en rfl (en rfl (en rfl (en rfl s0)))))))
    have s1 := (hg 1).trans (en rfl (en rfl (en rfl (en rfl (en rfl (en rfl (en rfl s1)))))))
    have s2 := (hg 2).trans (en rfl (en rfl (en rfl (en rfl (en rfl (en rfl (en rfl s2)))))))
    have s4 := (hg 4).trans (en rfl (en rfl (en rfl (en rfl (en rfl (en rfl (en rfl s4)))))))
    have s5 := (hg 5).trans es
    have s9 := (hg 9).trans (en rfl (en rfl (en rfl (en rfl (en rfl (en rfl (en rfl s9)))))))
    clear hg
    rcases Nat.lt_or_ge k k0 with hk3 | hk3
    ·
      skip
      refine xc_seq (fun K hK7 => ?_)
      refine xc_region ?_
      refine x_val (r_move s0) (nd_of rfl) rfl ?_
      refine x_val (r_load h 1 rfl Try.isAgg23 (en rfl s1) gc0) (nd_of rfl) rfl ?_
      refine x_val (r_move (en rfl (en rfl s4))) (nd_of rfl) rfl ?_
      refine x_val (r_move (en rfl (en rfl (en rfl s4)))) (nd_of rfl) rfl ?_
      refine x_val (r_move (en rfl (en rfl (en rfl (en rfl s5))))) (nd_of rfl) rfl ?_
      refine x_val (r_add (en rfl es) es (show _ = (((32 * k + (piece zs k).length : Nat) : Int) : Int) from by omega) (by unfold I64; omega)) (nd_of rfl) rfl ?_
      refine x_val (r_move (en rfl (en rfl (en rfl (en rfl (en rfl (en rfl s4))))))) (nd_of rfl) rfl ?_
      refine x_val (r_move (en rfl (en rfl (en rfl (en rfl (en rfl (en rfl (en rfl s5)))))))) (nd_of rfl) rfl ?_
      refine x_val (r_add (en rfl es) es (show _ = (((32 * k + (piece zs k).length : Nat) : Int) : Int) from by omega) (by unfold I64; omega)) (nd_of rfl) rfl ?_
      refine x_val (r_slice3 Try.underlying23 Try.sizeOf21 (en rfl (en rfl (en rfl (en rfl (en rfl (en rfl (en rfl es))))))) (en rfl (en rfl (en rfl (en rfl (en rfl (en rfl es)))))) (en rfl (en rfl (en rfl es))) es (by omega) (by omega)) (nd_of rfl) rfl ?_
      have hpv := hv.sub (lo := 32 * k) (m := (piece zs k).length) (by omega)
      have hpe : (zs.drop (32 * k)).take (piece zs k).length = piece zs k := by rw [hp4]; unfold piece; rw [List.take_eq_take_iff, List.length_drop]; omega
      rw [hpe] at hpv
      have hY1 := hY [Cells c2 #[.int .i64 32] 3, Cells c1 #[.slice a zs.length cap] 23] k _ _ hkn hk hpv h
      simp only [decide_eq_true hk3, if_pos hk3] at hY1
      refine x_callY (en rfl (en rfl (en rfl (en rfl (en rfl (en rfl (en rfl (en rfl (en rfl es))))))))) (.cons es .nil) rfl hY1 ?_; rintro _ w ⟨rfl, h⟩
      refine x_val (r_not es rfl) (nd_of rfl) rfl ?_
      refine xw_nil ?_
      refine hK7 _ _ ?_
      refine xc_gen (fun g hg => ?_)
      have s0 := (hg 0).trans (en rfl (en rfl (en rfl (en rfl (en rfl (en rfl (en rfl (en rfl (en rfl (en rfl (en rfl (en rfl s0))))))))))))
      have s1 := (hg 1).trans (en rfl (en rfl (en rfl (en rfl (en rfl (en rfl (en rfl (en rfl (en rfl (en rfl (en rfl (en rfl s1))))))))))))
      have s2 := (hg 2).trans (en rfl (en rfl (en rfl (en rfl (en rfl (en rfl (en rfl (en rfl (en rfl (en rfl (en rfl (en rfl s2))))))))))))
      have s4 := (hg 4).trans (en rfl (en rfl (en rfl (en rfl (en rfl (en rfl (en rfl (en rfl (en rfl (en rfl (en rfl (en rfl s4))))))))))))
      have s5 := (hg 5).trans (en rfl (en rfl (en rfl (en rfl (en rfl (en rfl (en rfl (en rfl (en rfl (en rfl (en rfl (en rfl s5))))))))))))
      have s9 := (hg 9).trans (en rfl (en rfl (en rfl (en rfl (en rfl (en rfl (en rfl (en rfl (en rfl (en rfl (en rfl (en rfl s9))))))))))))
      have s30 := (hg 30).trans es
      clear hg
      refine xc_cond s30 (fun hc => by cases hc) (fun _ => ?_)
      refine xc_skip ?_
      refine hK5 _ _ ?_
      refine xc_region ?_
      refine x_val (r_move s4) (nd_of rfl) rfl ?_
      refine x_val (r_load h 0 rfl Try.isAgg3 (en rfl s2) gc0) (nd_of rfl) rfl ?_
      refine x_val (r_add (en rfl es) es (show _ = (((32 * (k + 1) : Nat) : Int) : Int) from by omega) (by unfold I64; omega)) (nd_of rfl) rfl ?_
      refine x_val (r_assign es) (nd_of rfl) rfl ?_
      refine xw_nil ?_
      exact ⟨nPieces zs - (k + 1), by omega, ⟨k + 1, rfl, by omega, es, h⟩, ⟨((en rfl (en rfl (en rfl (en rfl s0))))).trans zG2_0.symm, ((en rfl (en rfl (en rfl (en rfl s1))))).trans zG2_1.symm, ((en rfl (en rfl (en rfl (en rfl s2))))).trans zG2_2.symm⟩⟩
    ·
      skip
      refine xc_seq (fun K hK8 => ?_)
      refine xc_region ?_
      refine x_val (r_move s0) (nd_of rfl) rfl ?_
      refine x_val (r_load h 1 rfl Try.isAgg23 (en rfl s1) gc0) (nd_of rfl) rfl ?_
      refine x_val (r_move (en rfl (en rfl s4))) (nd_of rfl) rfl ?_
      refine x_val (r_move (en rfl (en rfl (en rfl s4)))) (nd_of rfl) rfl ?_
      refine x_val (r_move (en rfl (en rfl (en rfl (en rfl s5))))) (nd_of rfl) rfl ?_
      refine x_val (r_add (en rfl es) es (show _ = (((32 * k + (piece zs k).length : Nat) : Int) : Int) from by omega) (by unfold I64; omega)) (nd_of rfl) rfl ?_
      refine x_val (r_move (en rfl (en rfl (en rfl (en rfl (en rfl (en rfl s4))))))) (nd_of rfl) rfl ?_
      refine x_val (r_move (en rfl (en rfl (en rfl (en rfl (en rfl (en rfl (en rfl s5)))))))) (nd_of rfl) rfl ?_
      refine x_val (r_add (en rfl es) es (show _ = (((32 * k + (piece zs k).length : Nat) : Int) : Int) from by omega) (by unfold I64; omega)) (nd_of rfl) rfl ?_
      refine x_val (r_slice3 Try.underlying23 Try.sizeOf21 (en rfl (en rfl (en rfl (en rfl (en rfl (en rfl (en rfl es))))))) (en rfl (en rfl (en rfl (en rfl (en rfl (en rfl es)))))) (en rfl (en rfl (en rfl es))) es (by omega) (by omega)) (nd_of rfl) rfl ?_
      have hpv := hv.sub (lo := 32 * k) (m := (piece zs k).length) (by omega)
      have hpe : (zs.drop (32 * k)).take (piece zs k).length = piece zs k := by rw [hp4]; unfold piece; rw [List.take_eq_take_iff, List.length_drop]; omega
      rw [hpe] at hpv
      have hY1 := hY [Cells c2 #[.int .i64 32] 3, Cells c1 #[.slice a zs.length cap] 23] k _ _ hkn hk hpv h
      have hk4 : ¬ k < k0 := by omega
      simp only [decide_eq_false hk4, if_neg hk4] at hY1
      refine x_callY (en rfl (en rfl (en rfl (en rfl (en rfl (en rfl (en rfl (en rfl (en rfl es))))))))) (.cons es .nil) rfl hY1 ?_; rintro _ w ⟨rfl, h⟩
      refine x_val (r_not es rfl) (nd_of rfl) rfl ?_
      refine xw_nil ?_
      refine hK8 _ _ ?_
      refine xc_gen (fun g hg => ?_)
      have s0 := (hg 0).trans (en rfl (en rfl (en rfl (en rfl (en rfl (en rfl (en rfl (en rfl (en rfl (en rfl (en rfl (en rfl s0))))))))))))
      have s1 := (hg 1).trans (en rfl (en rfl (en rfl (en rfl (en rfl (en rfl (en rfl (en rfl (en rfl (en rfl (en rfl (en rfl s1))))))))))))
      have s2 := (hg 2).trans (en rfl (en rfl (en rfl (en rfl (en rfl (en rfl (en rfl (en rfl (en rfl (en rfl (en rfl (en rfl s2))))))))))))
      have s4 := (hg 4).trans (en rfl (en rfl (en rfl (en rfl (en rfl (en rfl (en rfl (en rfl (en rfl (en rfl (en rfl (en rfl s4))))))))))))
      have s5 := (hg 5).trans (en rfl (en rfl (en rfl (en rfl (en rfl (en rfl (en rfl (en rfl (en rfl (en rfl (en rfl (en rfl s5))))))))))))
      have s9 := (hg 9).trans (en rfl (en rfl (en rfl (en rfl (en rfl (en rfl (en rfl (en rfl (en rfl (en rfl (en rfl (en rfl s9))))))))))))
      have s30 := (hg 30).trans es
      clear hg
      refine xc_cond s30 (fun _ => ?_) (fun hc => by cases hc)
      refine xc_ret ?_
      refine bodyR_r0 rfl ?_
      rw [if_pos (by omega)]; exact h
  ·
    refine xc_exit ?_
    refine bodyR_0 rfl ?_
    have hkk : k = k0 := by have := of_decide_eq_false hc; unfold nPieces at hk0; omega
    subst hkk
    rw [if_neg (by have := of_decide_eq_false hc; unfold nPieces; omega)]; exact h
end
end Go.Proofs.Ytmfkhfmidnojhaa
