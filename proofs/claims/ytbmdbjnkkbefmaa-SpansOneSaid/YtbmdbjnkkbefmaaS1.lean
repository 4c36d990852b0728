/-
Spans: Splice, Over, At, Count.
-/
import Derived.Test.YtbmdbjnkkbefmaaS0
namespace Go.Proofs.Ytbmdbjnkkbefmaa
open Go Go.RowKit
section
variable {P : Program} {f : Nat → Value} {w : World} {d : Option Tmp} {ty : TypeId} {pos : String} {af : Array Edge} {g : Option (Tmp × Bool)}
theorem add_add (a : Addr) (m n : Nat) : (a.add m).add n = a.add (m + n) := by
  by_cases hm : m = 0
  · subst hm; rw [Nat.zero_add]; rfl
  · by_cases hn : n = 0
    · subst hn; rfl
    · unfold Addr.add
      rw [if_neg hm, if_neg hn, if_neg (by omega)]
      simp [Nat.add_assoc]
theorem r_loadAggAt {T : TypeId} {x : Operand} {a : Addr} {n : Nat} {cs : List Value} (ha : ∀ w, (isAgg T).run P w = .ok true w) (hs : ∀ w, (sizeOf T).run P w = .ok n w) (hx : ev f x = .pointer (some a)) (hn : cs.length = n) (hc : ∀ (j : Nat) (u : Value), cs[j]? = some u → w.cell? (a.add j) = some u) :
    (execOp (ev f) ⟨d, .load T x, ty, pos, af, g⟩).run P w = .ok (.value (.agg cs.toArray)) w := by
  subst hn
  have hl := run_loadCells_list (P := P) w a cs hc
  simp [execOp, hx, Instr.loadAt, Instr.sureAddr, loadVar, ha, hs, hl]
end
/-- spans as they are handed in -/
abbrev RS := Int × Int
def rawC (p : RS) : List Value := [.int .i64 p.1, .int .i64 p.2]
def rflat (l : List RS) : List Value := l.flatMap rawC
def RSlc (E : Env) (R : List SProp) (v : Value) (l : List RS) : Prop :=
  ∃ a cap, v = .slice a l.length cap ∧ ∀ w, SatL E w R → ∀ (k : Nat) (p : RS), l[k]? = some p → ∃ ad, a = some ad ∧ ∀ (j : Nat) (u : Value), (rawC p)[j]? = some u → w.cell? ((ad.add (k * 2)).add j) = some u
theorem RSlc.weak {E : Env} {R : List SProp} {A : SProp} {v : Value} {l : List RS} (h : RSlc E R v l) : RSlc E (A :: R) v l := by
  obtain ⟨a, cap, e, h1⟩ := h
  exact ⟨a, cap, e, fun w hw => h1 w hw.drop⟩
theorem RSlc.perm {E : Env} {R R' : List SProp} {v : Value} {l : List RS} (h : RSlc E R v l) (hp : ∀ w, SatL E w R' → SatL E w R) : RSlc E R' v l := by
  obtain ⟨a, cap, e, h1⟩ := h
  exact ⟨a, cap, e, fun w hw => h1 w (hp w hw)⟩
def badR (p : RS) : Bool := decide (p.1 < 0) || decide (p.2 < 0)
def toX (p : RS) : X := (p.1.toNat, p.2)
def sumR : List RS → Int
  | [] => 0
  | p :: l => p.1 + sumR l
theorem sumR_app : ∀ (a b : List RS), sumR (a ++ b) = sumR a + sumR b
  | [], b => by simp [sumR]
  | p :: a, b => by simp only [List.cons_append, sumR, sumR_app a b]; omega
theorem sumR_take {l : List RS} {k : Nat} {p : RS} (h : l[k]? = some p) : sumR (l.take (k + 1)) = sumR (l.take k) + p.1 := by
  rw [List.take_add_one, h, sumR_app]; simp [sumR]
theorem sumR_nonneg : ∀ {l : List RS}, (∀ p ∈ l, 0 ≤ p.1) → 0 ≤ sumR l
  | [], _ => Int.le_refl _
  | p :: l, h => by
    have := sumR_nonneg (l := l) (fun q hq => h q (by simp [hq]))
    have := h p (by simp)
    simp only [sumR]; omega
theorem sz_toX : ∀ {l : List RS}, (∀ p ∈ l, 0 ≤ p.1) → (sz (l.map toX) : Int) = sumR l
  | [], _ => rfl
  | p :: l, h => by
    have h1 := sz_toX (l := l) (fun q hq => h q (by simp [hq]))
    have h2 := h p (by simp)
    simp only [List.map_cons, sz, sumR, xS, toX]
    omega
theorem rflat_toX : ∀ {l : List RS}, (∀ p ∈ l, 0 ≤ p.1) → flat (l.map toX) = rflat l
  | [], _ => rfl
  | p :: l, h => by
    have h1 := rflat_toX (l := l) (fun q hq => h q (by simp [hq]))
    have h2 := h p (by simp)
    have e : ((p.1.toNat : Nat) : Int) = p.1 := by omega
    simp only [flat, rflat, List.map_cons, List.flatMap_cons] at h1 ⊢
    rw [h1]
    simp [rawC, xC, toX, e]
theorem RSlc.slc {E : Env} {R : List SProp} {v : Value} {l : List RS} (h : RSlc E R v l) (hg : ∀ p ∈ l, 0 ≤ p.1 ∧ p.1 ≤ 1000000000000) : Slc E R v (l.map toX) := by
  obtain ⟨a, cap, rfl, h1⟩ := h
  have hnn : ∀ p ∈ l, 0 ≤ p.1 := fun p hp => (hg p hp).1
  refine ⟨a, cap, by rw [List.length_map], fun x hx => ?_, fun w hw => ?_⟩
  · obtain ⟨p, hp, rfl⟩ := List.mem_map.1 hx
    have := hg p hp
    show p.1.toNat ≤ 1000000000000
    omega
  · cases l with
    | nil => exact .inl ⟨rfl, rfl⟩
    | cons p0 l' =>
      obtain ⟨ad, rfl, _⟩ := h1 w hw 0 p0 rfl
      refine .inr ⟨ad, rfl, fun j u hj => ?_⟩
      rw [rflat_toX hnn] at hj
      have hl2 : (rflat (p0 :: l')).length = (p0 :: l').length * 2 := flat_len rawC 2 _ fun q _ => rfl
      have hjl := (List.getElem?_eq_some_iff.1 hj).1
      have hk : j / 2 < (p0 :: l').length := by omega
      obtain ⟨q, hq⟩ : ∃ q, (p0 :: l')[j / 2]? = some q := ⟨_, List.getElem?_eq_getElem hk⟩
      have hg2 := flat_get rawC 2 (p0 :: l') (fun _ _ => rfl) (j / 2) (j % 2) q hq (by omega)
      rw [show j / 2 * 2 + j % 2 = j by omega] at hg2
      obtain ⟨ad2, e2, h3⟩ := h1 w hw (j / 2) q hq
      cases e2
      have h4 := h3 (j % 2) u (by rw [← hg2]; exact hj)
      rw [add_add, show j / 2 * 2 + j % 2 = j by omega] at h4
      exact h4
section
variable {E : Env} {R : List SProp} {w : World} {b bt ba B B' : Nat} {xs l : List X} {v : Value} {ps : List RS}
theorem bad_ok {p : RS} (h : SatL E w R) : Calls Try.prog 23 #[.agg (rawC p).toArray] w (Ret fun u w' => u = .bool (badR p) ∧ SatL E w' R) := by
  unfold rawC badR
  by_cases h0 : p.1 < 0
  · rw [decide_eq_true h0]
    refine calls_x Try.func23 rfl Try.ntmps23 rfl ?_
    refine xc_gen (fun g hg => ?_)
    have s0 := (hg 0).trans arg0
    clear hg
    refine xc_seq (fun K hK1 => ?_)
    refine xc_region ?_
    refine x_boxA h s0 rfl ?_
    intro b1 w h
    refine x_val (r_assign ec) (nd_of rfl) rfl ?_
    refine xw_nil ?_
    refine hK1 _ _ ?_
    refine xc_gen (fun g hg => ?_)
    have s0 := (hg 0).trans (en rfl (en rfl s0))
    have s1 := (hg 1).trans (en rfl es)
    have s2 := (hg 2).trans es
    clear hg
    refine xc_seq (fun K hK2 => ?_)
    refine xc_region ?_
    refine x_val (r_fieldAddr (o' := 0) Try.underlying34 rfl Try.sizeOf3 rfl s1 rfl) (nd_of rfl) rfl ?_
    refine x_val (r_load h 0 rfl Try.isAgg3 es gc0) (nd_of rfl) rfl ?_
    refine x_val (r_lss es ec (decide_eq_true (by omega))) (nd_of rfl) rfl ?_
    refine x_val (r_move es) (nd_of rfl) rfl ?_
    refine x_pass (d := 6) rfl rfl es rfl ?_
    refine x_pass (d := 6) rfl rfl (en rfl es) rfl ?_
    refine x_pass (d := 6) rfl rfl (en rfl (en rfl es)) rfl ?_
    refine x_val (r_pick_t (en rfl (en rfl (en rfl es))) ec) (nd_of rfl) rfl ?_
    refine x_val (r_assign es) (nd_of rfl) rfl ?_
    refine xw_nil ?_
    refine hK2 _ _ ?_
    refine xc_gen (fun g hg => ?_)
    have s0 := (hg 0).trans (en rfl (en rfl (en rfl (en rfl (en rfl (en rfl (en rfl (en rfl (en rfl s0)))))))))
    have s1 := (hg 1).trans (en rfl (en rfl (en rfl (en rfl (en rfl (en rfl (en rfl (en rfl (en rfl s1)))))))))
    have s2 := (hg 2).trans es
    clear hg
    refine xc_ret ?_
    refine bodyR_1 rfl s2 ?_
    exact ⟨rfl, h.drop⟩
  · rw [decide_eq_false h0]
    refine calls_x Try.func23 rfl Try.ntmps23 rfl ?_
    refine xc_gen (fun g hg => ?_)
    have s0 := (hg 0).trans arg0
    clear hg
    refine xc_seq (fun K hK1 => ?_)
    refine xc_region ?_
    refine x_boxA h s0 rfl ?_
    intro b1 w h
    refine x_val (r_assign ec) (nd_of rfl) rfl ?_
    refine xw_nil ?_
    refine hK1 _ _ ?_
    refine xc_gen (fun g hg => ?_)
    have s0 := (hg 0).trans (en rfl (en rfl s0))
    have s1 := (hg 1).trans (en rfl es)
    have s2 := (hg 2).trans es
    clear hg
    refine xc_seq (fun K hK2 => ?_)
    refine xc_region ?_
    refine x_val (r_fieldAddr (o' := 0) Try.underlying34 rfl Try.sizeOf3 rfl s1 rfl) (nd_of rfl) rfl ?_
    refine x_val (r_load h 0 rfl Try.isAgg3 es gc0) (nd_of rfl) rfl ?_
    refine x_val (r_lss es ec (decide_eq_false (by omega))) (nd_of rfl) rfl ?_
    refine x_val (r_move es) (nd_of rfl) rfl ?_
    refine x_take (d := 6) rfl rfl es ?_
    refine x_val (r_fieldAddr (o' := 1) Try.underlying34 rfl Try.sizeOf3 rfl (en rfl (en rfl (en rfl (en rfl s1)))) rfl) (nd_of rfl) rfl ?_
    refine x_take (d := 6) rfl rfl (en rfl es) ?_
    refine x_val (r_load h 0 rfl Try.isAgg3 es gc1) (nd_of rfl) rfl ?_
    refine x_take (d := 6) rfl rfl (en rfl (en rfl es)) ?_
    refine x_val (r_lss es ec rfl) (nd_of rfl) rfl ?_
    refine x_val (r_pick_f (en rfl (en rfl (en rfl es))) es) (nd_of rfl) rfl ?_
    refine x_val (r_assign es) (nd_of rfl) rfl ?_
    refine xw_nil ?_
    refine hK2 _ _ ?_
    refine xc_gen (fun g hg => ?_)
    have s0 := (hg 0).trans (en rfl (en rfl (en rfl (en rfl (en rfl (en rfl (en rfl (en rfl (en rfl s0)))))))))
    have s1 := (hg 1).trans (en rfl (en rfl (en rfl (en rfl (en rfl (en rfl (en rfl (en rfl (en rfl s1)))))))))
    have s2 := (hg 2).trans es
    clear hg
    refine xc_ret ?_
    refine bodyR_1 rfl s2 ?_
    exact ⟨rfl, h.drop⟩
theorem index_ok (hv : RSlc E R v ps) (hb : ps.length ≤ 1000000000) (h : SatL E w R) : Calls Try.prog 35 #[v, .func (.func 23) #[] #[]] w (Ret fun u w' => ∃ r : Int, u = .int .i64 r ∧ decide (0 ≤ r) = ps.any badR ∧ SatL E w' R) := by
  obtain ⟨a, cap, rfl, hrd⟩ := hv
  refine calls_x Try.func35 rfl Try.ntmps35 rfl ?_
  refine xc_gen (fun g hg => ?_)
  have s0 := (hg 0).trans arg0
  have s1 := (hg 1).trans arg1
  clear hg
  refine xc_seq (fun K hK1 => ?_)
  refine xc_region ?_
  refine x_val (r_assign ec) (nd_of rfl) rfl ?_
  refine xw_nil ?_
  refine hK1 _ _ ?_
  refine xc_gen (fun g hg => ?_)
  have s0 := (hg 0).trans (en rfl s0)
  have s1 := (hg 1).trans (en rfl s1)
  have s4 := (hg 4).trans es
  clear hg
  refine xc_seq (fun K hK2 => ?_)
  refine xc_seq (fun K hK3 => ?_)
  refine xc_region ?_
  refine x_val (r_move s0) (nd_of rfl) rfl ?_
  refine x_val (r_len Try.underlying26 es) (nd_of rfl) rfl ?_
  refine x_val (r_move ec) (nd_of rfl) rfl ?_
  refine xw_nil ?_
  refine hK3 _ _ ?_
  refine xc_gen (fun g hg => ?_)
  have s0 := (hg 0).trans (en rfl (en rfl (en rfl s0)))
  have s1 := (hg 1).trans (en rfl (en rfl (en rfl s1)))
  have s4 := (hg 4).trans (en rfl (en rfl (en rfl s4)))
  have s7 := (hg 7).trans (en rfl es)
  have s8 := (hg 8).trans es
  clear hg
  refine xc_block ?_
  obtain ⟨G4, hG4⟩ : ∃ g0 : Nat → Value, g0 = g := ⟨_, rfl⟩
  have zG4_0 : G4 0 = _ := (congrFun hG4 0).trans s0
  have zG4_1 : G4 1 = _ := (congrFun hG4 1).trans s1
  have zG4_7 : G4 7 = _ := (congrFun hG4 7).trans s7
  refine xc_loop (fun m f w => (∃ k : Nat, m = ps.length - k ∧ k ≤ ps.length ∧ (ps.take k).any badR = false ∧ f 8 = .int .i64 (k : Int) ∧ SatL E w R) ∧ (f 0 = G4 0 ∧ f 1 = G4 1 ∧ f 7 = G4 7)) (ps.length) ⟨⟨0, by omega, by omega, rfl, s8, h⟩, ⟨congrFun hG4.symm 0, congrFun hG4.symm 1, congrFun hG4.symm 7⟩⟩ ?_
  rintro m g w ⟨⟨k, hm, hk, hno, s8, h⟩, ⟨y0, y1, y7⟩⟩
  have s0 := y0.trans zG4_0
  have s1 := y1.trans zG4_1
  have s7 := y7.trans zG4_7
  refine xc_seq (fun K hK5 => ?_)
  refine xc_region ?_
  refine x_val (r_lss s8 s7 rfl) (nd_of rfl) rfl ?_
  refine xw_nil ?_
  refine hK5 _ _ ?_
  refine xc_gen (fun g hg => ?_)
  have s0 := (hg 0).trans (en rfl s0)
  have s1 := (hg 1).trans (en rfl s1)
  have s7 := (hg 7).trans (en rfl s7)
  have s8 := (hg 8).trans (en rfl s8)
  have s9 := (hg 9).trans es
  clear hg
  refine xc_seq (fun K hK6 => ?_)
  refine xc_cond s9 (fun hc => ?_) (fun hc => ?_)
  ·
    refine xc_skip ?_
    refine hK6 _ _ ?_
    refine xc_seq (fun K hK7 => ?_)
    refine xc_block ?_
    refine xc_seq (fun K hK8 => ?_)
    have hi : k < ps.length := by have := of_decide_eq_true hc; omega
    obtain ⟨p, hp⟩ : ∃ p, ps[k]? = some p := ⟨_, List.getElem?_eq_getElem hi⟩
    obtain ⟨ad, rfl, hcell⟩ := hrd _ h k p hp
    refine xc_region ?_
    refine x_val (r_move s8) (nd_of rfl) rfl ?_
    refine x_val (r_assign es) (nd_of rfl) rfl ?_
    refine xw_nil ?_
    refine hK8 _ _ ?_
    refine xc_gen (fun g hg => ?_)
    have s0 := (hg 0).trans (en rfl (en rfl s0))
    have s1 := (hg 1).trans (en rfl (en rfl s1))
    have s5 := (hg 5).trans es
    have s7 := (hg 7).trans (en rfl (en rfl s7))
    have s8 := (hg 8).trans (en rfl (en rfl s8))
    have s9 := (hg 9).trans (en rfl (en rfl s9))
    clear hg
    refine xc_seq (fun K hK9 => ?_)
    refine xc_region ?_
    refine x_val (r_move s1) (nd_of rfl) rfl ?_
    refine x_val (r_move (en rfl s0)) (nd_of rfl) rfl ?_
    refine x_val (r_move (en rfl (en rfl s5))) (nd_of rfl) rfl ?_
    refine x_val (r_indexAny Try.underlying26 Try.sizeOf34 (en rfl es) es (by omega) (by omega)) (nd_of rfl) rfl ?_
    refine x_val (r_loadAggAt Try.isAgg34 Try.sizeOf34 es rfl hcell) (nd_of rfl) rfl ?_
    refine x_enter (r_callv Try.call23 (en rfl (en rfl (en rfl (en rfl es)))) (.cons es .nil)) (nd_of rfl) rfl (bad_ok (p := p) h) ?_
    rintro _ w ⟨rfl, h⟩
    refine xw_nil ?_
    refine hK9 _ _ ?_
    refine xc_gen (fun g hg => ?_)
    have s0 := (hg 0).trans (en rfl (en rfl (en rfl (en rfl (en rfl (en rfl s0))))))
    have s1 := (hg 1).trans (en rfl (en rfl (en rfl (en rfl (en rfl (en rfl s1))))))
    have s5 := (hg 5).trans (en rfl (en rfl (en rfl (en rfl (en rfl (en rfl s5))))))
    have s7 := (hg 7).trans (en rfl (en rfl (en rfl (en rfl (en rfl (en rfl s7))))))
    have s8 := (hg 8).trans (en rfl (en rfl (en rfl (en rfl (en rfl (en rfl s8))))))
    have s9 := (hg 9).trans (en rfl (en rfl (en rfl (en rfl (en rfl (en rfl s9))))))
    have s16 := (hg 16).trans es
    clear hg
    refine xc_cond s16 (fun hc => ?_) (fun hc => ?_)
    ·
      refine xc_seq (fun K hK10 => ?_)
      refine xc_region ?_
      refine x_val (r_move s5) (nd_of rfl) rfl ?_
      refine x_val (r_assign es) (nd_of rfl) rfl ?_
      refine xw_nil ?_
      refine hK10 _ _ ?_
      refine xc_gen (fun g hg => ?_)
      have s0 := (hg 0).trans (en rfl (en rfl s0))
      have s1 := (hg 1).trans (en rfl (en rfl s1))
      have s4 := (hg 4).trans es
      have s5 := (hg 5).trans (en rfl (en rfl s5))
      have s7 := (hg 7).trans (en rfl (en rfl s7))
      have s8 := (hg 8).trans (en rfl (en rfl s8))
      have s9 := (hg 9).trans (en rfl (en rfl s9))
      have s16 := (hg 16).trans (en rfl (en rfl s16))
      clear hg
      refine xc_ret ?_
      refine bodyR_1 rfl s4 ?_
      exact ⟨k, rfl, by rw [decide_eq_true (by omega)]; exact (List.any_eq_true.2 ⟨p, List.mem_of_getElem? hp, hc⟩).symm, h⟩
    ·
      refine xc_skip ?_
      refine hK7 _ _ ?_
      refine xc_region ?_
      refine x_val (r_add s8 ec (show _ = (((k + 1 : Nat) : Int) : Int) from by omega) (by unfold I64; omega)) (nd_of rfl) rfl ?_
      refine x_val (r_move es) (nd_of rfl) rfl ?_
      refine xw_nil ?_
      exact ⟨ps.length - (k + 1), by omega, ⟨k + 1, rfl, by omega, by rw [List.take_add_one, hp, List.any_append, hno]; simp [hc], es, h⟩, ⟨((en rfl (en rfl s0))).trans zG4_0.symm, ((en rfl (en rfl s1))).trans zG4_1.symm, ((en rfl (en rfl s7))).trans zG4_7.symm⟩⟩
  ·
    refine xc_exit ?_
    refine hK2 _ _ ?_
    refine xc_seq (fun K hK11 => ?_)
    obtain rfl : k = ps.length := by have := of_decide_eq_false hc; omega
    refine xc_region ?_
    refine x_val (r_assign ec) (nd_of rfl) rfl ?_
    refine xw_nil ?_
    refine hK11 _ _ ?_
    refine xc_gen (fun g hg => ?_)
    have s0 := (hg 0).trans (en rfl s0)
    have s1 := (hg 1).trans (en rfl s1)
    have s4 := (hg 4).trans es
    have s7 := (hg 7).trans (en rfl s7)
    have s8 := (hg 8).trans (en rfl s8)
    have s9 := (hg 9).trans (en rfl s9)
    clear hg
    refine xc_ret ?_
    refine bodyR_1 rfl s4 ?_
    exact ⟨-1, rfl, (by rw [List.take_length] at hno; rw [hno]; rfl), h⟩
theorem contains_ok (hv : RSlc E R v ps) (hb : ps.length ≤ 1000000000) (h : SatL E w R) : Calls Try.prog 22 #[v, .func (.func 23) #[] #[]] w (Ret fun u w' => u = .bool (ps.any badR) ∧ SatL E w' R) := by
  refine calls_x Try.func22 rfl Try.ntmps22 rfl ?_
  refine xc_gen (fun g hg => ?_)
  have s0 := (hg 0).trans arg0
  have s1 := (hg 1).trans arg1
  clear hg
  refine xc_seq (fun K hK1 => ?_)
  refine xc_region ?_
  refine x_val (r_assign ec) (nd_of rfl) rfl ?_
  refine xw_nil ?_
  refine hK1 _ _ ?_
  refine xc_gen (fun g hg => ?_)
  have s0 := (hg 0).trans (en rfl s0)
  have s1 := (hg 1).trans (en rfl s1)
  have s4 := (hg 4).trans es
  clear hg
  refine xc_seq (fun K hK2 => ?_)
  refine xc_region ?_
  refine x_val (r_move s0) (nd_of rfl) rfl ?_
  refine x_val (r_move (en rfl s1)) (nd_of rfl) rfl ?_
  refine x_enter (r_call Try.call35 (.cons (en rfl es) (.cons es .nil))) (nd_of rfl) rfl (index_ok hv hb h) ?_
  rintro _ w ⟨r, rfl, hr, h⟩
  refine x_val (r_geq es ec rfl) (nd_of rfl) rfl ?_
  refine x_val (r_assign es) (nd_of rfl) rfl ?_
  refine xw_nil ?_
  refine hK2 _ _ ?_
  refine xc_gen (fun g hg => ?_)
  have s0 := (hg 0).trans (en rfl (en rfl (en rfl (en rfl (en rfl s0)))))
  have s1 := (hg 1).trans (en rfl (en rfl (en rfl (en rfl (en rfl s1)))))
  have s4 := (hg 4).trans es
  clear hg
  refine xc_ret ?_
  refine bodyR_1 rfl s4 ?_
  exact ⟨by rw [← hr], h⟩
/-- what Splice answers, and what it leaves -/
def spliceE (xs : List X) (i j : Int) (ps : List RS) : Int :=
  if ps.any badR = true then 3 else if ¬ isPart (sz xs) i j then 5 else if 536870912 - (sz xs : Int) + j - i < sumR ps then 8 else 0
def spliceS (xs : List X) (i j : Int) (ps : List RS) : List X := if spliceE xs i j ps = 0 then replL xs i.toNat j.toNat (ps.map toX) else xs
theorem splice_nil {i j : Int} (h : SatL E w R) : Calls Try.prog 10 #[.pointer none, .int .i64 i, .int .i64 j, v] w (Ret fun u w' => u = .int .i64 1 ∧ SatL E w' R) := by
  refine calls_x Try.func10 rfl Try.ntmps10 rfl ?_
  refine xc_gen (fun g hg => ?_)
  have s0 := (hg 0).trans arg0
  have s1 := (hg 1).trans arg1
  have s2 := (hg 2).trans arg2
  have s3 := (hg 3).trans arg3
  clear hg
  refine xc_seq (fun K hK1 => ?_)
  refine xc_region ?_
  refine x_val (r_assign ec) (nd_of rfl) rfl ?_
  refine xw_nil ?_
  refine hK1 _ _ ?_
  refine xc_gen (fun g hg => ?_)
  have s0 := (hg 0).trans (en rfl s0)
  have s1 := (hg 1).trans (en rfl s1)
  have s2 := (hg 2).trans (en rfl s2)
  have s3 := (hg 3).trans (en rfl s3)
  have s8 := (hg 8).trans es
  clear hg
  refine xc_seq (fun K hK2 => ?_)
  refine xc_seq (fun K hK3 => ?_)
  refine xc_region ?_
  refine x_val (r_move s0) (nd_of rfl) rfl ?_
  refine x_val (r_eqnil Try.underlying23 es ec (r := true) rfl) (nd_of rfl) rfl ?_
  refine xw_nil ?_
  refine hK3 _ _ ?_
  refine xc_gen (fun g hg => ?_)
  have s0 := (hg 0).trans (en rfl (en rfl s0))
  have s1 := (hg 1).trans (en rfl (en rfl s1))
  have s2 := (hg 2).trans (en rfl (en rfl s2))
  have s3 := (hg 3).trans (en rfl (en rfl s3))
  have s8 := (hg 8).trans (en rfl (en rfl s8))
  have s14 := (hg 14).trans es
  clear hg
  refine xc_cond s14 (fun _ => ?_) (fun hc => by cases hc)
  refine xc_seq (fun K hK4 => ?_)
  refine xc_region ?_
  refine x_val (r_assign ec) (nd_of rfl) rfl ?_
  refine xw_nil ?_
  refine hK4 _ _ ?_
  refine xc_gen (fun g hg => ?_)
  have s0 := (hg 0).trans (en rfl s0)
  have s1 := (hg 1).trans (en rfl s1)
  have s2 := (hg 2).trans (en rfl s2)
  have s3 := (hg 3).trans (en rfl s3)
  have s8 := (hg 8).trans es
  have s14 := (hg 14).trans (en rfl s14)
  clear hg
  refine xc_ret ?_
  refine bodyR_1 rfl s8 ?_
  exact ⟨rfl, h⟩
theorem sumR_le {l : List RS} (h : ∀ p ∈ l, 0 ≤ p.1) (k : Nat) : sumR (l.take k) ≤ sumR l := by
  have e := sumR_app (l.take k) (l.drop k)
  rw [List.take_append_drop] at e
  have := sumR_nonneg (l := l.drop k) (fun p hp => h p (List.mem_of_mem_drop hp))
  omega
theorem any_bad (h : ps.any badR = false) : ∀ p ∈ ps, 0 ≤ p.1 ∧ 0 ≤ p.2 := fun p hp => by
  have h1 := List.any_eq_false.1 h p hp
  simp only [badR, Bool.or_eq_true, decide_eq_true_eq, not_or] at h1
  omega
theorem each_le (h : ∀ p ∈ ps, 0 ≤ p.1) {p : RS} (hp : p ∈ ps) : p.1 ≤ sumR ps := by
  obtain ⟨k, hk, rfl⟩ := List.mem_iff_getElem.1 hp
  have hg : ps[k]? = some ps[k] := List.getElem?_eq_getElem hk
  have h1 := sumR_take hg
  have h2 := sumR_le h (k + 1)
  have h3 := sumR_nonneg (l := ps.take k) (fun p hp => h p (List.mem_of_mem_take hp))
  omega
theorem splice_o {i j : Int} (hv : RSlc E R v ps) (hsz : sz xs ≤ 536870912) (hN : ∀ p ∈ ps, I64 p.1) (hB : xs.length + ps.length + 4 ≤ B') (hBB : B ≤ B') (hB' : B' ≤ 100000000) (h : SatL E w (ObjO b xs B :: R)) :
    Calls Try.prog 10 #[pT b, .int .i64 i, .int .i64 j, v] w (Ret fun u w' => u = .int .i64 (spliceE xs i j ps) ∧ SatL E w' (ObjO b (spliceS xs i j ps) B' :: R)) := by
  have hmono : ∀ {w}, SatL E w (ObjO b xs B :: R) → SatL E w (ObjO b xs B' :: R) := fun h => by
    rcases h.openObj with ⟨e, h1⟩ | ⟨bt, ba, h1⟩
    · rw [e]; exact SatL.closeObj0 h1
    · exact SatL.closeObj ((h1.f1.treeMono hBB).f1)
  obtain ⟨bad, hbad⟩ : ∃ bad, ps.any badR = bad := ⟨_, rfl⟩
  cases bad with
  | true =>
    have e3 : spliceE xs i j ps = 3 := by unfold spliceE; rw [if_pos hbad]
    have es3 : spliceS xs i j ps = xs := by unfold spliceS; rw [e3]; rfl
    rw [e3, es3]
    refine calls_x Try.func10 rfl Try.ntmps10 rfl ?_
    refine xc_gen (fun g hg => ?_)
    have s0 := (hg 0).trans arg0
    have s1 := (hg 1).trans arg1
    have s2 := (hg 2).trans arg2
    have s3 := (hg 3).trans arg3
    clear hg
    refine xc_seq (fun K hK1 => ?_)
    refine xc_region ?_
    refine x_val (r_assign ec) (nd_of rfl) rfl ?_
    refine xw_nil ?_
    refine hK1 _ _ ?_
    refine xc_gen (fun g hg => ?_)
    have s0 := (hg 0).trans (en rfl s0)
    have s1 := (hg 1).trans (en rfl s1)
    have s2 := (hg 2).trans (en rfl s2)
    have s3 := (hg 3).trans (en rfl s3)
    have s8 := (hg 8).trans es
    clear hg
    refine xc_seq (fun K hK2 => ?_)
    refine xc_seq (fun K hK3 => ?_)
    refine xc_region ?_
    refine x_val (r_move s0) (nd_of rfl) rfl ?_
    refine x_val (r_eqnil Try.underlying23 es ec (r := false) rfl) (nd_of rfl) rfl ?_
    refine xw_nil ?_
    refine hK3 _ _ ?_
    refine xc_gen (fun g hg => ?_)
    have s0 := (hg 0).trans (en rfl (en rfl s0))
    have s1 := (hg 1).trans (en rfl (en rfl s1))
    have s2 := (hg 2).trans (en rfl (en rfl s2))
    have s3 := (hg 3).trans (en rfl (en rfl s3))
    have s8 := (hg 8).trans (en rfl (en rfl s8))
    have s14 := (hg 14).trans es
    clear hg
    refine xc_cond s14 (fun hc => by cases hc) (fun _ => ?_)
    refine xc_skip ?_
    refine hK2 _ _ ?_
    refine xc_seq (fun K hK4 => ?_)
    refine xc_seq (fun K hK5 => ?_)
    refine xc_region ?_
    refine x_val (r_move s3) (nd_of rfl) rfl ?_
    refine x_enter (r_call Try.call22 (.cons es (.cons ef .nil))) (nd_of rfl) rfl (contains_ok hv.weak (by omega) h) ?_
    rintro _ w ⟨rfl, h⟩
    refine xw_nil ?_
    refine hK5 _ _ ?_
    refine xc_gen (fun g hg => ?_)
    have s0 := (hg 0).trans (en rfl (en rfl s0))
    have s1 := (hg 1).trans (en rfl (en rfl s1))
    have s2 := (hg 2).trans (en rfl (en rfl s2))
    have s3 := (hg 3).trans (en rfl (en rfl s3))
    have s8 := (hg 8).trans (en rfl (en rfl s8))
    have s14 := (hg 14).trans (en rfl (en rfl s14))
    have s16 := (hg 16).trans es
    clear hg
    refine xc_cond s16 (fun _ => ?_) (fun hc => absurd hc (by simp [hbad]))
    refine xc_seq (fun K hK6 => ?_)
    refine xc_region ?_
    refine x_val (r_assign ec) (nd_of rfl) rfl ?_
    refine xw_nil ?_
    refine hK6 _ _ ?_
    refine xc_gen (fun g hg => ?_)
    have s0 := (hg 0).trans (en rfl s0)
    have s1 := (hg 1).trans (en rfl s1)
    have s2 := (hg 2).trans (en rfl s2)
    have s3 := (hg 3).trans (en rfl s3)
    have s8 := (hg 8).trans es
    have s14 := (hg 14).trans (en rfl s14)
    have s16 := (hg 16).trans (en rfl s16)
    clear hg
    refine xc_ret ?_
    refine bodyR_1 rfl s8 ?_
    exact ⟨rfl, hmono h⟩
  | false =>
    have hg := any_bad hbad
    have hnn : ∀ p ∈ ps, 0 ≤ p.1 := fun p hp => (hg p hp).1
    by_cases hpart : isPart (sz xs) i j
    · have hpart2 := hpart
      obtain ⟨h0, h1, h2⟩ := hpart
      obtain ⟨ni, rfl⟩ := Int.eq_ofNat_of_zero_le h0
      obtain ⟨nj, rfl⟩ := Int.eq_ofNat_of_zero_le (Int.le_trans h0 h1)
      have e0 : spliceE xs ni nj ps = if 536870912 - (sz xs : Int) + nj - ni < sumR ps then 8 else 0 := by
        unfold spliceE; rw [if_neg (by rw [hbad]; decide), if_neg (fun hh => hh hpart2)]
      obtain ⟨a, cap, hvv, hrd⟩ := hv
      have hv2 : RSlc E R v ps := ⟨a, cap, hvv, hrd⟩
      subst hvv
      obtain ⟨lt, hlt⟩ : ∃ lt : Int, lt = 536870912 - (sz xs : Int) + nj - ni := ⟨_, rfl⟩
      rw [← hlt] at e0
      refine calls_x Try.func10 rfl Try.ntmps10 rfl ?_
      refine xc_gen (fun g hg => ?_)
      have s0 := (hg 0).trans arg0
      have s1 := (hg 1).trans arg1
      have s2 := (hg 2).trans arg2
      have s3 := (hg 3).trans arg3
      clear hg
      refine xc_seq (fun K hK1 => ?_)
      refine xc_region ?_
      refine x_val (r_assign ec) (nd_of rfl) rfl ?_
      refine xw_nil ?_
      refine hK1 _ _ ?_
      refine xc_gen (fun g hg => ?_)
      have s0 := (hg 0).trans (en rfl s0)
      have s1 := (hg 1).trans (en rfl s1)
      have s2 := (hg 2).trans (en rfl s2)
      have s3 := (hg 3).trans (en rfl s3)
      have s8 := (hg 8).trans es
      clear hg
      refine xc_seq (fun K hK2 => ?_)
      refine xc_seq (fun K hK3 => ?_)
      refine xc_region ?_
      refine x_val (r_move s0) (nd_of rfl) rfl ?_
      refine x_val (r_eqnil Try.underlying23 es ec (r := false) rfl) (nd_of rfl) rfl ?_
      refine xw_nil ?_
      refine hK3 _ _ ?_
      refine xc_gen (fun g hg => ?_)
      have s0 := (hg 0).trans (en rfl (en rfl s0))
      have s1 := (hg 1).trans (en rfl (en rfl s1))
      have s2 := (hg 2).trans (en rfl (en rfl s2))
      have s3 := (hg 3).trans (en rfl (en rfl s3))
      have s8 := (hg 8).trans (en rfl (en rfl s8))
      have s14 := (hg 14).trans es
      clear hg
      refine xc_cond s14 (fun hc => by cases hc) (fun _ => ?_)
      refine xc_skip ?_
      refine hK2 _ _ ?_
      refine xc_seq (fun K hK4 => ?_)
      refine xc_seq (fun K hK5 => ?_)
      refine xc_region ?_
      refine x_val (r_move s3) (nd_of rfl) rfl ?_
      refine x_enter (r_call Try.call22 (.cons es (.cons ef .nil))) (nd_of rfl) rfl (contains_ok hv2.weak (by omega) h) ?_
      rintro _ w ⟨rfl, h⟩
      refine xw_nil ?_
      refine hK5 _ _ ?_
      refine xc_gen (fun g hg => ?_)
      have s0 := (hg 0).trans (en rfl (en rfl s0))
      have s1 := (hg 1).trans (en rfl (en rfl s1))
      have s2 := (hg 2).trans (en rfl (en rfl s2))
      have s3 := (hg 3).trans (en rfl (en rfl s3))
      have s8 := (hg 8).trans (en rfl (en rfl s8))
      have s14 := (hg 14).trans (en rfl (en rfl s14))
      have s16 := (hg 16).trans es
      clear hg
      refine xc_cond s16 (fun hc => absurd hc (by rw [hbad]; decide)) (fun _ => ?_)
      refine xc_skip ?_
      refine hK4 _ _ ?_
      refine xc_seq (fun K hK6 => ?_)
      refine xc_seq (fun K hK7 => ?_)
      refine xc_region ?_
      refine x_val (r_move s0) (nd_of rfl) rfl ?_
      refine x_val (r_move (en rfl s1)) (nd_of rfl) rfl ?_
      refine x_val (r_move (en rfl (en rfl s2))) (nd_of rfl) rfl ?_
      refine x_enter (r_call Try.call24 (.cons (en rfl (en rfl es)) (.cons (en rfl es) (.cons es .nil)))) (nd_of rfl) rfl (between_o h) ?_
      rintro _ w ⟨rfl, h⟩
      refine x_val (r_assign es) (nd_of rfl) rfl ?_
      refine xw_nil ?_
      refine hK7 _ _ ?_
      refine xc_gen (fun g hg => ?_)
      have s0 := (hg 0).trans (en rfl (en rfl (en rfl (en rfl (en rfl s0)))))
      have s1 := (hg 1).trans (en rfl (en rfl (en rfl (en rfl (en rfl s1)))))
      have s2 := (hg 2).trans (en rfl (en rfl (en rfl (en rfl (en rfl s2)))))
      have s3 := (hg 3).trans (en rfl (en rfl (en rfl (en rfl (en rfl s3)))))
      have s8 := (hg 8).trans (en rfl (en rfl (en rfl (en rfl (en rfl s8)))))
      have s9 := (hg 9).trans es
      have s14 := (hg 14).trans (en rfl (en rfl (en rfl (en rfl (en rfl s14)))))
      have s16 := (hg 16).trans (en rfl (en rfl (en rfl (en rfl (en rfl s16)))))
      clear hg
      refine xc_seq (fun K hK8 => ?_)
      refine xc_region ?_
      refine x_val (r_move s9) (nd_of rfl) rfl ?_
      refine x_val (r_neq es ec (decide_eq_false (by rw [if_pos hpart2]; decide))) (nd_of rfl) rfl ?_
      refine xw_nil ?_
      refine hK8 _ _ ?_
      refine xc_gen (fun g hg => ?_)
      have s0 := (hg 0).trans (en rfl (en rfl s0))
      have s1 := (hg 1).trans (en rfl (en rfl s1))
      have s2 := (hg 2).trans (en rfl (en rfl s2))
      have s3 := (hg 3).trans (en rfl (en rfl s3))
      have s8 := (hg 8).trans (en rfl (en rfl s8))
      have s9 := (hg 9).trans (en rfl (en rfl s9))
      have s14 := (hg 14).trans (en rfl (en rfl s14))
      have s16 := (hg 16).trans (en rfl (en rfl s16))
      have s22 := (hg 22).trans es
      clear hg
      refine xc_cond s22 (fun hc => by cases hc) (fun _ => ?_)
      refine xc_skip ?_
      refine hK6 _ _ ?_
      refine xc_seq (fun K hK9 => ?_)
      refine xc_region ?_
      refine x_val (r_move s0) (nd_of rfl) rfl ?_
      refine x_enter (r_call Try.call14 (.cons es .nil)) (nd_of rfl) rfl (len_o h) ?_
      rintro _ w ⟨rfl, h⟩
      refine x_val (r_sub ec es (show _ = ((536870912 - (sz xs : Int)) : Int) from by rfl) (by unfold I64; omega)) (nd_of rfl) rfl ?_
      refine x_val (r_move (en rfl (en rfl (en rfl s2)))) (nd_of rfl) rfl ?_
      refine x_val (r_add (en rfl es) es (show _ = ((536870912 - (sz xs : Int) + nj) : Int) from by rfl) (by unfold I64; omega)) (nd_of rfl) rfl ?_
      refine x_val (r_move (en rfl (en rfl (en rfl (en rfl (en rfl s1)))))) (nd_of rfl) rfl ?_
      refine x_val (r_sub (en rfl es) es (show _ = (lt : Int) from by omega) (by unfold I64; omega)) (nd_of rfl) rfl ?_
      refine x_val (r_assign es) (nd_of rfl) rfl ?_
      refine xw_nil ?_
      refine hK9 _ _ ?_
      refine xc_gen (fun g hg => ?_)
      have s0 := (hg 0).trans (en rfl (en rfl (en rfl (en rfl (en rfl (en rfl (en rfl (en rfl s0))))))))
      have s1 := (hg 1).trans (en rfl (en rfl (en rfl (en rfl (en rfl (en rfl (en rfl (en rfl s1))))))))
      have s2 := (hg 2).trans (en rfl (en rfl (en rfl (en rfl (en rfl (en rfl (en rfl (en rfl s2))))))))
      have s3 := (hg 3).trans (en rfl (en rfl (en rfl (en rfl (en rfl (en rfl (en rfl (en rfl s3))))))))
      have s8 := (hg 8).trans (en rfl (en rfl (en rfl (en rfl (en rfl (en rfl (en rfl (en rfl s8))))))))
      have s9 := (hg 9).trans (en rfl (en rfl (en rfl (en rfl (en rfl (en rfl (en rfl (en rfl s9))))))))
      have s10 := (hg 10).trans es
      have s14 := (hg 14).trans (en rfl (en rfl (en rfl (en rfl (en rfl (en rfl (en rfl (en rfl s14))))))))
      have s16 := (hg 16).trans (en rfl (en rfl (en rfl (en rfl (en rfl (en rfl (en rfl (en rfl s16))))))))
      have s22 := (hg 22).trans (en rfl (en rfl (en rfl (en rfl (en rfl (en rfl (en rfl (en rfl s22))))))))
      clear hg
      refine xc_seq (fun K hK10 => ?_)
      refine xc_seq (fun K hK11 => ?_)
      refine xc_region ?_
      refine x_val (r_move s3) (nd_of rfl) rfl ?_
      refine x_val (r_len Try.underlying26 es) (nd_of rfl) rfl ?_
      refine x_val (r_move ec) (nd_of rfl) rfl ?_
      refine xw_nil ?_
      refine hK11 _ _ ?_
      refine xc_gen (fun g hg => ?_)
      have s0 := (hg 0).trans (en rfl (en rfl (en rfl s0)))
      have s1 := (hg 1).trans (en rfl (en rfl (en rfl s1)))
      have s2 := (hg 2).trans (en rfl (en rfl (en rfl s2)))
      have s3 := (hg 3).trans (en rfl (en rfl (en rfl s3)))
      have s8 := (hg 8).trans (en rfl (en rfl (en rfl s8)))
      have s9 := (hg 9).trans (en rfl (en rfl (en rfl s9)))
      have s10 := (hg 10).trans (en rfl (en rfl (en rfl s10)))
      have s14 := (hg 14).trans (en rfl (en rfl (en rfl s14)))
      have s16 := (hg 16).trans (en rfl (en rfl (en rfl s16)))
      have s22 := (hg 22).trans (en rfl (en rfl (en rfl s22)))
      have s31 := (hg 31).trans (en rfl (en rfl es))
      have s32 := (hg 32).trans (en rfl es)
      have s33 := (hg 33).trans es
      clear hg
      refine xc_block ?_
      obtain ⟨G12, hG12⟩ : ∃ g0 : Nat → Value, g0 = g := ⟨_, rfl⟩
      have zG12_0 : G12 0 = _ := (congrFun hG12 0).trans s0
      have zG12_1 : G12 1 = _ := (congrFun hG12 1).trans s1
      have zG12_2 : G12 2 = _ := (congrFun hG12 2).trans s2
      have zG12_3 : G12 3 = _ := (congrFun hG12 3).trans s3
      have zG12_9 : G12 9 = _ := (congrFun hG12 9).trans s9
      have zG12_14 : G12 14 = _ := (congrFun hG12 14).trans s14
      have zG12_16 : G12 16 = _ := (congrFun hG12 16).trans s16
      have zG12_22 : G12 22 = _ := (congrFun hG12 22).trans s22
      have zG12_31 : G12 31 = _ := (congrFun hG12 31).trans s31
      have zG12_32 : G12 32 = _ := (congrFun hG12 32).trans s32
      refine xc_loop (fun m f w => (∃ k : Nat, m = ps.length - k ∧ k ≤ ps.length ∧ sumR (ps.take k) ≤ lt ∧ f 33 = .int .i64 (k : Int) ∧ f 10 = .int .i64 (lt - sumR (ps.take k)) ∧ SatL E w (ObjO b xs B :: R)) ∧ (f 0 = G12 0 ∧ f 1 = G12 1 ∧ f 2 = G12 2 ∧ f 3 = G12 3 ∧ f 9 = G12 9 ∧ f 14 = G12 14 ∧ f 16 = G12 16 ∧ f 22 = G12 22 ∧ f 31 = G12 31 ∧ f 32 = G12 32)) (ps.length) ⟨⟨0, by omega, by omega, by simp [sumR]; omega, s33, by simpa [sumR] using s10, h⟩, ⟨congrFun hG12.symm 0, congrFun hG12.symm 1, congrFun hG12.symm 2, congrFun hG12.symm 3, congrFun hG12.symm 9, congrFun hG12.symm 14, congrFun hG12.symm 16, congrFun hG12.symm 22, congrFun hG12.symm 31, congrFun hG12.symm 32⟩⟩ ?_
      rintro m g w ⟨⟨k, hm, hk, hle, s33, s10, h⟩, ⟨y0, y1, y2, y3, y9, y14, y16, y22, y31, y32⟩⟩
      have s0 := y0.trans zG12_0
      have s1 := y1.trans zG12_1
      have s2 := y2.trans zG12_2
      have s3 := y3.trans zG12_3
      have s9 := y9.trans zG12_9
      have s14 := y14.trans zG12_14
      have s16 := y16.trans zG12_16
      have s22 := y22.trans zG12_22
      have s31 := y31.trans zG12_31
      have s32 := y32.trans zG12_32
      refine xc_seq (fun K hK13 => ?_)
      refine xc_region ?_
      refine x_val (r_lss s33 s32 rfl) (nd_of rfl) rfl ?_
      refine xw_nil ?_
      refine hK13 _ _ ?_
      refine xc_gen (fun g hg => ?_)
      have s0 := (hg 0).trans (en rfl s0)
      have s1 := (hg 1).trans (en rfl s1)
      have s2 := (hg 2).trans (en rfl s2)
      have s3 := (hg 3).trans (en rfl s3)
      have s9 := (hg 9).trans (en rfl s9)
      have s10 := (hg 10).trans (en rfl s10)
      have s14 := (hg 14).trans (en rfl s14)
      have s16 := (hg 16).trans (en rfl s16)
      have s22 := (hg 22).trans (en rfl s22)
      have s31 := (hg 31).trans (en rfl s31)
      have s32 := (hg 32).trans (en rfl s32)
      have s33 := (hg 33).trans (en rfl s33)
      have s34 := (hg 34).trans es
      clear hg
      refine xc_seq (fun K hK14 => ?_)
      refine xc_cond s34 (fun hc => ?_) (fun hc => ?_)
      ·
        refine xc_skip ?_
        refine hK14 _ _ ?_
        refine xc_seq (fun K hK15 => ?_)
        refine xc_block ?_
        refine xc_seq (fun K hK16 => ?_)
        have hi : k < ps.length := by have := of_decide_eq_true hc; omega
        obtain ⟨p, hp⟩ : ∃ p, ps[k]? = some p := ⟨_, List.getElem?_eq_getElem hi⟩
        obtain ⟨ad, rfl, hcell⟩ := hrd _ h.drop k p hp
        have hst := sumR_take hp
        have hsl := sumR_le hnn (k + 1)
        have hpn := hN p (List.mem_of_getElem? hp)
        have hp0 := hnn p (List.mem_of_getElem? hp)
        have hs0 := sumR_nonneg (l := ps.take k) (fun q hq => hnn q (List.mem_of_mem_take hq))
        have hokp : Ok 2 (rawC p).toArray := ⟨rfl, by simp [rawC, Value.oneCell']⟩
        refine xc_region ?_
        refine x_val (r_indexAny Try.underlying26 Try.sizeOf34 s31 s33 (by omega) (by omega)) (nd_of rfl) rfl ?_
        refine x_val (r_loadAggAt Try.isAgg34 Try.sizeOf34 es rfl hcell) (nd_of rfl) rfl ?_
        refine x_declA h Try.zeroValue34 Try.sizeOf34 rfl (en rfl es) (by first | assumption | exact Ok.node (by assumption) | exact xOk.cells (by assumption) | exact ChOk.ok (by assumption)) rfl ?_
        intro b12 w h
        refine xw_nil ?_
        refine hK16 _ _ ?_
        refine xc_gen (fun g hg => ?_)
        have s0 := (hg 0).trans (en rfl (en rfl (en rfl s0)))
        have s1 := (hg 1).trans (en rfl (en rfl (en rfl s1)))
        have s2 := (hg 2).trans (en rfl (en rfl (en rfl s2)))
        have s3 := (hg 3).trans (en rfl (en rfl (en rfl s3)))
        have s9 := (hg 9).trans (en rfl (en rfl (en rfl s9)))
        have s10 := (hg 10).trans (en rfl (en rfl (en rfl s10)))
        have s12 := (hg 12).trans es
        have s14 := (hg 14).trans (en rfl (en rfl (en rfl s14)))
        have s16 := (hg 16).trans (en rfl (en rfl (en rfl s16)))
        have s22 := (hg 22).trans (en rfl (en rfl (en rfl s22)))
        have s31 := (hg 31).trans (en rfl (en rfl (en rfl s31)))
        have s32 := (hg 32).trans (en rfl (en rfl (en rfl s32)))
        have s33 := (hg 33).trans (en rfl (en rfl (en rfl s33)))
        have s34 := (hg 34).trans (en rfl (en rfl (en rfl s34)))
        clear hg
        refine xc_seq (fun K hK17 => ?_)
        refine xc_seq (fun K hK18 => ?_)
        have h : SatL E w (Cells b12 #[.int .i64 p.1, .int .i64 p.2] 34 :: ObjO b xs B :: R) := h
        refine xc_region ?_
        refine x_val (r_fieldAddr (o' := 0) Try.underlying34 rfl Try.sizeOf3 rfl s12 rfl) (nd_of rfl) rfl ?_
        refine x_val (r_load h 0 rfl Try.isAgg3 es gc0) (nd_of rfl) rfl ?_
        refine x_val (r_move (en rfl (en rfl s10))) (nd_of rfl) rfl ?_
        refine x_val (r_gtr (en rfl es) es rfl) (nd_of rfl) rfl ?_
        refine xw_nil ?_
        refine hK18 _ _ ?_
        refine xc_gen (fun g hg => ?_)
        have s0 := (hg 0).trans (en rfl (en rfl (en rfl (en rfl s0))))
        have s1 := (hg 1).trans (en rfl (en rfl (en rfl (en rfl s1))))
        have s2 := (hg 2).trans (en rfl (en rfl (en rfl (en rfl s2))))
        have s3 := (hg 3).trans (en rfl (en rfl (en rfl (en rfl s3))))
        have s9 := (hg 9).trans (en rfl (en rfl (en rfl (en rfl s9))))
        have s10 := (hg 10).trans (en rfl (en rfl (en rfl (en rfl s10))))
        have s12 := (hg 12).trans (en rfl (en rfl (en rfl (en rfl s12))))
        have s14 := (hg 14).trans (en rfl (en rfl (en rfl (en rfl s14))))
        have s16 := (hg 16).trans (en rfl (en rfl (en rfl (en rfl s16))))
        have s22 := (hg 22).trans (en rfl (en rfl (en rfl (en rfl s22))))
        have s31 := (hg 31).trans (en rfl (en rfl (en rfl (en rfl s31))))
        have s32 := (hg 32).trans (en rfl (en rfl (en rfl (en rfl s32))))
        have s33 := (hg 33).trans (en rfl (en rfl (en rfl (en rfl s33))))
        have s34 := (hg 34).trans (en rfl (en rfl (en rfl (en rfl s34))))
        have s40 := (hg 40).trans es
        clear hg
        refine xc_cond s40 (fun hc => ?_) (fun hc => ?_)
        ·
          refine xc_seq (fun K hK19 => ?_)
          have hgt := of_decide_eq_true hc
          have e8 : spliceE xs ni nj ps = 8 := by rw [e0, if_pos (by omega)]
          have es8 : spliceS xs ni nj ps = xs := by unfold spliceS; rw [e8]; rfl
          refine xc_region ?_
          refine x_val (r_assign ec) (nd_of rfl) rfl ?_
          refine xw_nil ?_
          refine hK19 _ _ ?_
          refine xc_gen (fun g hg => ?_)
          have s0 := (hg 0).trans (en rfl s0)
          have s1 := (hg 1).trans (en rfl s1)
          have s2 := (hg 2).trans (en rfl s2)
          have s3 := (hg 3).trans (en rfl s3)
          have s8 := (hg 8).trans es
          have s9 := (hg 9).trans (en rfl s9)
          have s10 := (hg 10).trans (en rfl s10)
          have s12 := (hg 12).trans (en rfl s12)
          have s14 := (hg 14).trans (en rfl s14)
          have s16 := (hg 16).trans (en rfl s16)
          have s22 := (hg 22).trans (en rfl s22)
          have s31 := (hg 31).trans (en rfl s31)
          have s32 := (hg 32).trans (en rfl s32)
          have s33 := (hg 33).trans (en rfl s33)
          have s34 := (hg 34).trans (en rfl s34)
          have s40 := (hg 40).trans (en rfl s40)
          clear hg
          refine xc_ret ?_
          refine bodyR_1 rfl s8 ?_
          rw [e8, es8]; exact ⟨rfl, hmono h.drop⟩
        ·
          refine xc_skip ?_
          refine hK17 _ _ ?_
          have hgt := of_decide_eq_false hc
          refine xc_region ?_
          refine x_val (r_move s10) (nd_of rfl) rfl ?_
          refine x_val (r_fieldAddr (o' := 0) Try.underlying34 rfl Try.sizeOf3 rfl (en rfl s12) rfl) (nd_of rfl) rfl ?_
          refine x_val (r_load h 0 rfl Try.isAgg3 es gc0) (nd_of rfl) rfl ?_
          refine x_val (r_sub (en rfl (en rfl es)) es (show _ = (lt - sumR (ps.take (k + 1)) : Int) from by omega) (by unfold I64; omega)) (nd_of rfl) rfl ?_
          refine x_val (r_assign es) (nd_of rfl) rfl ?_
          refine xw_nil ?_
          refine hK15 _ _ ?_
          refine xc_gen (fun g hg => ?_)
          have s0 := (hg 0).trans (en rfl (en rfl (en rfl (en rfl (en rfl s0)))))
          have s1 := (hg 1).trans (en rfl (en rfl (en rfl (en rfl (en rfl s1)))))
          have s2 := (hg 2).trans (en rfl (en rfl (en rfl (en rfl (en rfl s2)))))
          have s3 := (hg 3).trans (en rfl (en rfl (en rfl (en rfl (en rfl s3)))))
          have s9 := (hg 9).trans (en rfl (en rfl (en rfl (en rfl (en rfl s9)))))
          have s10 := (hg 10).trans es
          have s12 := (hg 12).trans (en rfl (en rfl (en rfl (en rfl (en rfl s12)))))
          have s14 := (hg 14).trans (en rfl (en rfl (en rfl (en rfl (en rfl s14)))))
          have s16 := (hg 16).trans (en rfl (en rfl (en rfl (en rfl (en rfl s16)))))
          have s22 := (hg 22).trans (en rfl (en rfl (en rfl (en rfl (en rfl s22)))))
          have s31 := (hg 31).trans (en rfl (en rfl (en rfl (en rfl (en rfl s31)))))
          have s32 := (hg 32).trans (en rfl (en rfl (en rfl (en rfl (en rfl s32)))))
          have s33 := (hg 33).trans (en rfl (en rfl (en rfl (en rfl (en rfl s33)))))
          have s34 := (hg 34).trans (en rfl (en rfl (en rfl (en rfl (en rfl s34)))))
          have s40 := (hg 40).trans (en rfl (en rfl (en rfl (en rfl (en rfl s40)))))
          clear hg
          refine xc_region ?_
          refine x_val (r_add s33 ec (show _ = (((k + 1 : Nat) : Int) : Int) from by omega) (by unfold I64; omega)) (nd_of rfl) rfl ?_
          refine x_val (r_move es) (nd_of rfl) rfl ?_
          refine xw_nil ?_
          exact ⟨ps.length - (k + 1), by omega, ⟨k + 1, rfl, by omega, by omega, es, (en rfl (en rfl s10)), h.drop⟩, ⟨((en rfl (en rfl s0))).trans zG12_0.symm, ((en rfl (en rfl s1))).trans zG12_1.symm, ((en rfl (en rfl s2))).trans zG12_2.symm, ((en rfl (en rfl s3))).trans zG12_3.symm, ((en rfl (en rfl s9))).trans zG12_9.symm, ((en rfl (en rfl s14))).trans zG12_14.symm, ((en rfl (en rfl s16))).trans zG12_16.symm, ((en rfl (en rfl s22))).trans zG12_22.symm, ((en rfl (en rfl s31))).trans zG12_31.symm, ((en rfl (en rfl s32))).trans zG12_32.symm⟩⟩
      ·
        refine xc_exit ?_
        refine hK10 _ _ ?_
        refine xc_seq (fun K hK20 => ?_)
        obtain rfl : k = ps.length := by have := of_decide_eq_false hc; omega
        rw [List.take_length] at hle
        have e9 : spliceE xs ni nj ps = 0 := by rw [e0, if_neg (by omega)]
        have es9 : spliceS xs ni nj ps = replL xs ni nj (ps.map toX) := by unfold spliceS; rw [if_pos e9]; rfl
        have hsum := sz_toX hnn
        have hslc := hv2.slc (fun p hp => ⟨hnn p hp, by have := each_le hnn hp; omega⟩)
        refine xc_region ?_
        refine x_val (r_move s0) (nd_of rfl) rfl ?_
        refine x_enter (r_call Try.call25 (.cons es .nil)) (nd_of rfl) rfl (tree_o h) ?_
        rintro _ w ⟨bt, ba, rfl, h⟩
        refine x_val (r_move (en rfl (en rfl s1))) (nd_of rfl) rfl ?_
        refine x_val (r_move (en rfl (en rfl (en rfl s2)))) (nd_of rfl) rfl ?_
        refine x_val (r_move (en rfl (en rfl (en rfl (en rfl s3))))) (nd_of rfl) rfl ?_
        have h := h.f1
        refine x_enter (r_call Try.call26 (.cons (en rfl (en rfl (en rfl es))) (.cons (en rfl (en rfl es)) (.cons (en rfl es) (.cons es .nil))))) (nd_of rfl) rfl (replace_t (i := ni) (j := nj) (B' := B') hslc.weak (by omega) (by omega) (by rw [List.length_map]; exact hB) hBB hB' (by omega) h) ?_
        rintro _ w h
        refine xw_nil ?_
        refine hK20 _ _ ?_
        refine xc_gen (fun g hg => ?_)
        have s0 := (hg 0).trans (en rfl (en rfl (en rfl (en rfl (en rfl (en rfl s0))))))
        have s1 := (hg 1).trans (en rfl (en rfl (en rfl (en rfl (en rfl (en rfl s1))))))
        have s2 := (hg 2).trans (en rfl (en rfl (en rfl (en rfl (en rfl (en rfl s2))))))
        have s3 := (hg 3).trans (en rfl (en rfl (en rfl (en rfl (en rfl (en rfl s3))))))
        have s9 := (hg 9).trans (en rfl (en rfl (en rfl (en rfl (en rfl (en rfl s9))))))
        have s10 := (hg 10).trans (en rfl (en rfl (en rfl (en rfl (en rfl (en rfl s10))))))
        have s14 := (hg 14).trans (en rfl (en rfl (en rfl (en rfl (en rfl (en rfl s14))))))
        have s16 := (hg 16).trans (en rfl (en rfl (en rfl (en rfl (en rfl (en rfl s16))))))
        have s22 := (hg 22).trans (en rfl (en rfl (en rfl (en rfl (en rfl (en rfl s22))))))
        have s31 := (hg 31).trans (en rfl (en rfl (en rfl (en rfl (en rfl (en rfl s31))))))
        have s32 := (hg 32).trans (en rfl (en rfl (en rfl (en rfl (en rfl (en rfl s32))))))
        have s33 := (hg 33).trans (en rfl (en rfl (en rfl (en rfl (en rfl (en rfl s33))))))
        have s34 := (hg 34).trans (en rfl (en rfl (en rfl (en rfl (en rfl (en rfl s34))))))
        clear hg
        refine xc_seq (fun K hK21 => ?_)
        refine xc_region ?_
        refine x_val (r_assign ec) (nd_of rfl) rfl ?_
        refine xw_nil ?_
        refine hK21 _ _ ?_
        refine xc_gen (fun g hg => ?_)
        have s0 := (hg 0).trans (en rfl s0)
        have s1 := (hg 1).trans (en rfl s1)
        have s2 := (hg 2).trans (en rfl s2)
        have s3 := (hg 3).trans (en rfl s3)
        have s8 := (hg 8).trans es
        have s9 := (hg 9).trans (en rfl s9)
        have s10 := (hg 10).trans (en rfl s10)
        have s14 := (hg 14).trans (en rfl s14)
        have s16 := (hg 16).trans (en rfl s16)
        have s22 := (hg 22).trans (en rfl s22)
        have s31 := (hg 31).trans (en rfl s31)
        have s32 := (hg 32).trans (en rfl s32)
        have s33 := (hg 33).trans (en rfl s33)
        have s34 := (hg 34).trans (en rfl s34)
        clear hg
        refine xc_ret ?_
        refine bodyR_1 rfl s8 ?_
        rw [e9, es9]; exact ⟨rfl, SatL.closeObj h.f1⟩
    · have e5 : spliceE xs i j ps = 5 := by unfold spliceE; rw [if_neg (by rw [hbad]; decide), if_pos hpart]
      have es5 : spliceS xs i j ps = xs := by unfold spliceS; rw [e5]; rfl
      rw [e5, es5]
      refine calls_x Try.func10 rfl Try.ntmps10 rfl ?_
      refine xc_gen (fun g hg => ?_)
      have s0 := (hg 0).trans arg0
      have s1 := (hg 1).trans arg1
      have s2 := (hg 2).trans arg2
      have s3 := (hg 3).trans arg3
      clear hg
      refine xc_seq (fun K hK1 => ?_)
      refine xc_region ?_
      refine x_val (r_assign ec) (nd_of rfl) rfl ?_
      refine xw_nil ?_
      refine hK1 _ _ ?_
      refine xc_gen (fun g hg => ?_)
      have s0 := (hg 0).trans (en rfl s0)
      have s1 := (hg 1).trans (en rfl s1)
      have s2 := (hg 2).trans (en rfl s2)
      have s3 := (hg 3).trans (en rfl s3)
      have s8 := (hg 8).trans es
      clear hg
      refine xc_seq (fun K hK2 => ?_)
      refine xc_seq (fun K hK3 => ?_)
      refine xc_region ?_
      refine x_val (r_move s0) (nd_of rfl) rfl ?_
      refine x_val (r_eqnil Try.underlying23 es ec (r := false) rfl) (nd_of rfl) rfl ?_
      refine xw_nil ?_
      refine hK3 _ _ ?_
      refine xc_gen (fun g hg => ?_)
      have s0 := (hg 0).trans (en rfl (en rfl s0))
      have s1 := (hg 1).trans (en rfl (en rfl s1))
      have s2 := (hg 2).trans (en rfl (en rfl s2))
      have s3 := (hg 3).trans (en rfl (en rfl s3))
      have s8 := (hg 8).trans (en rfl (en rfl s8))
      have s14 := (hg 14).trans es
      clear hg
      refine xc_cond s14 (fun hc => by cases hc) (fun _ => ?_)
      refine xc_skip ?_
      refine hK2 _ _ ?_
      refine xc_seq (fun K hK4 => ?_)
      refine xc_seq (fun K hK5 => ?_)
      refine xc_region ?_
      refine x_val (r_move s3) (nd_of rfl) rfl ?_
      refine x_enter (r_call Try.call22 (.cons es (.cons ef .nil))) (nd_of rfl) rfl (contains_ok hv.weak (by omega) h) ?_
      rintro _ w ⟨rfl, h⟩
      refine xw_nil ?_
      refine hK5 _ _ ?_
      refine xc_gen (fun g hg => ?_)
      have s0 := (hg 0).trans (en rfl (en rfl s0))
      have s1 := (hg 1).trans (en rfl (en rfl s1))
      have s2 := (hg 2).trans (en rfl (en rfl s2))
      have s3 := (hg 3).trans (en rfl (en rfl s3))
      have s8 := (hg 8).trans (en rfl (en rfl s8))
      have s14 := (hg 14).trans (en rfl (en rfl s14))
      have s16 := (hg 16).trans es
      clear hg
      refine xc_cond s16 (fun hc => absurd hc (by rw [hbad]; decide)) (fun _ => ?_)
      refine xc_skip ?_
      refine hK4 _ _ ?_
      refine xc_seq (fun K hK6 => ?_)
      refine xc_seq (fun K hK7 => ?_)
      refine xc_region ?_
      refine x_val (r_move s0) (nd_of rfl) rfl ?_
      refine x_val (r_move (en rfl s1)) (nd_of rfl) rfl ?_
      refine x_val (r_move (en rfl (en rfl s2))) (nd_of rfl) rfl ?_
      refine x_enter (r_call Try.call24 (.cons (en rfl (en rfl es)) (.cons (en rfl es) (.cons es .nil)))) (nd_of rfl) rfl (between_o h) ?_
      rintro _ w ⟨rfl, h⟩
      refine x_val (r_assign es) (nd_of rfl) rfl ?_
      refine xw_nil ?_
      refine hK7 _ _ ?_
      refine xc_gen (fun g hg => ?_)
      have s0 := (hg 0).trans (en rfl (en rfl (en rfl (en rfl (en rfl s0)))))
      have s1 := (hg 1).trans (en rfl (en rfl (en rfl (en rfl (en rfl s1)))))
      have s2 := (hg 2).trans (en rfl (en rfl (en rfl (en rfl (en rfl s2)))))
      have s3 := (hg 3).trans (en rfl (en rfl (en rfl (en rfl (en rfl s3)))))
      have s8 := (hg 8).trans (en rfl (en rfl (en rfl (en rfl (en rfl s8)))))
      have s9 := (hg 9).trans es
      have s14 := (hg 14).trans (en rfl (en rfl (en rfl (en rfl (en rfl s14)))))
      have s16 := (hg 16).trans (en rfl (en rfl (en rfl (en rfl (en rfl s16)))))
      clear hg
      refine xc_seq (fun K hK8 => ?_)
      refine xc_region ?_
      refine x_val (r_move s9) (nd_of rfl) rfl ?_
      refine x_val (r_neq es ec (decide_eq_true (by rw [if_neg hpart]; decide))) (nd_of rfl) rfl ?_
      refine xw_nil ?_
      refine hK8 _ _ ?_
      refine xc_gen (fun g hg => ?_)
      have s0 := (hg 0).trans (en rfl (en rfl s0))
      have s1 := (hg 1).trans (en rfl (en rfl s1))
      have s2 := (hg 2).trans (en rfl (en rfl s2))
      have s3 := (hg 3).trans (en rfl (en rfl s3))
      have s8 := (hg 8).trans (en rfl (en rfl s8))
      have s9 := (hg 9).trans (en rfl (en rfl s9))
      have s14 := (hg 14).trans (en rfl (en rfl s14))
      have s16 := (hg 16).trans (en rfl (en rfl s16))
      have s22 := (hg 22).trans es
      clear hg
      refine xc_cond s22 (fun _ => ?_) (fun hc => by cases hc)
      refine xc_seq (fun K hK9 => ?_)
      refine xc_region ?_
      refine x_val (r_move s9) (nd_of rfl) rfl ?_
      refine x_val (r_assign es) (nd_of rfl) rfl ?_
      refine xw_nil ?_
      refine hK9 _ _ ?_
      refine xc_gen (fun g hg => ?_)
      have s0 := (hg 0).trans (en rfl (en rfl s0))
      have s1 := (hg 1).trans (en rfl (en rfl s1))
      have s2 := (hg 2).trans (en rfl (en rfl s2))
      have s3 := (hg 3).trans (en rfl (en rfl s3))
      have s8 := (hg 8).trans es
      have s9 := (hg 9).trans (en rfl (en rfl s9))
      have s14 := (hg 14).trans (en rfl (en rfl s14))
      have s16 := (hg 16).trans (en rfl (en rfl s16))
      have s22 := (hg 22).trans (en rfl (en rfl s22))
      clear hg
      refine xc_ret ?_
      refine bodyR_1 rfl s8 ?_
      exact ⟨by rw [if_neg hpart], hmono h⟩
end
end Go.Proofs.Ytbmdbjnkkbefmaa
