/-
Rows of calls; records put in and patched in either order.
-/
import Derived.Test.YtonnijghdlakfaaV2
namespace Go.Proofs.Ytonnijghdlakfaa
open Go Go.RowKit
def oflat (l : List OpV) : List Value := l.flatMap opC
theorem oflat_len : ∀ l : List OpV, (oflat l).length = l.length * 5
  | [] => rfl
  | x :: l => by
    have ih := oflat_len l
    unfold oflat at *
    rw [List.flatMap_cons, List.length_append, ih, List.length_cons]
    simp only [opC, List.length_cons, List.length_nil]
    omega
theorem oflat_get {l : List OpV} {k : Nat} {x : OpV} (h : l[k]? = some x) (j : Nat) (hj : j < 5) : (oflat l)[k * 5 + j]? = (opC x)[j]? := flat_get opC 5 l (fun _ _ => rfl) k j x h hj
theorem OpWf.ones {W : World} {o : OpV} (hw : OpWf W o) : ∀ v ∈ opC o, v.oneCell' = true := by
  have hone : o.lv.oneCell' = true := by obtain ⟨⟨a, c, e, _⟩, _⟩ := hw.sp; rw [e]; rfl
  have hone2 : o.xv.oneCell' = true := by obtain ⟨a, c, e, _⟩ := hw.cp; rw [e]; rfl
  exact fun v hv => (ok_op hone hone2).one v (by simpa using hv)
theorem OpWf.ok {W : World} {o : OpV} (hw : OpWf W o) : Ok 5 (opC o).toArray := ⟨rfl, by simpa using hw.ones⟩
section
variable {E : Env} {R : List SProp} {w : World} {W : World} {v u : Value} {os ps : List OpV}
theorem oflat_app (l m : List OpV) : oflat (l ++ m) = oflat l ++ oflat m := by simp [oflat]
theorem zOp : ∀ w, (zeroValue 26).run Try.prog w = .ok (.agg #[.int .i64 0, .int .i64 0, .int .i64 0, .slice none 0 0, .slice none 0 0]) w := fun _ => by kernel_rfl
theorem append_ops {ty i : Nat} (h : SatL E w (Row 26 5 u ps.length (oflat ps) :: R)) (hv : OpsAt W v os) (hk : R[i]? = some (Old W)) (hl : (ps.length + os.length) * 72 ≤ 140737488355328) :
    ∃ v' w', (Builtin.append_ #[22, 22] ty #[u, v]).run Try.prog w = .ok v' w' ∧ SatL E w' (Row 26 5 v' (ps ++ os).length (oflat (ps ++ os)) :: R) := by
  rw [List.length_append, oflat_app]
  obtain ⟨⟨a, cap, rfl, hcap, hread⟩, hwf⟩ := hv
  rcases Nat.eq_zero_or_pos os.length with h0 | h0
  · obtain rfl := List.length_eq_zero_iff.1 h0
    obtain ⟨inf, hinf⟩ : ∃ inf, Try.prog.info? 26 = some inf := Option.isSome_iff_exists.1 (by kernel_rfl)
    obtain ⟨a2, c2, rfl, hle, _⟩ := h.rowVal
    exact ⟨_, w, append_none_run Try.underlying22 hinf hle, by simpa [oflat] using h⟩
  · obtain ⟨o0, ho0⟩ : ∃ o0, os[0]? = some o0 := ⟨_, List.getElem?_eq_getElem h0⟩
    obtain ⟨ad, rfl, _⟩ := hread 0 o0 ho0
    refine run_append_at (bytes := 72) (ty := ty) h Try.underlying22 (by kernel_rfl) (oflat_len os) (fun j u hj => ?_) (fun u hu => ?_) hl (by omega)
    · have hjl := (List.getElem?_eq_some_iff.1 hj).1
      rw [oflat_len] at hjl
      obtain ⟨o, ho⟩ : ∃ o, os[j / 5]? = some o := ⟨_, List.getElem?_eq_getElem (by omega)⟩
      have h2 := oflat_get ho (j % 5) (by omega)
      rw [show j / 5 * 5 + j % 5 = j by omega, hj] at h2
      obtain ⟨ad', e, hc⟩ := hread (j / 5) o ho
      cases e
      have h3 := hc (j % 5) u h2.symm
      rw [Addr.add_add, show j / 5 * 5 + j % 5 = j by omega] at h3
      exact h.oldCell (i + 1) (by simpa using hk) h3
    · obtain ⟨o, ho, hx⟩ := List.mem_flatMap.1 hu
      exact (hwf o ho).ones u hx
theorem oreads_row {w0 : World} {i : Nat} (hw : ∀ o ∈ ps, OpWf W o) (hk : R[i]? = some (Old W)) (h0 : SatL E w0 (Row 26 5 v ps.length (oflat ps) :: R)) : OReads E (Row 26 5 v ps.length (oflat ps) :: R) v ps := by
  obtain ⟨a, cap, rfl, hl, _⟩ := h0.rowVal
  refine ⟨a, cap, rfl, fun w h k p hp => ?_, fun o ho => ⟨(hw o ho).sp.sreads (i + 1) (by simpa using hk), (hw o ho).cp.creads (i + 1) (by simpa using hk)⟩⟩
  have hlt := (List.getElem?_eq_some_iff.1 hp).1
  obtain ⟨g, cp, cur, hr, h2⟩ := h.openRow (by omega)
  have hv := hr.val
  simp only [Value.slice.injEq] at hv
  refine ⟨⟨g, 0, none⟩, hv.1, fun j u hj => ?_⟩
  rw [add_pt, add_pt, Nat.zero_add]
  have hj2 : j < 5 := by have := (List.getElem?_eq_some_iff.1 hj).1; simpa [opC] using this
  exact h2.cell 0 rfl (hr.get (by rw [oflat_get hp j hj2]; exact hj))
end
theorem pat_split {A B C : List (List Atr)} {X : List Chg} {k m : Nat} (hk : A.length = k) (hm : k + B.length = m) : patL (A ++ (B ++ C)) k m X = A ++ (B.map (fun l => applyL l X) ++ C) := by
  subst hk; subst hm
  unfold patL
  rw [if_pos ⟨by omega, by omega, by simp only [List.length_append]; omega⟩, Int.toNat_natCast, Int.toNat_natCast]
  have e1 : (A ++ (B ++ C)).take A.length = A := by simp
  have e2 : ((A ++ (B ++ C)).take (A.length + B.length)).drop A.length = B := by
    rw [← List.append_assoc, List.take_append_of_le_length (by simp), List.take_of_length_le (by simp)]; simp
  have e3 : (A ++ (B ++ C)).drop (A.length + B.length) = C := by
    rw [← List.append_assoc, List.drop_append_of_le_length (by simp), List.drop_of_length_le (by simp)]; simp
  rw [e1, e2, e3]
theorem ins_split {A B M : List (List Atr)} {i : Nat} (hi : A.length = i) : insL (A ++ B) i M = A ++ (M ++ B) := by
  subst hi
  unfold insL
  rw [if_pos ⟨by omega, by omega, by simp only [List.length_append]; omega⟩, Int.toNat_natCast]
  simp
theorem pat_len {L : List (List Atr)} {i j : Int} {X : List Chg} : (patL L i j X).length = L.length := by
  unfold patL
  split
  · rename_i hp
    obtain ⟨h0, h1, h2⟩ := hp
    simp only [List.length_append, List.length_take, List.length_drop, List.length_map]; omega
  · rfl
theorem apart_eq {L M : List (List Atr)} {X : List Chg} {k m i : Nat} (hkm : k ≤ m) (hmi : m ≤ i) (hi : i ≤ L.length) : insL (patL L k m X) i M = patL (insL L i M) k m X := by
  obtain ⟨A, B, C, D, rfl, hA, hB, hC⟩ : ∃ A B C D : List (List Atr), L = A ++ (B ++ (C ++ D)) ∧ A.length = k ∧ k + B.length = m ∧ m + C.length = i := by
    refine ⟨L.take k, (L.take m).drop k, (L.take i).drop m, L.drop i, ?_, ?_, ?_, ?_⟩
    · have e1 : (L.take i).drop m ++ L.drop i = L.drop m := by
        have h := List.take_append_drop i L
        have h2 : (L.take i ++ L.drop i).drop m = (L.take i).drop m ++ L.drop i := List.drop_append_of_le_length (by rw [List.length_take]; omega)
        rw [← h2, h]
      have e2 : (L.take m).drop k ++ L.drop m = L.drop k := by
        have h := List.take_append_drop m L
        have h2 : (L.take m ++ L.drop m).drop k = (L.take m).drop k ++ L.drop m := List.drop_append_of_le_length (by rw [List.length_take]; omega)
        rw [← h2, h]
      rw [e1, e2, List.take_append_drop]
    · rw [List.length_take]; omega
    · rw [List.length_drop, List.length_take]; omega
    · rw [List.length_drop, List.length_take]; omega
  rw [pat_split hA hB]
  have e1 : A ++ (B.map (fun l => applyL l X) ++ (C ++ D)) = (A ++ (B.map (fun l => applyL l X) ++ C)) ++ D := by simp
  have e2 : A ++ (B ++ (C ++ D)) = (A ++ (B ++ C)) ++ D := by simp
  rw [e1, ins_split (by simp only [List.length_append, List.length_map]; omega), e2, ins_split (by simp only [List.length_append]; omega)]
  have e3 : A ++ (B ++ C) ++ (M ++ D) = A ++ (B ++ (C ++ (M ++ D))) := by simp
  rw [e3, pat_split hA hB]
  simp
end Go.Proofs.Ytonnijghdlakfaa
