/-
Sets of attributes in memory; their copies.
-/
import Derived.Test.YtonnijghdlakfaaS0
namespace Go.Proofs.Ytonnijghdlakfaa
open Go Go.RowKit
/-- an attribute: its key; kind, number, float's bits and text of its value -/
abbrev Atr := Int × Int × Int × Int × ByteArray
def atC (x : Atr) : List Value := [.int .i64 x.1, .int .u8 x.2.1, .int .i64 x.2.2.1, .int .u64 x.2.2.2.1, .string x.2.2.2.2]
def aflat (l : List Atr) : List Value := l.flatMap atC
abbrev ARow (v : Value) (l : List Atr) : SProp := Row 72 5 v l.length (aflat l)
theorem aflat_len : ∀ l : List Atr, (aflat l).length = l.length * 5
  | [] => rfl
  | x :: l => by
    have ih := aflat_len l
    unfold aflat at *
    rw [List.flatMap_cons, List.length_append, ih, List.length_cons]
    simp only [atC, List.length_cons, List.length_nil]
    omega
theorem aflat_get {l : List Atr} {k : Nat} {x : Atr} (h : l[k]? = some x) (j : Nat) (hj : j < 5) : (aflat l)[k * 5 + j]? = (atC x)[j]? := flat_get atC 5 l (fun _ _ => rfl) k j x h hj
theorem aflat_one {l : List Atr} : ∀ u ∈ aflat l, u.oneCell' = true := by
  intro u hu
  obtain ⟨x, _, hx⟩ := List.mem_flatMap.1 hu
  simp only [atC, List.mem_cons, List.not_mem_nil, or_false] at hx
  rcases hx with rfl | rfl | rfl | rfl | rfl <;> rfl
/-- a slice whose attributes can be read wherever the list of assertions holds -/
def AReads (E : Env) (R : List SProp) (v : Value) (l : List Atr) : Prop :=
  ∃ a cap, v = .slice a l.length cap ∧ l.length ≤ cap ∧ ∀ w, SatL E w R → ∀ (k : Nat) (x : Atr), l[k]? = some x → ∃ ad, a = some ad ∧ ∀ (j : Nat) (u : Value), (atC x)[j]? = some u → w.cell? ((ad.add (k * 5)).add j) = some u
theorem AReads.weak {E : Env} {R R' : List SProp} {v : Value} {l : List Atr} (h : AReads E R v l) (hp : ∀ w, SatL E w R' → SatL E w R) : AReads E R' v l := by
  obtain ⟨a, cap, e, h0, h1⟩ := h
  exact ⟨a, cap, e, h0, fun w hw => h1 w (hp w hw)⟩
theorem a_row {E : Env} {R : List SProp} {v : Value} {l : List Atr} {w0 : World} (h0 : SatL E w0 (ARow v l :: R)) : AReads E (ARow v l :: R) v l := by
  obtain ⟨a, cap, rfl, hl, _⟩ := h0.rowVal
  refine ⟨a, cap, rfl, hl, fun w h k p hp => ?_⟩
  have hlt := (List.getElem?_eq_some_iff.1 hp).1
  obtain ⟨g, cp, cur, hr, h2⟩ := h.openRow (by omega)
  have hv := hr.val
  simp only [Value.slice.injEq] at hv
  refine ⟨⟨g, 0, none⟩, hv.1, fun j u hj => ?_⟩
  rw [add_pt, add_pt, Nat.zero_add]
  have hj2 : j < 5 := by have := (List.getElem?_eq_some_iff.1 hj).1; simpa [atC] using this
  exact h2.cell 0 rfl (hr.get (by rw [aflat_get hp j hj2]; exact hj))
section
variable {E : Env} {R : List SProp} {w : World} {v : Value} {l : List Atr}
theorem clone_a (hv : AReads E R v l) (hb : l.length ≤ 1000000) (h : SatL E w R) : Calls Try.prog 55 #[v] w (Ret fun u w' => SatL E w' (ARow u l :: R)) := by
  obtain ⟨a, cap, rfl, hl1, hrd⟩ := hv
  cases a with
  | none =>
    have hn : l = [] := by
      cases l with
      | nil => rfl
      | cons x l =>
        obtain ⟨_, e, _⟩ := hrd w h 0 x rfl
        cases e
    subst hn
    refine calls_x Try.func55 rfl Try.ntmps55 rfl ?_
    refine xc_gen (fun g hg => ?_)
    have s0 := (hg 0).trans arg0
    clear hg
    refine xc_seq (fun K hK1 => ?_)
    refine xc_region ?_
    refine x_val (r_assign ec) (nd_of rfl) rfl ?_
    refine xw_nil ?_
    refine hK1 _ _ ?_
    refine xc_gen (fun g hg => ?_)
    have s0 := (hg 0).trans (en rfl s0)
    have s2 := (hg 2).trans es
    clear hg
    refine xc_seq (fun K hK2 => ?_)
    refine xc_seq (fun K hK3 => ?_)
    refine xc_region ?_
    refine x_val (r_move s0) (nd_of rfl) rfl ?_
    refine x_val (r_eqnilS Try.underlying38 es ec rfl) (nd_of rfl) rfl ?_
    refine xw_nil ?_
    refine hK3 _ _ ?_
    refine xc_gen (fun g hg => ?_)
    have s0 := (hg 0).trans (en rfl (en rfl s0))
    have s2 := (hg 2).trans (en rfl (en rfl s2))
    have s4 := (hg 4).trans es
    clear hg
    refine xc_cond s4 (fun _ => ?_) (fun hc => by cases hc)
    refine xc_seq (fun K hK4 => ?_)
    refine xc_region ?_
    refine x_val (r_assign ec) (nd_of rfl) rfl ?_
    refine xw_nil ?_
    refine hK4 _ _ ?_
    refine xc_gen (fun g hg => ?_)
    have s0 := (hg 0).trans (en rfl s0)
    have s2 := (hg 2).trans es
    have s4 := (hg 4).trans (en rfl s4)
    clear hg
    refine xc_ret ?_
    refine bodyR_1 rfl s2 ?_
    exact h.rowNil (e := 72) (sz := 5)
  | some a =>
    have hall : ∀ w, SatL E w R → ∀ (j : Nat) (u : Value), (aflat l)[j]? = some u → w.cell? (a.add j) = some u := by
      intro w h j u hj
      have hjl := (List.getElem?_eq_some_iff.1 hj).1
      rw [aflat_len] at hjl
      obtain ⟨x, hx⟩ : ∃ x, l[j / 5]? = some x := ⟨_, List.getElem?_eq_getElem (by omega)⟩
      obtain ⟨ad, e, hc⟩ := hrd w h (j / 5) x hx
      cases e
      have h2 := aflat_get hx (j % 5) (by omega)
      rw [show j / 5 * 5 + j % 5 = j by omega, hj] at h2
      have h3 := hc (j % 5) u h2.symm
      rw [Addr.add_add, show j / 5 * 5 + j % 5 = j by omega] at h3
      exact h3
    refine calls_x Try.func55 rfl Try.ntmps55 rfl ?_
    refine xc_gen (fun g hg => ?_)
    have s0 := (hg 0).trans arg0
    clear hg
    refine xc_seq (fun K hK1 => ?_)
    refine xc_region ?_
    refine x_val (r_assign ec) (nd_of rfl) rfl ?_
    refine xw_nil ?_
    refine hK1 _ _ ?_
    refine xc_gen (fun g hg => ?_)
    have s0 := (hg 0).trans (en rfl s0)
    have s2 := (hg 2).trans es
    clear hg
    refine xc_seq (fun K hK2 => ?_)
    refine xc_seq (fun K hK3 => ?_)
    refine xc_region ?_
    refine x_val (r_move s0) (nd_of rfl) rfl ?_
    refine x_val (r_eqnilS Try.underlying38 es ec rfl) (nd_of rfl) rfl ?_
    refine xw_nil ?_
    refine hK3 _ _ ?_
    refine xc_gen (fun g hg => ?_)
    have s0 := (hg 0).trans (en rfl (en rfl s0))
    have s2 := (hg 2).trans (en rfl (en rfl s2))
    have s4 := (hg 4).trans es
    clear hg
    refine xc_cond s4 (fun hc => by cases hc) (fun _ => ?_)
    refine xc_skip ?_
    refine hK2 _ _ ?_
    refine xc_seq (fun K hK4 => ?_)
    refine xc_region ?_
    refine x_bslice0 h Try.underlying38 Try.sizeOf72 rfl ?_; intro bn w h
    refine x_val (r_move (en rfl s0)) (nd_of rfl) rfl ?_
    refine x_append_at (bytes := 48) (news := aflat l) h Try.underlying38 (by kernel_rfl) (en rfl es) es (aflat_len l) (hall _ h.drop) aflat_one (by omega) (by omega) rfl ?_; intro u2 w h
    have h : SatL E w (ARow u2 l :: R) := by have h2 := h; rw [Nat.zero_add, List.nil_append] at h2; exact h2
    refine x_val (r_assign es) (nd_of rfl) rfl ?_
    refine xw_nil ?_
    refine hK4 _ _ ?_
    refine xc_gen (fun g hg => ?_)
    have s0 := (hg 0).trans (en rfl (en rfl (en rfl (en rfl s0))))
    have s2 := (hg 2).trans es
    have s4 := (hg 4).trans (en rfl (en rfl (en rfl (en rfl s4))))
    clear hg
    refine xc_ret ?_
    refine bodyR_1 rfl s2 ?_
    exact h
theorem copy_a (hv : AReads E R v l) (hb : l.length ≤ 1000000) (h : SatL E w R) : Calls Try.prog 33 #[v] w (Ret fun u w' => SatL E w' (ARow u l :: R)) := by
  refine calls_x Try.func33 rfl Try.ntmps33 rfl ?_
  refine xc_gen (fun g hg => ?_)
  have s0 := (hg 0).trans arg0
  clear hg
  refine xc_seq (fun K hK1 => ?_)
  refine xc_region ?_
  refine x_val (r_assign ec) (nd_of rfl) rfl ?_
  refine xw_nil ?_
  refine hK1 _ _ ?_
  refine xc_gen (fun g hg => ?_)
  have s0 := (hg 0).trans (en rfl s0)
  have s2 := (hg 2).trans es
  clear hg
  refine xc_seq (fun K hK2 => ?_)
  refine xc_region ?_
  refine x_val (r_move s0) (nd_of rfl) rfl ?_
  refine x_enter (r_call Try.call55 (.cons es .nil)) (nd_of rfl) rfl (clone_a hv hb h) ?_
  rintro _ w h
  refine x_val (r_assign es) (nd_of rfl) rfl ?_
  refine xw_nil ?_
  refine hK2 _ _ ?_
  refine xc_gen (fun g hg => ?_)
  have s0 := (hg 0).trans (en rfl (en rfl (en rfl s0)))
  have s2 := (hg 2).trans es
  clear hg
  refine xc_ret ?_
  refine bodyR_1 rfl s2 ?_
  exact h
end
end Go.Proofs.Ytonnijghdlakfaa
