/-
Chunks as cells, and the run equations that their functions need: slices of an array, copy, comparing.
-/
import Derived.Test.YtmfkhfmidnojhaaX7
import Derived.Laws.CopyRow
import Derived.Laws.IdiomCopy
import Derived.DeepKeys
namespace Go.Proofs.Ytmfkhfmidnojhaa
open Go Go.RowKit

def i32s (l : List Int) : List Value := l.map fun r => Value.int .i32 r
def chC (l : List Int) : Array Value := (i32s l ++ List.replicate (32 - l.length) (Value.int .i32 0) ++ [Value.int .i64 (l.length : Int)]).toArray
def rune (r : Int) : Prop := 0 ≤ r ∧ r ≤ 1114111 ∧ (r < 55296 ∨ 57343 < r)
instance (r : Int) : Decidable (rune r) := by unfold rune; infer_instance
structure ChOk (l : List Int) : Prop where
  len : l.length ≤ 32
  code : ∀ r ∈ l, rune r

theorem i32s_len {l : List Int} : (i32s l).length = l.length := by simp [i32s]
theorem i32s_one {l : List Int} : ∀ v ∈ i32s l, v.oneCell' = true := by
  intro v hv; simp only [i32s, List.mem_map] at hv; obtain ⟨r, _, rfl⟩ := hv; rfl
theorem i32s_get {l : List Int} {i : Nat} {r : Int} (h : l[i]? = some r) : (i32s l)[i]? = some (.int .i32 r) := by simp [i32s, h]
theorem ChOk.ok {l : List Int} (h : ChOk l) : Ok 33 (chC l) := by
  refine ⟨?_, fun v hv => ?_⟩
  · have := h.len; simp [chC, i32s]; omega
  · simp only [chC, List.mem_append, List.mem_replicate, List.mem_singleton] at hv
    rcases hv with (h1 | h1) | h1
    · exact i32s_one v h1
    · rw [h1.2]; rfl
    · rw [h1]; rfl
theorem chC_n {l : List Int} (h : ChOk l) : (chC l)[32]? = some (.int .i64 (l.length : Int)) := by
  have := h.len
  rw [chC, List.getElem?_toArray, List.getElem?_append_right (by simp [i32s]; omega)]
  have e : 32 - (i32s l ++ List.replicate (32 - l.length) (Value.int .i32 0)).length = 0 := by simp [i32s]; omega
  rw [e]; rfl
theorem chC_get {l : List Int} {i : Nat} {r : Int} (h : l[i]? = some r) : (chC l)[i]? = some (.int .i32 r) := by
  have hl := (List.getElem?_eq_some_iff.1 h).1
  rw [chC, List.getElem?_toArray, List.append_assoc, List.getElem?_append_left (by rw [i32s_len]; exact hl), i32s_get h]
theorem chOk_nil : ChOk [] := ⟨by simp, by simp⟩
theorem ChOk.take {l : List Int} (h : ChOk l) (k : Nat) : ChOk (l.take k) := ⟨by have := h.len; simp; omega, fun r hr => h.code r (List.mem_of_mem_take hr)⟩
theorem ChOk.drop {l : List Int} (h : ChOk l) (k : Nat) : ChOk (l.drop k) := ⟨by have := h.len; simp; omega, fun r hr => h.code r (List.mem_of_mem_drop hr)⟩
theorem ChOk.app {l m : List Int} (h : ChOk l) (h' : ChOk m) (hs : l.length + m.length ≤ 32) : ChOk (l ++ m) := ⟨by simpa using hs, fun r hr => (List.mem_append.1 hr).elim (h.code r) (h'.code r)⟩
theorem chC_inj {l m : List Int} (hl : ChOk l) (hm : ChOk m) (h : chC l = chC m) : l = m := by
  have e : (chC l)[32]? = (chC m)[32]? := by rw [h]
  rw [chC_n hl, chC_n hm] at e
  simp at e
  apply List.ext_getElem?
  intro i
  by_cases hi : i < l.length
  · have h1 := chC_get (List.getElem?_eq_getElem hi)
    have h2 := chC_get (List.getElem?_eq_getElem (show i < m.length by omega))
    rw [h, h2] at h1
    simp at h1
    rw [List.getElem?_eq_getElem hi, List.getElem?_eq_getElem (show i < m.length by omega), h1]
  · rw [List.getElem?_eq_none (by omega), List.getElem?_eq_none (by omega)]

/-- runes written behind what a chunk holds, and its number -/
theorem chC_put {l m : List Int} (hs : l.length + m.length ≤ 32) :
    (((chC l).toList.take l.length ++ i32s m ++ (chC l).toList.drop (l.length + m.length)).toArray).setIfInBounds 32 (.int .i64 ((l.length + m.length : Nat) : Int)) = chC (l ++ m) := by
  have e1 : (chC l).toList.take l.length = i32s l := by
    rw [chC, List.append_assoc]; exact List.take_left' i32s_len
  have e2 : (chC l).toList.drop (l.length + m.length) = List.replicate (32 - (l.length + m.length)) (Value.int .i32 0) ++ [Value.int .i64 (l.length : Int)] := by
    rw [chC, List.append_assoc]
    show (i32s l ++ (List.replicate (32 - l.length) (Value.int .i32 0) ++ [Value.int .i64 (l.length : Int)])).drop (l.length + m.length) = _
    rw [List.drop_append, List.drop_eq_nil_of_le (by rw [i32s_len]; omega), List.nil_append, i32s_len, show l.length + m.length - l.length = m.length by omega]
    rw [List.drop_append_of_le_length (by simp; omega), List.drop_replicate]
    congr 2
    omega
  rw [e1, e2]
  apply Array.ext'
  rw [Array.toList_setIfInBounds]
  show (i32s l ++ i32s m ++ (List.replicate (32 - (l.length + m.length)) (Value.int .i32 0) ++ [Value.int .i64 (l.length : Int)])).set 32 _ = (i32s (l ++ m) ++ List.replicate (32 - (l ++ m).length) (Value.int .i32 0) ++ [Value.int .i64 ((l ++ m).length : Int)])
  rw [← List.append_assoc, List.set_append_right _ _ (by simp [i32s]; omega)]
  have e3 : 32 - (i32s l ++ i32s m ++ List.replicate (32 - (l.length + m.length)) (Value.int .i32 0)).length = 0 := by simp [i32s]; omega
  rw [e3]
  simp [i32s]
theorem chC_put_size {l m : List Int} (h : ChOk l) (hs : l.length + m.length ≤ 32) : ((chC l).toList.take l.length ++ i32s m ++ (chC l).toList.drop (l.length + m.length)).toArray.size = 33 := by
  have := h.ok.size
  simp [i32s]; omega

theorem chC_put0 {m : List Int} (hs : m.length ≤ 32) :
    (((chC []).toList.take 0 ++ m.map (fun r => Value.int .i32 r) ++ (chC []).toList.drop (0 + m.length)).toArray).setIfInBounds 32 (.int .i64 (m.length : Int)) = chC m := by
  have h := chC_put (l := []) (m := m) (by simpa using hs)
  simp only [List.length_nil, Nat.zero_add, List.nil_append] at h ⊢
  exact h
theorem chC_put0_get {m : List Int} (hs : m.length ≤ 32) : ∃ u, (((chC []).toList.take 0 ++ m.map (fun r => Value.int .i32 r) ++ (chC []).toList.drop (0 + m.length)).toArray)[32]? = some u := by
  have h := chC_put_size (l := []) (m := m) chOk_nil (by simpa using hs)
  simp only [List.length_nil, Nat.zero_add, i32s] at h ⊢
  exact ⟨_, Array.getElem?_eq_getElem (by omega)⟩

section
variable {P : Program} {f : Nat → Value} {w : World} {d : Option Tmp} {ty : TypeId} {pos : String} {af : Array Edge} {g : Option (Tmp × Bool)}
/-! a slice of an array of 32 -/
theorem r_sliceArr {T e : TypeId} {x : Operand} {s N b : Nat} (hu : P.underlying T = some (.array N e)) (hs : ∀ w, (sizeOf e).run P w = .ok s w) (_hN : (N == 0) = false) (hx : ev f x = .pointer (some ⟨b, 0, none⟩)) :
    (execOp (ev f) ⟨d, .slice T x none none none, ty, pos, af, g⟩).run P w = .ok (.value (.slice (some ⟨b, 0, none⟩) N N)) w := by
  simp [execOp, hx, Instr.sliceAt, Instr.sliceBounds, Instr.sureAddr, run_underlying hu, hs, add_pt]
theorem r_sliceArrTo {T e : TypeId} {x y : Operand} {s N b h : Nat} {kk : IntKind} (hu : P.underlying T = some (.array N e)) (hs : ∀ w, (sizeOf e).run P w = .ok s w) (_hN : (N == 0) = false) (hx : ev f x = .pointer (some ⟨b, 0, none⟩))
    (hy : ev f y = .int kk (h : Int)) (hh : h ≤ N) :
    (execOp (ev f) ⟨d, .slice T x none (some y) none, ty, pos, af, g⟩).run P w = .ok (.value (.slice (some ⟨b, 0, none⟩) h N)) w := by
  simp [execOp, hx, hy, Instr.sliceAt, Instr.sliceBounds, Instr.sliceBound, asIntOf, Instr.sureAddr, run_underlying hu, hs, hh, add_pt]
theorem r_sliceArrFrom {T e : TypeId} {x y : Operand} {s N b l : Nat} {kk : IntKind} (hu : P.underlying T = some (.array N e)) (hs : ∀ w, (sizeOf e).run P w = .ok s w) (hx : ev f x = .pointer (some ⟨b, 0, none⟩))
    (hy : ev f y = .int kk (l : Int)) (hl : l ≤ N) :
    (execOp (ev f) ⟨d, .slice T x (some y) none none, ty, pos, af, g⟩).run P w = .ok (.value (.slice (some ⟨b, if N = l then 0 else l * s, none⟩) (N - l) (N - l))) w := by
  by_cases hc : N = l
  · subst hc
    simp [execOp, hx, hy, Instr.sliceAt, Instr.sliceBounds, Instr.sliceBound, asIntOf, Instr.sureAddr, run_underlying hu, hs]
  · simp [execOp, hx, hy, Instr.sliceAt, Instr.sliceBounds, Instr.sliceBound, asIntOf, Instr.sureAddr, run_underlying hu, hs, hl, hc, add_pt]
theorem r_sliceArrFT {T e : TypeId} {x y z : Operand} {s N b l h : Nat} {kk kk' : IntKind} (hu : P.underlying T = some (.array N e)) (hs : ∀ w, (sizeOf e).run P w = .ok s w) (hx : ev f x = .pointer (some ⟨b, 0, none⟩))
    (hy : ev f y = .int kk (l : Int)) (hz : ev f z = .int kk' (h : Int)) (hl : l ≤ h) (hh : h ≤ N) :
    (execOp (ev f) ⟨d, .slice T x (some y) (some z) none, ty, pos, af, g⟩).run P w = .ok (.value (.slice (some ⟨b, if N = l then 0 else l * s, none⟩) (h - l) (N - l))) w := by
  have hlN : l ≤ N := by omega
  by_cases hc : N = l
  · subst hc
    obtain rfl : h = N := by omega
    simp [execOp, hx, hy, hz, Instr.sliceAt, Instr.sliceBounds, Instr.sliceBound, asIntOf, Instr.sureAddr, run_underlying hu, hs]
  · simp [execOp, hx, hy, hz, Instr.sliceAt, Instr.sliceBounds, Instr.sliceBound, asIntOf, Instr.sureAddr, run_underlying hu, hs, hl, hh, hc, add_pt]
theorem r_indexArr {T e : TypeId} {x y : Operand} {s N b i : Nat} {kk : IntKind} (hu : P.underlying T = some (.array N e)) (hs : ∀ w, (sizeOf e).run P w = .ok s w) (hx : ev f x = .pointer (some ⟨b, 0, none⟩))
    (hy : ev f y = .int kk (i : Int)) (hi : i < N) :
    (execOp (ev f) ⟨d, .indexAddr T x y, ty, pos, af, g⟩).run P w = .ok (.value (.pointer (some ⟨b, i * s, none⟩))) w := by
  simp [execOp, hx, hy, Instr.indexAt, Instr.sureAddr, asIntOf, run_underlying hu, hs, hi, add_pt]
theorem r_loadCell {T : TypeId} {x : Operand} {a : Addr} {v : Value} (ha : ∀ w, (isAgg T).run P w = .ok false w) (hx : ev f x = .pointer (some a)) (hc : w.cell? a = some v) :
    (execOp (ev f) ⟨d, .load T x, ty, pos, af, g⟩).run P w = .ok (.value v) w := by
  simp [execOp, hx, Instr.loadAt, Instr.sureAddr, loadVar, ha, hc]
theorem r_buildZ {T : TypeId} {f0 f1 : Field} {zs : Array Value} {s0 s1 : Nat} (hu : P.underlying T = some (.struct #[f0, f1])) (hz : ∀ w, (zeroValue T).run P w = .ok (.agg zs) w) (hs0 : ∀ w, (sizeOf f0.type).run P w = .ok s0 w) (hs1 : ∀ w, (sizeOf f1.type).run P w = .ok s1 w) :
    (execOp (ev f) ⟨d, .build T #[], ty, pos, af, g⟩).run P w = .ok (.value (.agg zs)) w := r_build02 hu hz hs0 hs1

/-- a slice whose ints can be read now -/
def ReadsW (w : World) (v : Value) (k : IntKind) (zs : List Int) : Prop :=
  ∃ a cap, v = .slice a zs.length cap ∧ zs.length ≤ cap ∧ cap ≤ maxLen ∧ ∀ (i : Nat) (r : Int), zs[i]? = some r → ∃ a', a = some a' ∧ w.cell? (a'.add i) = some (.int k r)
/-- a slice whose ints can be read wherever the list of assertions holds -/
def Reads (E : Env) (R : List SProp) (v : Value) (k : IntKind) (zs : List Int) : Prop := ∀ w, SatL E w R → ReadsW w v k zs
theorem run_copy_reads {dT sT ty elem : TypeId} {g o dLen dCap : Nat} {cur : Array Value} {t : TypeId} {v : Value} {k : IntKind} {zs : List Int}
    (hu : P.underlying dT = some (.slice elem)) (hs : (P.info? elem).map (·.size) = some 1) (hg : w.heap[g]? = some (.cells cur t (0, 0))) (hv : ReadsW w v k zs) (hd : zs.length ≤ dLen) (hfit : o + zs.length ≤ cur.size) :
    (Builtin.copy_ #[dT, sT] ty #[.slice (some ⟨g, o, none⟩) dLen dCap, v]).run P w = .ok (.int .i64 (zs.length : Int)) (w.setRow g (cur.toList.take o ++ zs.map (fun r => Value.int k r) ++ cur.toList.drop (o + zs.length)).toArray) := by
  obtain ⟨a, cap, rfl, _, _, hr⟩ := hv
  have hmin : Nat.min zs.length dLen = zs.length := Nat.min_eq_left hd
  cases a with
  | none =>
    have hz : zs = [] := by
      cases zs with
      | nil => rfl
      | cons r zs => obtain ⟨a', h, _⟩ := hr 0 r rfl; cases h
    subst hz
    rw [run_copy_none w dT sT ty elem _ _ dLen dCap _ cap hu hs hmin]
    have e : (cur.toList.take o ++ ([] : List Int).map (fun r => Value.int k r) ++ cur.toList.drop (o + ([] : List Int).length)).toArray = cur := by simp
    rw [e, setRow_self w g cur t (0, 0) hg]; rfl
  | some a =>
    have h1 := run_copy_row (P := P) w dT sT ty elem g o dLen dCap a zs.length cap cur t (zs.map fun r => Value.int k r) hu hs hg (by simp [hmin]) (fun j u hj => by
      rw [List.getElem?_map] at hj
      obtain ⟨r, hj1, rfl⟩ := Option.map_eq_some_iff.1 hj
      obtain ⟨a', h, hc⟩ := hr j r hj1
      cases h; exact hc) (by simpa using hfit) (fun u hu => by simp only [List.mem_map] at hu; obtain ⟨r, _, rfl⟩ := hu; rfl)
    rw [h1]
    simp [goInt]
end

section
variable {ro : Option Nat} {P : Program} {ops : Array Oper} {R : Exit → (Nat → Value) → World → Prop} {n : Nat} {ds : List Deferred} {f : Nat → Value} {w : World} {E : Env} {L : List SProp}
theorem r_copy {d : Option Tmp} {ty dT sT : TypeId} {pos : String} {af : Array Edge} {g : Option (Nat × Bool)} {x y : Operand} {a b v' : Value} {w' : World} (hx : ev f x = a) (hy : ev f y = b)
    (hr : (Builtin.copy_ #[dT, sT] ty #[a, b]).run P w = .ok v' w') : (execOp (ev f) ⟨d, .call { callee := .builtin .copy, args := #[x, y], argTypes := #[dT, sT] }, ty, pos, af, g⟩).run P w = .ok (.value v') w' := by
  simp [execOp, resolve, invoke, builtin, hx, hy, hr]
theorem x_copy {d : Nat} {dT sT ty elem : TypeId} {b o dLen dCap : Nat} {cur : Array Value} {t : TypeId} {v : Value} {k : IntKind} {zs : List Int} {x y : Operand} {pos : String} {af : Array Edge} {rest : List Oper}
    (h : SatL E w (Cells b cur t :: L)) (hu : P.underlying dT = some (.slice elem)) (hs : (P.info? elem).map (·.size) = some 1) (hx : ev f x = .slice (some ⟨b, o, none⟩) dLen dCap) (hy : ev f y = v) (hv : ReadsW w v k zs) (hd : zs.length ≤ dLen) (hfit : o + zs.length ≤ cur.size) (hn : Nat.blt d n = true)
    (hnext : ∀ w', SatL E w' (Cells b (cur.toList.take o ++ zs.map (fun r => Value.int k r) ++ cur.toList.drop (o + zs.length)).toArray t :: L) → xw ro P ops R n ds rest (upd f d (.int .i64 (zs.length : Int))) w') :
    xw ro P ops R n ds (⟨some d, .call { callee := .builtin .copy, args := #[x, y], argTypes := #[dT, sT] }, ty, pos, af, none⟩ :: rest) f w :=
  x_val (r_copy hx hy (run_copy_reads hu hs (h.block 0 rfl) hv hd hfit)) (nd_of rfl) hn (hnext _ (h.r0 rfl))
theorem xp_copy {S : World → Prop} {zz i : Nat} {plan : List (Nat × Nat)} {d : Nat} {dT sT ty elem : TypeId} {b o dLen dCap : Nat} {cur : Array Value} {t : TypeId} {v : Value} {k : IntKind} {zs : List Int} {x y : Operand} {pos : String} {af : Array Edge}
    (h : SatL E w (Cells b cur t :: L)) (hi : ops[i]? = some ⟨some d, .call { callee := .builtin .copy, args := #[x, y], argTypes := #[dT, sT] }, ty, pos, af, none⟩) (hu : P.underlying dT = some (.slice elem)) (hs : (P.info? elem).map (·.size) = some 1)
    (hx : ev f x = .slice (some ⟨b, o, none⟩) dLen dCap) (hy : ev f y = v) (hv : ReadsW w v k zs) (hd : zs.length ≤ dLen) (hfit : o + zs.length ≤ cur.size) (hn : Nat.blt d n = true)
    (hnext : ∀ w', SatL E w' (Cells b (cur.toList.take o ++ zs.map (fun r => Value.int k r) ++ cur.toList.drop (o + zs.length)).toArray t :: L) → (i ≠ zz → S w') ∧ xp P ops S zz R n ds plan (upd f d (.int .i64 (zs.length : Int))) w') : xp P ops S zz R n ds ((i, 0) :: plan) f w :=
  have h1 := hnext _ (h.r0 rfl)
  xp_val hi (r_copy hx hy (run_copy_reads hu hs (h.block 0 rfl) hv hd hfit)) hn h1.1 h1.2
end

/-! comparing -/
theorem mapM_all {α β : Type} {g : α → Option β} {r : α → β} : ∀ (l : List α), (∀ i ∈ l, g i = some (r i)) → l.mapM g = some (l.map r)
  | [], _ => rfl
  | a :: l, h => by rw [List.mapM_cons, h a (by simp), mapM_all l (fun i hi => h i (by simp [hi]))]; rfl
theorem flat_one {α β : Type} (r : α → β) : ∀ l : List α, (l.map fun i => [r i]).flatten = l.map r
  | [] => rfl
  | a :: l => by simp [flat_one r l]
theorem range_getD (l : List Int) : (List.range l.length).map (fun i => l.getD i 0) = l := by
  apply List.ext_getElem?
  intro i
  by_cases hi : i < l.length
  · simp [hi]
  · simp [hi]
theorem keyLits_ints {P : Program} {t e : TypeId} {n d : Nat} {k : IntKind} (hu : P.underlying t = some (.array n e)) (he : P.underlying e = some (.int k)) (hct : P.cellsOf t = n) (hce : P.cellsOf e = 1) (l : List Int) (hl : l.length = n) (hw : ∀ x ∈ l, (Lit.int k x).wf = true) :
    P.keyLits (d + 2) t (l.map fun x => Value.int k x) = some (l.map fun x => Lit.int k x) := by
  subst hl
  have e0 : P.keyLits (d + 2) t (l.map fun x => Value.int k x) = (if (l.map fun x => Value.int k x).length = P.cellsOf t then ((List.range l.length).mapM fun i => P.keyLits (d + 1) e (((l.map fun x => Value.int k x).drop (i * P.cellsOf e)).take (P.cellsOf e))).map List.flatten else none) := by
    rw [Program.keyLits]
    exact hu
  rw [e0]
  simp only [List.length_map, hct, if_true]
  rw [mapM_all (r := fun i => [Lit.int k (l.getD i 0)]) _ (fun i hi => ?_)]
  · simp only [Option.map_some, Option.some.injEq]
    rw [flat_one]
    have h1 : (List.range l.length).map (fun i => Lit.int k (l.getD i 0)) = ((List.range l.length).map (fun i => l.getD i 0)).map (fun x => Lit.int k x) := by rw [List.map_map]; rfl
    rw [h1, range_getD]
  · have hi' : i < l.length := by simpa using hi
    have e1 : ((l.map fun x => Value.int k x).drop (i * P.cellsOf e)).take (P.cellsOf e) = [Value.int k (l.getD i 0)] := by
      rw [hce, Nat.mul_one, List.drop_eq_getElem_cons (by simpa using hi')]
      simp [hi']
    have h1 := hw l[i] (List.getElem_mem hi')
    have h2 : l.getD i 0 = l[i] := by simp [hi']
    rw [e1, h2, Program.keyLits, if_pos ⟨rfl, h1⟩]
    exact he
/-- two rows of 32 runes are compared -/
theorem i32_wf {r : Int} (h : rune r) : (Lit.int .i32 r).wf = true := by
  obtain ⟨h1, h2, _⟩ := h
  simp [Lit.wf, IntKind.min, IntKind.max, IntKind.bits, IntKind.signed]
  omega
section
variable {P : Program} {f : Nat → Value} {w : World} {d : Option Tmp} {ty : TypeId} {pos : String} {af : Array Edge} {g : Option (Tmp × Bool)}
def chR (l : List Int) : List Int := l ++ List.replicate (32 - l.length) 0
theorem chR_len {l : List Int} (h : ChOk l) : (chR l).length = 32 := by have := h.len; simp [chR]; omega
theorem chR_wf {l : List Int} (h : ChOk l) : ∀ r ∈ chR l, (Lit.int .i32 r).wf = true := by
  intro r hr
  rcases List.mem_append.1 hr with h1 | h1
  · exact i32_wf (h.code r h1)
  · rw [(List.mem_replicate.1 h1).2]; decide
theorem chC_eq {l : List Int} : chC l = ((chR l).map (fun r => Value.int .i32 r) ++ [Value.int .i64 (l.length : Int)]).toArray := by simp [chC, chR, i32s]
theorem run_eqCh {T : TypeId} {l m : List Int} {f0 f1 : Field} {I : TypeId} (hl : ChOk l) (hm : ChOk m)
    (hu : P.underlying T = some (.struct #[f0, f1])) (hA : P.underlying f0.type = some (.array 32 I)) (hI : P.underlying I = some (.int .i32)) (hN : P.underlying f1.type = some (.int .i64))
    (hc : P.cellsOf T = 33) (hcA : P.cellsOf f0.type = 32) (hcI : P.cellsOf I = 1) (hcN : P.cellsOf f1.type = 1) (ho0 : f0.offset = 0) (ho1 : f1.offset = 32) (hn0 : f0.name ≠ "_") (hn1 : f1.name ≠ "_") (hk : P.keyTypeAt 3 T = true) {r : Bool} (hr : decide (l = m) = r) : (Op.equal T (.agg (chC l)) (.agg (chC m))).run P w = .ok r w := by
  have key : ∀ {l : List Int}, ChOk l → P.keyLits 4 T (Value.agg (chC l)).cells.toList = some ((chR l).map (fun r => Lit.int .i32 r) ++ [Lit.int .i64 (l.length : Int)]) := by
    intro l hl
    have e1 : (Value.agg (chC l)).cells.toList = (chR l).map (fun r => Value.int .i32 r) ++ [Value.int .i64 (l.length : Int)] := by rw [chC_eq]; rfl
    have hlen := chR_len hl
    have h1 := keyLits_ints (d := 1) hA hI hcA hcI (chR l) hlen (chR_wf hl)
    have h2 : P.keyLits 3 f1.type [Value.int .i64 (l.length : Int)] = some [Lit.int .i64 (l.length : Int)] := by
      have := hl.len
      rw [Program.keyLits, if_pos ⟨rfl, by simp [Lit.wf, IntKind.min, IntKind.max, IntKind.bits, IntKind.signed]; omega⟩]
      exact hN
    rw [e1]
    have e0 : P.keyLits 4 T ((chR l).map (fun r => Value.int .i32 r) ++ [Value.int .i64 (l.length : Int)]) = (if ((chR l).map (fun r => Value.int .i32 r) ++ [Value.int .i64 (l.length : Int)]).length = P.cellsOf T ∧ (#[f0, f1] : Array Field).all (·.name != "_") = true then ((#[f0, f1] : Array Field).toList.mapM fun f => P.keyLits 3 f.type ((((chR l).map (fun r => Value.int .i32 r) ++ [Value.int .i64 (l.length : Int)]).drop f.offset).take (P.cellsOf f.type))).map List.flatten else none) := by
      rw [Program.keyLits.eq_6 _ _ _ _ _ hu]
    rw [e0, if_pos ⟨by simp [hlen, hc], by simp [hn0, hn1]⟩]
    have t0 : (((chR l).map (fun r => Value.int .i32 r) ++ [Value.int .i64 (l.length : Int)]).drop f0.offset).take (P.cellsOf f0.type) = (chR l).map (fun r => Value.int .i32 r) := by
      rw [ho0, hcA, List.drop_zero]; exact List.take_left' (by simp [hlen])
    have t1 : (((chR l).map (fun r => Value.int .i32 r) ++ [Value.int .i64 (l.length : Int)]).drop f1.offset).take (P.cellsOf f1.type) = [Value.int .i64 (l.length : Int)] := by
      rw [ho1, hcN, List.drop_left' (by simp [hlen])]; rfl
    simp only [List.mapM_cons, List.mapM_nil, t0, t1, h1, h2]
    rfl
  have fm : ∀ {l : List Int}, ChOk l → (Value.agg (chC l)).formed P T = true := by
    intro l hl
    simp [Value.formed, hu, hl.ok.size, hc]
  obtain ⟨rr, hrr, hiff⟩ := run_equalIn_deep (P := P) 9997 3 T hk w 4 4 (.agg (chC l)) (.agg (chC m)) _ _ (fm hl) (fm hm) (key hl) (key hm)
  have hrl : rr = r := by
    subst hr
    rw [Bool.eq_iff_iff, hiff, decide_eq_true_iff]
    constructor
    · intro h
      have h3 : chC l = chC m := by
        have h4 := congrArg (List.map fun t => match t with | Lit.int k n => Value.int k n | _ => Value.bool true) h
        rw [chC_eq, chC_eq]
        congr 1
        simpa [List.map_map, Function.comp_def] using h4
      exact chC_inj hl hm h3
    · rintro rfl; rfl
  subst hrl
  exact hrr
theorem r_eqCh {T yt : TypeId} {x y : Operand} {l m : List Int} {f0 f1 : Field} {I : TypeId} (hl : ChOk l) (hm : ChOk m) (hx : ev f x = .agg (chC l)) (hy : ev f y = .agg (chC m))
    (hu : P.underlying T = some (.struct #[f0, f1])) (hA : P.underlying f0.type = some (.array 32 I)) (hI : P.underlying I = some (.int .i32)) (hN : P.underlying f1.type = some (.int .i64))
    (hc : P.cellsOf T = 33) (hcA : P.cellsOf f0.type = 32) (hcI : P.cellsOf I = 1) (hcN : P.cellsOf f1.type = 1) (ho0 : f0.offset = 0) (ho1 : f1.offset = 32) (hn0 : f0.name ≠ "_") (hn1 : f1.name ≠ "_") (hk : P.keyTypeAt 3 T = true)
    (hg : P.eqGuardType P.depth T = false) {r : Bool} (hr : decide (l = m) = r) :
    (execOp (ev f) ⟨d, .binOp .eql T x y yt, ty, pos, af, g⟩).run P w = .ok (.value (.bool r)) w := by
  have e2 := run_eqCh (w := w) hl hm hu hA hI hN hc hcA hcI hcN ho0 ho1 hn0 hn1 hk rfl
  subst hr
  simp [execOp, hx, hy, eqGuard, hg, binOp, e2]
theorem r_neqCh {T yt : TypeId} {x y : Operand} {l m : List Int} {f0 f1 : Field} {I : TypeId} (hl : ChOk l) (hm : ChOk m) (hx : ev f x = .agg (chC l)) (hy : ev f y = .agg (chC m))
    (hu : P.underlying T = some (.struct #[f0, f1])) (hA : P.underlying f0.type = some (.array 32 I)) (hI : P.underlying I = some (.int .i32)) (hN : P.underlying f1.type = some (.int .i64))
    (hc : P.cellsOf T = 33) (hcA : P.cellsOf f0.type = 32) (hcI : P.cellsOf I = 1) (hcN : P.cellsOf f1.type = 1) (ho0 : f0.offset = 0) (ho1 : f1.offset = 32) (hn0 : f0.name ≠ "_") (hn1 : f1.name ≠ "_") (hk : P.keyTypeAt 3 T = true)
    (hg : P.eqGuardType P.depth T = false) {r : Bool} (hr : (!decide (l = m)) = r) :
    (execOp (ev f) ⟨d, .binOp .neq T x y yt, ty, pos, af, g⟩).run P w = .ok (.value (.bool r)) w := by
  have e2 := run_eqCh (w := w) hl hm hu hA hI hN hc hcA hcI hcN ho0 ho1 hn0 hn1 hk rfl
  subst hr
  simp [execOp, hx, hy, eqGuard, hg, binOp, e2]
end
end Go.Proofs.Ytmfkhfmidnojhaa
