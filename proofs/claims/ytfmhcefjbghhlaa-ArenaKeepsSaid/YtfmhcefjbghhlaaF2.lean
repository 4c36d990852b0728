/-
A map of ints in memory: deleted from, counted, ranged over; the texts.
-/
import Derived.Test.YtfmhcefjbghhlaaF1
namespace Go.Proofs.Ytfmhcefjbghhlaa
open Go Go.RowKit Go.MapKept
section
variable {E : Env} {L : List SProp} {w : World} {m r clock : Nat} {l : List KV} {P : Program} {t kt et ty : TypeId}
/-- deleted from -/
theorem run_deleteM (h : SatL E w (MapS m l clock :: L)) (hok : MOk l clock) (hu : P.underlying t = some (.map kt et)) (hi : P.underlying kt = some (.int .i64)) (key : Int) :
    ∃ l' w', (Builtin.delete_ #[t, kt] ty #[.map (some m), .int .i64 key]).run P w = .ok (.tuple #[]) w' ∧ SatL E w' (MapS m l' clock :: L) ∧ MOk l' clock ∧ (∀ j x, InM l' j x ↔ j ≠ key ∧ InM l j x) ∧
      ((∃ v, InM l key v) → l'.length + 1 = l.length) ∧ ((∀ v, ¬ InM l key v) → l' = l) := by
  have hb := h.mapBlock 0 rfl
  rcases findK l key with ⟨h1, h2⟩ | ⟨A, v, b, C, rfl, h1⟩
  · have hf := MapKept.run_findKey (P := P) (w := w) hi h1
    refine ⟨l, World.putObj w m (.map (ents l) clock), ?_, h.setMap, hok, fun j x => ⟨fun hx => ⟨fun e => by obtain ⟨b, hb⟩ := hx; exact h2 _ hb e, hx⟩, fun hx => hx.2⟩, fun ⟨v, b, hv⟩ => absurd rfl (h2 _ hv), fun _ => rfl⟩
    simp [Builtin.delete_, run_underlying hu, MapKept.run_getObj_map hb, MapKept.run_checkKey hi (k := .int .i64 key) rfl, hf, MapKept.run_setObj_map _ hb, World.putObj]
  · have hf := MapKept.run_findKey (P := P) (w := w) hi h1
    refine ⟨A ++ C, World.putObj w m (.map (ents (A ++ C)) clock), ?_, h.setMap, hok.del, fun j x => inM_del hok, fun _ => by simp; omega, fun hn => absurd ⟨b, by simp⟩ (hn v)⟩
    simp [Builtin.delete_, run_underlying hu, MapKept.run_getObj_map hb, MapKept.run_checkKey hi (k := .int .i64 key) rfl, hf, MapKept.run_setObj_map _ hb, ents_erase, World.putObj]
/-- counted -/
theorem run_lenM (h : SatL E w L) (k : Nat) (hk : L[k]? = some (MapS m l clock)) (hu : P.underlying t = some (.map kt et)) : (Builtin.len_ #[t] ty #[.map (some m)]).run P w = .ok (.int .i64 (l.length : Int)) w := by
  have hb := h.mapBlock k hk
  have hs : (ents l).size = l.length := by simp [ents]
  simp [Builtin.len_, run_underlying hu, MapKept.run_getObj_map hb, hs, goInt]
/-- what an iterator has left -/
def leftK (l : List KV) (seen : List Nat) : List KV := l.filter fun p => !seen.contains p.2.2
theorem left_eq {seen : List Nat} : (leftOf (ents l) seen.toArray).toList = (leftK l seen).map entK := by
  unfold leftOf leftK ents
  rw [Array.toList_filter, List.filter_map]
  congr 1
  apply List.filter_congr
  intro p hp
  simp [Function.comp, entK]
theorem filter_lt {α : Type} {p q : α → Bool} : ∀ {l : List α}, (∀ x ∈ l, q x = true → p x = true) → (∃ x ∈ l, p x = true ∧ q x = false) → (l.filter q).length < (l.filter p).length
  | [], _, ⟨x, hx, _⟩ => by cases hx
  | y :: l, h, ⟨x, hx, h1, h2⟩ => by
    have hle : (l.filter q).length ≤ (l.filter p).length := by
      have : ∀ l : List α, (∀ x ∈ l, q x = true → p x = true) → (l.filter q).length ≤ (l.filter p).length := by
        intro l
        induction l with
        | nil => intro _; simp
        | cons z l ih =>
          intro hz
          have ih := ih (fun x hx => hz x (List.mem_cons_of_mem _ hx))
          have hz0 := hz z List.mem_cons_self
          cases hq : q z <;> cases hp : p z <;> simp [hq, hp] <;> simp [hq, hp] at hz0 <;> omega
      exact this l (fun x hx => h x (List.mem_cons_of_mem _ hx))
    rcases List.mem_cons.1 hx with rfl | hx
    · simp only [List.filter_cons, h1, h2, if_true, List.length_cons]
      simp
      omega
    · have ih := filter_lt (l := l) (fun x hx => h x (List.mem_cons_of_mem _ hx)) ⟨x, hx, h1, h2⟩
      have hz0 := h y List.mem_cons_self
      cases hq : q y <;> cases hp : p y <;> simp [hq, hp] <;> simp [hq, hp] at hz0 <;> omega
theorem left_lt {seen : List Nat} {p : KV} (hp : p ∈ leftK l seen) : (leftK l (seen ++ [p.2.2])).length < (leftK l seen).length := by
  obtain ⟨h1, h2⟩ := List.mem_filter.1 hp
  refine filter_lt (fun x hx h => ?_) ⟨p, h1, h2, by simp⟩
  simp only [List.contains_append, Bool.not_or, Bool.and_eq_true] at h
  exact h.1
/-- a step of an iterator -/
theorem run_nextM {seen : List Nat} (h : SatL E w (IterS r m clock seen :: MapS m l clock :: L)) (hok : MOk l clock) :
    (Instr.next (.pointer (some ⟨r, 0, none⟩)) false ty).run P w = .ok (.tuple #[.bool false]) w ∨
    ∃ p ∈ leftK l seen, ∃ w', (Instr.next (.pointer (some ⟨r, 0, none⟩)) false ty).run P w = .ok (.tuple #[.bool true, .int .i64 p.1, .int .i64 p.2.1]) w' ∧ SatL E w' (IterS r m clock (seen ++ [p.2.2]) :: MapS m l clock :: L) := by
  have hr := h.block 0 rfl
  have hb := h.mapBlock 1 rfl
  rcases run_next_at (P := P) w ty r m clock clock seen.toArray (ents l) clock hr hb (fun x hx => by
    simp [ents] at hx
    obtain ⟨k, v, b, hp, rfl⟩ := hx
    exact hok.lt _ hp) (Nat.le_refl _) with ⟨_, h1⟩ | ⟨e, he, w1, hw1, h1⟩
  · exact .inl h1
  · right
    rw [left_eq] at he
    obtain ⟨p, hp, rfl⟩ := List.mem_map.1 he
    refine ⟨p, hp, _, h1, ?_⟩
    have h2 : SatL E w1 (IterS r m clock seen :: MapS m l clock :: L) := by
      rcases hw1 with rfl | rfl
      · exact h
      · exact h.drew
    have h3 := h2.putObj (o' := .mapIter (some m) clock (seen ++ [p.2.2]).toArray clock)
    have e : (seen.toArray.push p.2.2) = (seen ++ [p.2.2]).toArray := by simp
    rw [show (entK p).born = p.2.2 from rfl, e]
    exact h3
/-- the entry of the step -/
theorem run_entryM {seen : List Nat} {p : KV} (h : SatL E w (IterS r m clock (seen ++ [p.2.2]) :: MapS m l clock :: L)) (hok : MOk l clock) (hp : p ∈ l) :
    (Instr.entry (.pointer (some ⟨r, 0, none⟩))).run P w = .ok (.tuple #[.int .i64 p.1, .int .i64 p.2.1]) w := by
  have hr := h.block 0 rfl
  have hb := h.mapBlock 1 rfl
  have e : (seen ++ [p.2.2]).toArray = seen.toArray.push p.2.2 := by simp
  rw [e] at hr
  exact run_entry_at w r m clock seen.toArray (ents l) clock (entK p) hr hb (by simp only [ents, List.mem_map]; exact ⟨p, hp, rfl⟩) (by
    have : (ents l).toList.map (·.born) = l.map (·.2.2) := by simp [ents, entK, Function.comp]
    rw [this]; exact hok.born)
end
end Go.Proofs.Ytfmhcefjbghhlaa
