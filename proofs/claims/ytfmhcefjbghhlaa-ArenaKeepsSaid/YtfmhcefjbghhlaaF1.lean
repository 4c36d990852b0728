/-
A map of ints in memory: looked up, written, deleted from, ranged over.
-/
import Derived.Test.YtfmhcefjbghhlaaD3
import Derived.Test.YtfmhcefjbghhlaaY1
import Derived.Maps.RangeRun
import Derived.Laws.BytesString
namespace Go.Proofs.Ytfmhcefjbghhlaa
open Go Go.RowKit Go.MapKept
/-- an entry: key, value, stamp -/
abbrev KV := Int × Int × Nat
def entK (p : KV) : MapEntry := { key := .int .i64 p.1, val := .int .i64 p.2.1, born := p.2.2 }
def ents (l : List KV) : Array MapEntry := (l.map entK).toArray
structure MOk (l : List KV) (clock : Nat) : Prop where
  key : (l.map (·.1)).Nodup
  born : (l.map (·.2.2)).Nodup
  lt : ∀ p ∈ l, p.2.2 < clock
/-- key k has value v -/
def InM (l : List KV) (k v : Int) : Prop := ∃ b, (k, v, b) ∈ l
/-- a map in memory -/
def MapS (m : Nat) (l : List KV) (clock : Nat) : SProp := pt m (.map (ents l) clock)
/-- an iterator in memory -/
def IterS (r m : Nat) (since : Nat) (seen : List Nat) : SProp := pt r (.mapIter (some m) since seen.toArray since)
theorem nodup_mid {α : Type} {A C : List α} {x : α} (h : (A ++ x :: C).Nodup) : x ∉ A ∧ x ∉ C ∧ (A ++ C).Nodup := by
  rw [List.nodup_append] at h
  obtain ⟨h1, h2, h3⟩ := h
  obtain ⟨h4, h5⟩ := List.nodup_cons.1 h2
  refine ⟨fun hx => h3 x hx x List.mem_cons_self rfl, h4, ?_⟩
  rw [List.nodup_append]
  exact ⟨h1, h5, fun a ha b hb => h3 a ha b (List.mem_cons_of_mem _ hb)⟩
theorem MOk.nil : MOk [] 0 := ⟨by simp, by simp, by simp⟩
theorem MOk.put {A C : List KV} {k v v' : Int} {b clock : Nat} (h : MOk (A ++ (k, v, b) :: C) clock) : MOk (A ++ (k, v', b) :: C) clock := by
  refine ⟨?_, ?_, ?_⟩
  · have := h.key; simp only [List.map_append, List.map_cons] at this ⊢; exact this
  · have := h.born; simp only [List.map_append, List.map_cons] at this ⊢; exact this
  · intro p hp
    rcases List.mem_append.1 hp with hp | hp
    · exact h.lt p (List.mem_append_left _ hp)
    · rcases List.mem_cons.1 hp with rfl | hp
      · exact h.lt (k, v, b) (List.mem_append_right _ List.mem_cons_self)
      · exact h.lt p (List.mem_append_right _ (List.mem_cons_of_mem _ hp))
theorem MOk.del {A C : List KV} {p : KV} {clock : Nat} (h : MOk (A ++ p :: C) clock) : MOk (A ++ C) clock := by
  refine ⟨?_, ?_, ?_⟩
  · have := h.key; simp only [List.map_append, List.map_cons] at this ⊢; exact (nodup_mid this).2.2
  · have := h.born; simp only [List.map_append, List.map_cons] at this ⊢; exact (nodup_mid this).2.2
  · intro q hq
    rcases List.mem_append.1 hq with hq | hq
    · exact h.lt q (List.mem_append_left _ hq)
    · exact h.lt q (List.mem_append_right _ (List.mem_cons_of_mem _ hq))
theorem MOk.push {l : List KV} {k v : Int} {clock : Nat} (h : MOk l clock) (hk : ∀ p ∈ l, p.1 ≠ k) : MOk (l ++ [(k, v, clock)]) (clock + 1) := by
  refine ⟨?_, ?_, ?_⟩
  · rw [List.map_append, List.nodup_append]
    refine ⟨h.key, by simp, ?_⟩
    intro a ha c hc
    obtain ⟨p, hp, rfl⟩ := List.mem_map.1 ha
    simp at hc
    subst hc
    exact hk p hp
  · rw [List.map_append, List.nodup_append]
    refine ⟨h.born, by simp, ?_⟩
    intro a ha c hc
    obtain ⟨p, hp, rfl⟩ := List.mem_map.1 ha
    simp at hc
    subst hc
    have := h.lt p hp
    omega
  · intro p hp
    rcases List.mem_append.1 hp with hp | hp
    · have := h.lt p hp; omega
    · simp at hp; subst hp; exact Nat.lt_succ_self _
theorem MOk.uniq {l : List KV} {clock : Nat} (h : MOk l clock) {k v v' : Int} (h1 : InM l k v) (h2 : InM l k v') : v = v' := by
  obtain ⟨b, hb⟩ := h1
  obtain ⟨b', hb'⟩ := h2
  obtain ⟨A, C, rfl⟩ := List.append_of_mem hb
  have hn := nodup_mid (by simpa using h.key : (A.map (·.1) ++ k :: C.map (·.1)).Nodup)
  rcases List.mem_append.1 hb' with hq | hq
  · exact absurd (List.mem_map.2 ⟨_, hq, rfl⟩) hn.1
  · rcases List.mem_cons.1 hq with e | hq
    · cases e; rfl
    · exact absurd (List.mem_map.2 ⟨_, hq, rfl⟩) hn.2.1
theorem inM_put {A C : List KV} {k v v' j x : Int} {b clock : Nat} (h : MOk (A ++ (k, v, b) :: C) clock) : InM (A ++ (k, v', b) :: C) j x ↔ (j = k ∧ x = v') ∨ (j ≠ k ∧ InM (A ++ (k, v, b) :: C) j x) := by
  have hn := nodup_mid (by simpa using h.key : (A.map (·.1) ++ k :: C.map (·.1)).Nodup)
  constructor
  · rintro ⟨c, hc⟩
    rcases List.mem_append.1 hc with hc | hc
    · exact .inr ⟨fun e => hn.1 (e ▸ List.mem_map.2 ⟨_, hc, rfl⟩), c, List.mem_append_left _ hc⟩
    · rcases List.mem_cons.1 hc with e | hc
      · cases e; exact .inl ⟨rfl, rfl⟩
      · exact .inr ⟨fun e => hn.2.1 (e ▸ List.mem_map.2 ⟨_, hc, rfl⟩), c, List.mem_append_right _ (List.mem_cons_of_mem _ hc)⟩
  · rintro (⟨rfl, rfl⟩ | ⟨hne, c, hc⟩)
    · exact ⟨b, List.mem_append_right _ List.mem_cons_self⟩
    · rcases List.mem_append.1 hc with hc | hc
      · exact ⟨c, List.mem_append_left _ hc⟩
      · rcases List.mem_cons.1 hc with e | hc
        · cases e; exact absurd rfl hne
        · exact ⟨c, List.mem_append_right _ (List.mem_cons_of_mem _ hc)⟩
theorem inM_del {A C : List KV} {k v j x : Int} {b clock : Nat} (h : MOk (A ++ (k, v, b) :: C) clock) : InM (A ++ C) j x ↔ j ≠ k ∧ InM (A ++ (k, v, b) :: C) j x := by
  have hn := nodup_mid (by simpa using h.key : (A.map (·.1) ++ k :: C.map (·.1)).Nodup)
  constructor
  · rintro ⟨c, hc⟩
    rcases List.mem_append.1 hc with hc | hc
    · exact ⟨fun e => hn.1 (e ▸ List.mem_map.2 ⟨_, hc, rfl⟩), c, List.mem_append_left _ hc⟩
    · exact ⟨fun e => hn.2.1 (e ▸ List.mem_map.2 ⟨_, hc, rfl⟩), c, List.mem_append_right _ (List.mem_cons_of_mem _ hc)⟩
  · rintro ⟨hne, c, hc⟩
    rcases List.mem_append.1 hc with hc | hc
    · exact ⟨c, List.mem_append_left _ hc⟩
    · rcases List.mem_cons.1 hc with e | hc
      · cases e; exact absurd rfl hne
      · exact ⟨c, List.mem_append_right _ hc⟩
theorem inM_push {l : List KV} {k v j x : Int} {clock : Nat} (hk : ∀ p ∈ l, p.1 ≠ k) : InM (l ++ [(k, v, clock)]) j x ↔ (j = k ∧ x = v) ∨ (j ≠ k ∧ InM l j x) := by
  constructor
  · rintro ⟨c, hc⟩
    rcases List.mem_append.1 hc with hc | hc
    · exact .inr ⟨hk _ hc, c, hc⟩
    · simp at hc; exact .inl ⟨hc.1, hc.2.1⟩
  · rintro (⟨rfl, rfl⟩ | ⟨_, c, hc⟩)
    · exact ⟨clock, by simp⟩
    · exact ⟨c, List.mem_append_left _ hc⟩
theorem key_inj {p : KV} {k : Int} : (entK p).key = .int .i64 k ↔ p.1 = k := by simp [entK]
/-- the entry of a key, if it is there -/
theorem findK (l : List KV) (k : Int) : (Instr.findNow (.int .i64) (.int .i64 k) (ents l).toList 0 = some none ∧ ∀ p ∈ l, p.1 ≠ k) ∨
    ∃ A v b C, l = A ++ (k, v, b) :: C ∧ Instr.findNow (.int .i64) (.int .i64 k) (ents l).toList 0 = some (some (A.length, .int .i64 v)) := by
  have hl : (ents l).toList = l.map entK := by simp [ents]
  have hk : ∀ x ∈ (ents l).toList, IsKey (.int .i64) x.key := by
    intro x hx
    rw [hl] at hx
    obtain ⟨p, _, rfl⟩ := List.mem_map.1 hx
    rfl
  rcases findNow_spec (d := .int .i64) (k := .int .i64 k) rfl (ents l).toList 0 hk with ⟨h1, h2⟩ | ⟨j, e, h1, h2, h3⟩
  · refine .inl ⟨h1, fun p hp e => h2 (entK p) (by rw [hl]; exact List.mem_map.2 ⟨p, hp, rfl⟩) (key_inj.2 e)⟩
  · right
    rw [hl, List.getElem?_map, Option.map_eq_some_iff] at h2
    obtain ⟨p, hp, rfl⟩ := h2
    obtain rfl := key_inj.1 h3
    have hj := (List.getElem?_eq_some_iff.1 hp).1
    refine ⟨l.take j, p.2.1, p.2.2, l.drop (j + 1), ?_, ?_⟩
    · have h := List.take_append_drop j l
      rw [List.drop_eq_getElem_cons hj, (List.getElem?_eq_some_iff.1 hp).2] at h
      exact h.symm
    · rw [h1, List.length_take, Nat.min_eq_left (by omega), Nat.zero_add]; rfl
theorem ents_modify {A C : List KV} {k v v' : Int} {b : Nat} : (ents (A ++ (k, v, b) :: C)).modify A.length (fun e => { e with key := .int .i64 k, val := .int .i64 v' }) = ents (A ++ (k, v', b) :: C) := by
  apply Array.ext'
  have e : ∀ (f : MapEntry → MapEntry) (L M : List MapEntry) (x : MapEntry), (L ++ x :: M).modify L.length f = L ++ f x :: M := by
    intro f L
    induction L with
    | nil => intro M x; rfl
    | cons y L ih => intro M x; simp [ih]
  have := e (fun e => { e with key := .int .i64 k, val := .int .i64 v' }) (A.map entK) (C.map entK) (entK (k, v, b))
  rw [List.length_map] at this
  simp only [ents, List.map_append, List.map_cons, Array.toList_modify]
  rw [this]
  rfl
theorem ents_erase {A C : List KV} {p : KV} : (ents (A ++ p :: C)).eraseIdxIfInBounds A.length = ents (A ++ C) := by
  apply Array.ext'
  unfold Array.eraseIdxIfInBounds
  rw [dif_pos (by simp [ents])]
  simp only [ents, List.map_append, List.map_cons, Array.toList_eraseIdx]
  have e : ∀ (L M : List MapEntry) (x : MapEntry), (L ++ x :: M).eraseIdx L.length = L ++ M := by
    intro L
    induction L with
    | nil => intro M x; rfl
    | cons y L ih => intro M x; simp [ih]
  have := e (A.map entK) (C.map entK) (entK p)
  rw [List.length_map] at this
  exact this
theorem ents_push {l : List KV} {k v : Int} {clock : Nat} : (ents l).push { key := .int .i64 k, val := .int .i64 v, born := clock } = ents (l ++ [(k, v, clock)]) := by
  apply Array.ext'
  simp [ents, entK]
section
variable {E : Env} {L : List SProp} {w : World} {m r clock : Nat} {l : List KV} {P : Program} {t kt et ty : TypeId}
theorem SatL.mapBlock (h : SatL E w L) (k : Nat) (hk : L[k]? = some (MapS m l clock)) : w.heap[m]? = some (.map (ents l) clock) := h.block k hk
theorem SatL.setMap {l' : List KV} {clock' : Nat} (h : SatL E w (MapS m l clock :: L)) : SatL E (World.putObj w m (.map (ents l') clock')) (MapS m l' clock' :: L) := h.putObj
/-- looked up -/
theorem run_lookupM (h : SatL E w L) (k : Nat) (hk : L[k]? = some (MapS m l clock)) (hok : MOk l clock) (hu : P.underlying t = some (.map kt et)) (hi : P.underlying kt = some (.int .i64)) (hz : ∀ w, (zeroValue et).run P w = .ok (.int .i64 0) w) (key : Int) :
    ((∀ v, ¬ InM l key v) ∧ (Instr.lookup t (.map (some m)) (.int .i64 key) true).run P w = .ok (.tuple #[.int .i64 0, .bool false]) w) ∨
    ∃ v, InM l key v ∧ (Instr.lookup t (.map (some m)) (.int .i64 key) true).run P w = .ok (.tuple #[.int .i64 v, .bool true]) w := by
  have hb := h.mapBlock k hk
  rcases findK l key with ⟨h1, h2⟩ | ⟨A, v, b, C, rfl, h1⟩
  · left
    refine ⟨fun v ⟨b, hb⟩ => h2 _ hb rfl, ?_⟩
    have hf := MapKept.run_findKey (P := P) (w := w) hi h1
    simp [Instr.lookup, run_underlying hu, MapKept.run_getObj_map hb, MapKept.run_checkKey hi (k := .int .i64 key) rfl, hf, hz]
  · right
    refine ⟨v, ⟨b, by simp⟩, ?_⟩
    have hf := MapKept.run_findKey (P := P) (w := w) hi h1
    simp [Instr.lookup, run_underlying hu, MapKept.run_getObj_map hb, MapKept.run_checkKey hi (k := .int .i64 key) rfl, hf]
/-- written -/
theorem run_updateM (h : SatL E w (MapS m l clock :: L)) (hok : MOk l clock) (hu : P.underlying t = some (.map kt et)) (hi : P.underlying kt = some (.int .i64)) (key val : Int) :
    ∃ l' clock' w', (Instr.mapUpdate t (.map (some m)) (.int .i64 key) (.int .i64 val)).run P w = .ok () w' ∧ SatL E w' (MapS m l' clock' :: L) ∧ MOk l' clock' ∧ (∀ j x, InM l' j x ↔ (j = key ∧ x = val) ∨ (j ≠ key ∧ InM l j x)) ∧
      ((∃ v, InM l key v) → l'.length = l.length) ∧ ((∀ v, ¬ InM l key v) → l'.length = l.length + 1) := by
  have hb := h.mapBlock 0 rfl
  rcases findK l key with ⟨h1, h2⟩ | ⟨A, v, b, C, rfl, h1⟩
  · have hf := MapKept.run_findKey (P := P) (w := w) hi h1
    refine ⟨l ++ [(key, val, clock)], clock + 1, World.putObj w m (.map (ents (l ++ [(key, val, clock)])) (clock + 1)), ?_, h.setMap, hok.push h2, fun j x => inM_push h2, fun ⟨v, b, hv⟩ => absurd rfl (h2 _ hv), fun _ => by simp⟩
    simp [Instr.mapUpdate, run_underlying hu, MapKept.run_getObj_map hb, MapKept.run_checkKey hi (k := .int .i64 key) rfl, hf, MapKept.run_setObj_map _ hb, ents_push, World.putObj]
  · have hf := MapKept.run_findKey (P := P) (w := w) hi h1
    refine ⟨A ++ (key, val, b) :: C, clock, World.putObj w m (.map (ents (A ++ (key, val, b) :: C)) clock), ?_, h.setMap, hok.put, fun j x => inM_put hok, fun _ => by simp, fun hn => absurd ⟨b, by simp⟩ (hn v)⟩
    have hes : (ents (A ++ (key, v, b) :: C))[A.length]? = some (entK (key, v, b)) := by simp [ents]
    have hst : (Instr.keyThatStays (.int .i64 key) (.int .i64 key)).run P w = .ok (.int .i64 key) w := by simp [Instr.keyThatStays, Instr.sameBits]
    have hkk : ((some (entK (key, v, b))).map (·.key)).getD (Value.int .i64 key) = .int .i64 key := rfl
    simp [Instr.mapUpdate, run_underlying hu, MapKept.run_getObj_map hb, MapKept.run_checkKey hi (k := .int .i64 key) rfl, hf, MapKept.run_setObj_map _ hb, hes, hst, entK, World.putObj]
    rw [ents_modify]
end
end Go.Proofs.Ytfmhcefjbghhlaa
