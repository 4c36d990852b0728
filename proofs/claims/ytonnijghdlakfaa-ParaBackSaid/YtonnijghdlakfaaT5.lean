/-
A tree cut at a place.
-/
import Derived.Test.YtonnijghdlakfaaT4
namespace Go.Proofs.Ytonnijghdlakfaa
open Go Go.RowKit
/-- things cut at a place -/
def splitL : List X → Nat → List X × List X
  | [], _ => ([], [])
  | x :: l, i => if i = 0 then ([], x :: l) else if xS x ≤ i then (x :: (splitL l (i - xS x)).1, (splitL l (i - xS x)).2) else ([(xCut x i).1], (xCut x i).2 :: l)
def Ps (l : List X) : Prop := ∀ x ∈ l, 0 < xS x
theorem splitL_le : ∀ (l : List X) (i : Nat), sz (splitL l i).1 ≤ sz l ∧ sz (splitL l i).2 ≤ sz l ∧ mks (splitL l i).1 ≤ mks l ∧ mks (splitL l i).2 ≤ mks l ∧ (splitL l i).1.length ≤ l.length ∧ (splitL l i).2.length ≤ l.length
  | [], i => by simp [splitL]
  | x :: l, i => by
    have ih := splitL_le l (i - xS x)
    unfold splitL
    split
    · simp [sz, mks]
    · split
      · simp only [sz, mks, List.length_cons]; omega
      · have h1 : i < xS x := by omega
        have e1 := xS_cut1 (by omega) h1
        have e2 := xS_cut2 h1
        have e3 := xM_cut1 (x := x) (i := i)
        have e4 := xM_cut2 (x := x) (i := i)
        simp only [sz, mks, List.length_cons, List.length_nil]; omega
theorem split_le : ∀ (a c : List X) (i : Nat), i ≤ sz a → splitL (a ++ c) i = ((splitL a i).1, (splitL a i).2 ++ c)
  | [], c, i, h => by
    simp only [sz] at h
    obtain rfl : i = 0 := by omega
    cases c <;> simp [splitL]
  | x :: a, c, i, h => by
    simp only [sz] at h
    simp only [List.cons_append, splitL]
    split
    · rfl
    · split
      · rw [split_le a c (i - xS x) (by omega)]
      · rfl
theorem split_ge : ∀ (a c : List X) (i : Nat), Ps a → sz a ≤ i → splitL (a ++ c) i = (a ++ (splitL c (i - sz a)).1, (splitL c (i - sz a)).2)
  | [], c, i, _, _ => by simp [sz]
  | x :: a, c, i, hp, h => by
    simp only [sz] at h
    have hx := hp x (by simp)
    simp only [List.cons_append, splitL]
    rw [if_neg (by omega), if_pos (by omega), split_ge a c (i - xS x) (fun y hy => hp y (by simp [hy])) (by omega)]
    simp [sz, Nat.sub_sub]
theorem split_mid {x : X} {c : List X} {i : Nat} (h0 : 0 < i) (h1 : i < xS x) : splitL (x :: c) i = ([(xCut x i).1], (xCut x i).2 :: c) := by
  simp only [splitL]
  rw [if_neg (by omega), if_neg (by omega)]
/-- a tree cut in two -/
structure Sp (pl : Pl) (fr : List Nat) (pl' : Pl) (fr' : List Nat) (t tl tr : Tr) : Prop where
  hl : Has pl' tl
  hr : Has pl' tr
  nd : (tl.idx ++ tr.idx).Nodup
  sub : ∀ j ∈ tl.idx ++ tr.idx, j ∈ t.idx ∨ ∀ c, pl[j]? ≠ some (some c)
  keep : Keep pl pl' t.idx
  live : pl'.length + fr.length + t.xs.length = pl.length + fr'.length + (tl.xs.length + tr.xs.length)
  len : pl'.length ≤ pl.length ∨ pl'.length + fr.length ≤ pl.length + 1
section
variable {E : Env} {R : List SProp} {w : World} {bt ba : Nat} {ro : Int} {pl pl1 pl2 : Pl} {fr fr1 fr2 : List Nat} {i j k : Nat} {c0 c : Array Value} {l r a b t tl tr t' t2 : Tr} {x y : X}
theorem Sp.frame (h : Sp pl fr pl1 fr1 t tl tr) {S : List Nat} (hS : S.Nodup) (ht : ∀ j ∈ S, ∃ c, pl[j]? = some (some c)) (hd : ∀ j ∈ S, j ∉ t.idx) : ((tl.idx ++ tr.idx) ++ S).Nodup := by
  refine List.nodup_append.2 ⟨h.nd, hS, fun m hm n hn e => ?_⟩
  subst e
  obtain ⟨c, hc⟩ := ht m hn
  rcases h.sub m hm with h1 | h1
  · exact hd m hn h1
  · exact h1 c hc
theorem Sp.goL (ht : Has pl (.node i l x r)) (hn : (Tr.node i l x r).idx.Nodup) (h : Sp pl fr pl1 fr1 l tl tr) (hb : Bd (tr.xs ++ x :: r.xs)) :
    Jn pl1 tr i x r ∧ ∀ {pl2 t2}, Ch pl1 pl2 t2 (tr.xs ++ x :: r.xs) (i :: (tr.idx ++ r.idx)) → Sp pl fr pl2 fr1 (.node i l x r) tl t2 := by
  have hni := List.nodup_cons.1 hn
  have hna := List.nodup_append.1 hni.2
  have hD := h.frame (S := i :: r.idx) (List.nodup_cons.2 ⟨fun hm => hni.1 (by simp [hm]), hna.2.1⟩)
    (fun j hj => by rcases List.mem_cons.1 hj with rfl | h1; exact ⟨_, ht.1⟩; exact ht.2.2.2.taken j h1)
    (fun j hj hh => by rcases List.mem_cons.1 hj with rfl | h1; exact hni.1 (by simp [hh]); exact hna.2.2 j hh j h1 rfl)
  have hP : (tl.idx ++ (i :: (tr.idx ++ r.idx))).Perm (tl.idx ++ tr.idx ++ i :: r.idx) := perm_of fun m => by simp only [List.count_append, List.count_cons]; ac_rfl
  have hD2 := List.nodup_append.1 (hP.nodup_iff.2 hD)
  have hsl : Slot pl1 i x := ht.slot.keep h.keep (fun hm => hni.1 (by simp [hm]))
  have hr1 : Has pl1 r := ht.2.2.2.keep h.keep (fun m hm hh => hna.2.2 m hh m hm rfl)
  refine ⟨⟨h.hr, hsl, hr1, hD2.2.1, hb⟩, fun {pl2 t2} hc => ⟨h.hl.keep hc.keep (fun m hm hh => hD2.2.2 m hm m hh rfl), hc.has, ?_, ?_, ?_, ?_, ?_⟩⟩
  · exact ((hc.idx.append_left tl.idx).nodup_iff).2 (hP.nodup_iff.2 hD)
  · intro m hm
    have hm2 : m ∈ tl.idx ++ (i :: (tr.idx ++ r.idx)) := (hc.idx.append_left tl.idx).subset hm
    have hm3 := hP.subset hm2
    rcases List.mem_append.1 hm3 with h1 | h1
    · rcases h.sub m h1 with h2 | h2
      · exact .inl (by simp [Tr.idx, h2])
      · exact .inr h2
    · exact .inl (by rcases List.mem_cons.1 h1 with rfl | h2 <;> simp [Tr.idx, *])
  · intro m c' hm hp
    have h1 := h.keep m c' (fun hh => hm (by simp [Tr.idx, hh])) hp
    refine hc.keep m c' (fun hh => ?_) h1
    rcases List.mem_cons.1 hh with rfl | h2
    · exact hm (by simp [Tr.idx])
    · rcases List.mem_append.1 h2 with h3 | h3
      · rcases h.sub m (by simp [h3]) with h4 | h4
        · exact hm (by simp [Tr.idx, h4])
        · exact h4 c' hp
      · exact hm (by simp [Tr.idx, h3])
  · have h1 := h.live
    have h2 := hc.xs
    have h3 := hc.len
    rw [h2]
    simp only [Tr.xs, List.length_append, List.length_cons]
    omega
  · have h1 := h.len
    have h3 := hc.len
    omega
theorem Sp.goR (ht : Has pl (.node i l x r)) (hn : (Tr.node i l x r).idx.Nodup) (h : Sp pl fr pl1 fr1 r tl tr) (hb : Bd (l.xs ++ x :: tl.xs)) :
    Jn pl1 l i x tl ∧ ∀ {pl2 t2}, Ch pl1 pl2 t2 (l.xs ++ x :: tl.xs) (i :: (l.idx ++ tl.idx)) → Sp pl fr pl2 fr1 (.node i l x r) t2 tr := by
  have hni := List.nodup_cons.1 hn
  have hna := List.nodup_append.1 hni.2
  have hD := h.frame (S := i :: l.idx) (List.nodup_cons.2 ⟨fun hm => hni.1 (by simp [hm]), hna.1⟩)
    (fun j hj => by rcases List.mem_cons.1 hj with rfl | h1; exact ⟨_, ht.1⟩; exact ht.2.2.1.taken j h1)
    (fun j hj hh => by rcases List.mem_cons.1 hj with rfl | h1; exact hni.1 (by simp [hh]); exact hna.2.2 j h1 j hh rfl)
  have hP : ((i :: (l.idx ++ tl.idx)) ++ tr.idx).Perm (tl.idx ++ tr.idx ++ i :: l.idx) := perm_of fun m => by simp only [List.count_append, List.count_cons]; ac_rfl
  have hD2 := List.nodup_append.1 (hP.nodup_iff.2 hD)
  have hsl : Slot pl1 i x := ht.slot.keep h.keep (fun hm => hni.1 (by simp [hm]))
  have hl1 : Has pl1 l := ht.2.2.1.keep h.keep (fun m hm hh => hna.2.2 m hm m hh rfl)
  refine ⟨⟨hl1, hsl, h.hl, hD2.1, hb⟩, fun {pl2 t2} hc => ⟨hc.has, h.hr.keep hc.keep (fun m hm hh => hD2.2.2 m hh m hm rfl), ?_, ?_, ?_, ?_, ?_⟩⟩
  · exact ((hc.idx.append_right tr.idx).nodup_iff).2 (hP.nodup_iff.2 hD)
  · intro m hm
    have hm2 : m ∈ (i :: (l.idx ++ tl.idx)) ++ tr.idx := (hc.idx.append_right tr.idx).subset hm
    have hm3 := hP.subset hm2
    rcases List.mem_append.1 hm3 with h1 | h1
    · rcases h.sub m h1 with h2 | h2
      · exact .inl (by simp [Tr.idx, h2])
      · exact .inr h2
    · exact .inl (by rcases List.mem_cons.1 h1 with rfl | h2 <;> simp [Tr.idx, *])
  · intro m c' hm hp
    have h1 := h.keep m c' (fun hh => hm (by simp [Tr.idx, hh])) hp
    refine hc.keep m c' (fun hh => ?_) h1
    rcases List.mem_cons.1 hh with rfl | h2
    · exact hm (by simp [Tr.idx])
    · rcases List.mem_append.1 h2 with h3 | h3
      · exact hm (by simp [Tr.idx, h3])
      · rcases h.sub m (by simp [h3]) with h4 | h4
        · exact hm (by simp [Tr.idx, h4])
        · exact h4 c' hp
  · have h1 := h.live
    have h2 := hc.xs
    have h3 := hc.len
    rw [h2]
    simp only [Tr.xs, List.length_append, List.length_cons]
    omega
  · have h1 := h.len
    have h3 := hc.len
    omega
/-- a node's thing is cut: the node keeps one part, a new node has the other -/
theorem Sp.cut {p q s t u : Int} {xa xb : X} (ht : Has pl (.node i l x r)) (hn : (Tr.node i l x r).idx.Nodup) (hb : Bd (l.xs ++ x :: r.xs)) (ha : xOk xa) (hbb : xOk xb) (hsa : xS xa ≤ xS x) (hsb : xS xb ≤ xS x) (hma : xM xa ≤ xM x) (hmb : xM xb ≤ xM x) :
    Jn (pl.set i (some (ndC (xC xa) p q s t u))) l i xa .nil ∧ ∀ {pl2 t1}, Ch (pl.set i (some (ndC (xC xa) p q s t u))) pl2 t1 (l.xs ++ [xa]) (i :: (l.idx ++ [])) → ∀ {pl3 fr3 j p' q' s' t' u'}, Tk pl2 fr pl3 fr3 j (ndC (xC xb) p' q' s' t' u') →
      Jn pl3 .nil j xb r ∧ ∀ {pl4 t2}, Ch pl3 pl4 t2 ([] ++ xb :: r.xs) (j :: ([] ++ r.idx)) → Sp pl fr pl4 fr3 (.node i l x r) t1 t2 := by
  have hni := List.nodup_cons.1 hn
  have hna := List.nodup_append.1 hni.2
  have hil := (List.getElem?_eq_some_iff.1 ht.1).1
  have hk1 : Keep pl (pl.set i (some (ndC (xC xa) p q s t u))) [i] := Keep.set
  have hl1 : Has (pl.set i (some (ndC (xC xa) p q s t u))) l := ht.2.2.1.keep hk1 (fun m hm hh => by simp at hh; subst hh; exact hni.1 (by simp [hm]))
  have hr1 : Has (pl.set i (some (ndC (xC xa) p q s t u))) r := ht.2.2.2.keep hk1 (fun m hm hh => by simp at hh; subst hh; exact hni.1 (by simp [hm]))
  have hsl : Slot (pl.set i (some (ndC (xC xa) p q s t u))) i xa := ⟨ha, p, q, s, t, u, by rw [List.getElem?_set]; simp [hil]⟩
  have hb0 := hb
  simp only [Bd, List.length_append, List.length_cons, sz_app, mks_app, sz, mks] at hb0
  refine ⟨⟨hl1, hsl, trivial, by simp only [Tr.idx, List.append_nil]; exact List.nodup_cons.2 ⟨fun hm => hni.1 (by simp [hm]), hna.1⟩, by simp only [Bd, Tr.xs, List.length_append, List.length_cons, List.length_nil, sz_app, mks_app, sz, mks]; omega⟩, ?_⟩
  intro pl2 t1 hc pl3 fr3 j p' q' s' t' u' hk
  have hrl : ∀ m ∈ r.idx, m ∉ i :: (l.idx ++ []) := fun m hm hh => by
    rw [List.append_nil] at hh
    rcases List.mem_cons.1 hh with rfl | h2
    · exact hni.1 (by simp [hm])
    · exact hna.2.2 m h2 m hm rfl
  have hr2 : Has pl2 r := hr1.keep hc.keep hrl
  have hr3 : Has pl3 r := hr2.keep hk.keep (by simp)
  have ht3 : Has pl3 t1 := hc.has.keep hk.keep (by simp)
  have hjr : j ∉ r.idx := fun hm => by obtain ⟨c', hc'⟩ := hr2.taken j hm; exact hk.new c' hc'
  have hjt : j ∉ t1.idx := fun hm => by obtain ⟨c', hc'⟩ := hc.has.taken j hm; exact hk.new c' hc'
  have hjf : ∀ c', pl[j]? ≠ some (some c') := fun c' h1 => by
    by_cases hji : j ∈ i :: (l.idx ++ [])
    · exact hjt (hc.idx.mem_iff.2 hji)
    · exact hk.new c' (hc.keep j c' hji (hk1 j c' (fun hh => hji (by simp at hh; simp [hh])) h1))
  refine ⟨⟨trivial, ⟨hbb, _, _, _, _, _, hk.slot⟩, hr3, by simp only [Tr.idx, List.nil_append]; exact List.nodup_cons.2 ⟨hjr, hna.2.1⟩, by simp only [Bd, Tr.xs, List.nil_append, List.length_cons, sz, mks]; omega⟩, ?_⟩
  intro pl4 t2 hc2
  have hd12 : ∀ m ∈ t1.idx, m ∉ j :: ([] ++ r.idx) := fun m hm hh => by
    rcases List.mem_cons.1 hh with rfl | h2
    · exact hjt hm
    · exact hrl m h2 (hc.idx.subset hm)
  refine ⟨ht3.keep hc2.keep hd12, hc2.has, ?_, ?_, ?_, ?_, ?_⟩
  · refine List.nodup_append.2 ⟨hc.idx.nodup_iff.2 ?_, hc2.idx.nodup_iff.2 ?_, fun m hm n hn' e => ?_⟩
    · rw [List.append_nil]; exact List.nodup_cons.2 ⟨fun hm => hni.1 (by simp [hm]), hna.1⟩
    · exact List.nodup_cons.2 ⟨hjr, hna.2.1⟩
    · subst e; exact hd12 m hm (hc2.idx.subset hn')
  · intro m hm
    rcases List.mem_append.1 hm with h1 | h1
    · have h2 := hc.idx.subset h1
      rw [List.append_nil] at h2
      exact .inl (by rcases List.mem_cons.1 h2 with rfl | h3 <;> simp [Tr.idx, *])
    · rcases List.mem_cons.1 (hc2.idx.subset h1) with rfl | h3
      · exact .inr hjf
      · exact .inl (by simp at h3; simp [Tr.idx, h3])
  · intro m c' hm hp
    have hmi : m ∉ i :: (l.idx ++ []) := fun hh => hm (by rw [List.append_nil] at hh; rcases List.mem_cons.1 hh with rfl | h3 <;> simp [Tr.idx, *])
    have h2 := hc.keep m c' hmi (hk1 m c' (fun hh => hmi (by simp at hh; simp [hh])) hp)
    refine hc2.keep m c' (fun hh => ?_) (hk.keep m c' (by simp) h2)
    rcases List.mem_cons.1 hh with rfl | h3
    · exact hjf c' hp
    · exact hm (by simp at h3; simp [Tr.idx, h3])
  · have e1 := hc.xs
    have e2 := hc2.xs
    have e3 := hc.len
    have e4 := hc2.len
    have e5 := hk.live
    rw [e1, e2]
    simp only [Tr.xs, List.length_append, List.length_cons, List.length_nil, List.nil_append, List.length_set] at *
    omega
  · have e3 := hc.len
    have e4 := hc2.len
    have e5 := hk.len
    simp only [List.length_set] at *
    omega
end
end Go.Proofs.Ytonnijghdlakfaa
