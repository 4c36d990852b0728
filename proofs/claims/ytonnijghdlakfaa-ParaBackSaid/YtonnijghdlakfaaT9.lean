/-
Replace: what it makes of a tree's things; the places in between.
-/
import Derived.Test.YtonnijghdlakfaaT8
namespace Go.Proofs.Ytonnijghdlakfaa
open Go Go.RowKit
section
variable {ro : Option Nat} {P : Program} {ops : Array Oper} {R : Exit → (Nat → Value) → World → Prop} {n : Nat} {ds : List Deferred} {f : Nat → Value} {w : World} {E : Env} {L : List SProp}
theorem append_zero {P : Program} {w : World} {t ty e : TypeId} {i : TypeInfo} {base a2 : Option Addr} {sLen sCap c2 : Nat} (ht : P.underlying t = some (.slice e)) (hi : P.info? e = some i) (hle : sLen ≤ sCap) :
    (Builtin.append_ #[t, t] ty #[.slice base sLen sCap, .slice a2 0 c2]).run P w = .ok (.slice base sLen sCap) w := by
  have hl : ∀ (x : Addr), (loadCells x 0).run P w = .ok #[] w := fun x => by simpa using run_loadCells_list (P := P) w x [] (by simp)
  cases base <;> cases a2 <;> simp [Builtin.append_, run_underlying ht, sizeOf, typeInfo, hi, Builtin.lenOf, Builtin.firstCells, hle, storeCells, hl]
theorem run_append_rd {e t ty : TypeId} {sz bytes m c k : Nat} {v : Value} {xs news : List Value} {a : Option Addr} (h : SatL E w (Row e sz v k xs :: L)) (ht : P.underlying t = some (.slice e)) (hinfo : (P.info? e).map (fun i => (i.zero.map (·.cells.size), i.size, i.bytes)) = some (some sz, sz, bytes))
    (hr : (m = 0 ∧ news = []) ∨ ∃ ad, a = some ad ∧ ∀ (j : Nat) (u : Value), news[j]? = some u → w.cell? (ad.add j) = some u) (hl : news.length = m * sz) (h1 : ∀ u ∈ news, u.oneCell' = true) (hbytes : (k + m) * bytes ≤ 140737488355328) (h63 : k + m ≤ 9223372036854775807) :
    ∃ v' w', (Builtin.append_ #[t, t] ty #[v, .slice a m c]).run P w = .ok v' w' ∧ SatL E w' (Row e sz v' (k + m) (xs ++ news) :: L) := by
  rcases hr with ⟨rfl, rfl⟩ | ⟨ad, rfl, hc⟩
  · obtain ⟨i, hi, _⟩ := Option.map_eq_some_iff.1 hinfo
    obtain ⟨b, cp, rfl, hle, _⟩ := h.rowVal
    exact ⟨_, w, append_zero ht hi hle, by simpa using h⟩
  · exact run_append_at h ht hinfo hl hc h1 hbytes h63
theorem x_append_rd {d : Nat} {e t ty : TypeId} {sz bytes m c k : Nat} {v : Value} {xs news : List Value} {a : Option Addr} {x y : Operand} {pos : String} {af : Array Edge} {rest : List Oper} (h : SatL E w (Row e sz v k xs :: L)) (ht : P.underlying t = some (.slice e)) (hinfo : (P.info? e).map (fun i => (i.zero.map (·.cells.size), i.size, i.bytes)) = some (some sz, sz, bytes))
    (hx : ev f x = v) (hy : ev f y = .slice a m c) (hr : (m = 0 ∧ news = []) ∨ ∃ ad, a = some ad ∧ ∀ (j : Nat) (u : Value), news[j]? = some u → w.cell? (ad.add j) = some u) (hl : news.length = m * sz) (h1 : ∀ u ∈ news, u.oneCell' = true) (hbytes : (k + m) * bytes ≤ 140737488355328) (h63 : k + m ≤ 9223372036854775807) (hn : Nat.blt d n = true)
    (hnext : ∀ v' w', SatL E w' (Row e sz v' (k + m) (xs ++ news) :: L) → xw ro P ops R n ds rest (upd f d v') w') :
    xw ro P ops R n ds (⟨some d, .call { callee := .builtin .append, args := #[x, y], argTypes := #[t, t] }, ty, pos, af, none⟩ :: rest) f w :=
  let ⟨v', w', hrun, hs⟩ := run_append_rd (ty := ty) h ht hinfo hr hl h1 hbytes h63
  x_val (r_append hx hy hrun) (nd_of rfl) hn (hnext v' w' hs)
end
/-- a slice of things that can be read -/
def Slc (E : Env) (R : List SProp) (v : Value) (l : List X) : Prop :=
  ∃ a cap, v = .slice a l.length cap ∧ (∀ x ∈ l, xOk x) ∧ ∀ w, SatL E w R → (l.length = 0 ∧ flat l = []) ∨ ∃ ad, a = some ad ∧ ∀ (j : Nat) (u : Value), (flat l)[j]? = some u → w.cell? (ad.add j) = some u
theorem slc_nil {E : Env} {R : List SProp} : Slc E R (.slice none 0 0) [] := ⟨none, 0, rfl, by simp, fun _ _ => .inl ⟨rfl, rfl⟩⟩
theorem slc_row {E : Env} {R : List SProp} {v : Value} {l : List X} {w0 : World} (ho : ∀ x ∈ l, xOk x) (h0 : SatL E w0 (XRow v l :: R)) : Slc E (XRow v l :: R) v l := by
  obtain ⟨a, cap, rfl, _, _⟩ := h0.rowVal
  refine ⟨a, cap, rfl, ho, fun w h => ?_⟩
  rcases Nat.eq_zero_or_pos l.length with h1 | h1
  · left; exact ⟨h1, by rw [List.eq_nil_of_length_eq_zero h1]; rfl⟩
  · right
    obtain ⟨g, cp, cur, hr, h2⟩ := h.openRow h1
    have hv := hr.val
    simp only [Value.slice.injEq] at hv
    refine ⟨⟨g, 0, none⟩, hv.1, fun j u hj => ?_⟩
    rw [add_pt, Nat.zero_add]
    exact h2.cell 0 rfl (hr.get hj)
theorem Slc.weak {E : Env} {R : List SProp} {A : SProp} {v : Value} {l : List X} (h : Slc E R v l) : Slc E (A :: R) v l := by
  obtain ⟨a, cap, e, ho, h1⟩ := h
  exact ⟨a, cap, e, ho, fun w hw => h1 w hw.drop⟩
/-- what Replace makes of a tree's things -/
def replL (xs : List X) (i j : Nat) (l : List X) : List X :=
  (splitL xs i).1.dropLast ++ (meldL ((splitL xs i).1.getLast?.toList ++ l ++ (splitL (splitL xs i).2 (j - i)).2.head?.toList) ++ (splitL (splitL xs i).2 (j - i)).2.tail)
theorem splitL_ok : ∀ (l : List X) (i : Nat), (∀ x ∈ l, xOk x) → (∀ x ∈ (splitL l i).1, xOk x) ∧ (∀ x ∈ (splitL l i).2, xOk x)
  | [], i, _ => by simp [splitL]
  | x :: l, i, h => by
    have ih := splitL_ok l (i - xS x) (fun y hy => h y (by simp [hy]))
    have hx := h x (by simp)
    unfold splitL
    split
    · exact ⟨by simp, h⟩
    · split
      · refine ⟨fun y hy => ?_, ih.2⟩
        rcases List.mem_cons.1 hy with rfl | h1
        · exact hx
        · exact ih.1 y h1
      · have hlt : i < xS x := by omega
        refine ⟨fun y hy => ?_, fun y hy => ?_⟩
        · simp at hy; rw [hy]; exact hx.cut1 hlt
        · rcases List.mem_cons.1 hy with rfl | h1
          · exact hx.cut2 hlt
          · exact h y (by simp [h1])
theorem splitL_ps : ∀ (l : List X) (i : Nat), Ps l → Ps (splitL l i).1 ∧ Ps (splitL l i).2
  | [], i, _ => by simp [splitL, Ps]
  | x :: l, i, h => by
    have ih := splitL_ps l (i - xS x) (fun y hy => h y (by simp [hy]))
    have hx := h x (by simp)
    unfold splitL
    split
    · exact ⟨by simp [Ps], h⟩
    · split
      · refine ⟨fun y hy => ?_, ih.2⟩
        rcases List.mem_cons.1 hy with rfl | h1
        · exact hx
        · exact ih.1 y h1
      · have hlt : i < xS x := by omega
        refine ⟨fun y hy => ?_, fun y hy => ?_⟩
        · simp at hy; rw [hy, xS_cut1 (by omega) hlt]; omega
        · rcases List.mem_cons.1 hy with rfl | h1
          · rw [xS_cut2 hlt]; omega
          · exact h y (by simp [h1])
theorem splitL_sz : ∀ (l : List X) (i : Nat), i ≤ sz l → sz (splitL l i).1 = i ∧ sz (splitL l i).2 = sz l - i
  | [], i, h => by simp only [sz] at h; simp [splitL, sz]; omega
  | x :: l, i, h => by
    simp only [sz] at h
    unfold splitL
    split
    · rename_i h0; subst h0; simp [sz]
    · split
      · have ih := splitL_sz l (i - xS x) (by omega)
        simp only [sz]; omega
      · have hlt : i < xS x := by omega
        simp only [sz, xS_cut1 (show 0 < i by omega) hlt, xS_cut2 hlt]; omega
theorem splitL_len : ∀ (l : List X) (i : Nat), (splitL l i).1.length + (splitL l i).2.length ≤ l.length + 1
  | [], i => by simp [splitL]
  | x :: l, i => by
    have ih := splitL_len l (i - xS x)
    unfold splitL
    split
    · simp
    · split
      · simp only [List.length_cons]; omega
      · simp only [List.length_cons, List.length_nil]; omega
/-- two trees side by side in the places, and no other -/
structure Lp (pl : Pl) (fr : List Nat) (a b : Tr) (B : Nat) : Prop where
  ha : Has pl a
  hb : Has pl b
  nd : (a.idx ++ b.idx).Nodup
  live : pl.length = fr.length + a.xs.length + b.xs.length
  len : pl.length ≤ B
section
variable {pl pl1 pl2 pl3 : Pl} {fr fr1 fr2 fr3 : List Nat} {t a b c g t' a' b' : Tr} {B j : Nat} {x y : X}
/-- what is left when the middle is dropped -/
theorem Lp.start (ht : Has pl t) (hl : pl.length = fr.length + t.xs.length) (hB : pl.length ≤ B) (hB2 : t.xs.length + 2 ≤ B) (hac : a.xs.length + c.xs.length ≤ t.xs.length + 1) (h1 : Sp pl fr pl1 fr1 t a c) (h2 : Sp pl1 fr1 pl2 fr2 c g b) (hk : Keep pl2 pl3 g.idx) (hlen : pl3.length = pl2.length) (hfl : fr3.length = fr2.length + g.xs.length) : Lp pl3 fr3 a b B := by
  have hna := List.nodup_append.1 h1.nd
  have hD := h2.frame (S := a.idx) hna.1 (fun j hj => h1.hl.taken j hj) (fun j hj hh => hna.2.2 j hj j hh rfl)
  have hD1 := List.nodup_append.1 hD
  have hD2 := List.nodup_append.1 hD1.1
  have ha2 : Has pl2 a := h1.hl.keep h2.keep (fun m hm hh => hna.2.2 m hm m hh rfl)
  refine ⟨ha2.keep hk (fun m hm hh => hD1.2.2 m (by simp [hh]) m hm rfl), h2.hr.keep hk (fun m hm hh => hD2.2.2 m hh m hm rfl), ?_, ?_, ?_⟩
  · exact List.nodup_append.2 ⟨hna.1, hD2.2.1, fun m hm n hn e => hD1.2.2 n (by simp [hn]) m hm e.symm⟩
  · have e1 := h1.live
    have e2 := h2.live
    omega
  · have e1 := h1.len
    have e2 := h2.len
    have e3 := h1.live
    omega
theorem Lp.pickL (h : Lp pl fr a b B) (he : En pl pl1 j y a' a.idx) (hx : a.xs = a'.xs ++ [y]) : Lp (pl1.set j none) (fr ++ [j]) a' b B ∧ Slot pl1 j y := by
  have hna := List.nodup_append.1 h.nd
  have hnj := List.nodup_cons.1 (he.idx.nodup_iff.2 hna.1)
  have hb1 : Has pl1 b := h.hb.keep he.keep (fun m hm hh => hna.2.2 m hh m hm rfl)
  have hjb : j ∉ b.idx := fun hm => hna.2.2 j (he.idx.subset (by simp)) j hm rfl
  refine ⟨⟨he.has.keep Keep.set (fun m hm hh => by simp at hh; subst hh; exact hnj.1 hm), hb1.keep Keep.set (fun m hm hh => by simp at hh; subst hh; exact hjb hm), ?_, ?_, ?_⟩, he.slot⟩
  · exact List.nodup_append.2 ⟨hnj.2, hna.2.1, fun m hm n hn e => hna.2.2 m (he.idx.subset (by simp [hm])) n hn e⟩
  · have e1 := h.live
    rw [hx] at e1
    have e2 := he.len
    simp at e1 ⊢
    omega
  · have e1 := h.len
    have e2 := he.len
    simp; omega
theorem Lp.pickR (h : Lp pl fr a b B) (he : En pl pl1 j y b' b.idx) (hx : b.xs = y :: b'.xs) : Lp (pl1.set j none) (fr ++ [j]) a b' B ∧ Slot pl1 j y := by
  have hna := List.nodup_append.1 h.nd
  have hnj := List.nodup_cons.1 (he.idx.nodup_iff.2 hna.2.1)
  have ha1 : Has pl1 a := h.ha.keep he.keep (fun m hm hh => hna.2.2 m hm m hh rfl)
  have hja : j ∉ a.idx := fun hm => hna.2.2 j hm j (he.idx.subset (by simp)) rfl
  refine ⟨⟨ha1.keep Keep.set (fun m hm hh => by simp at hh; subst hh; exact hja hm), he.has.keep Keep.set (fun m hm hh => by simp at hh; subst hh; exact hnj.1 hm), ?_, ?_, ?_⟩, he.slot⟩
  · exact List.nodup_append.2 ⟨hna.1, hnj.2, fun m hm n hn e => hna.2.2 m hm n (he.idx.subset (by simp [hn])) e⟩
  · have e1 := h.live
    rw [hx] at e1
    have e2 := he.len
    simp at e1 ⊢
    omega
  · have e1 := h.len
    have e2 := he.len
    simp; omega
/-- one more thing behind the first tree -/
theorem Lp.put {p q s t u : Int} (h : Lp pl fr a b B) (hx : xOk x) (hk : Tk pl fr pl1 fr1 j (ndC (xC x) p q s t u)) (hB : a.xs.length + b.xs.length + 1 ≤ B) (hb : Bd (a.xs ++ x :: [])) :
    Jn pl1 a j x .nil ∧ ∀ {pl2 t'}, Ch pl1 pl2 t' (a.xs ++ x :: []) (j :: (a.idx ++ [])) → Lp pl2 fr1 t' b B := by
  have hna := List.nodup_append.1 h.nd
  have hja : j ∉ a.idx := fun hm => by obtain ⟨c', hc'⟩ := h.ha.taken j hm; exact hk.new c' hc'
  have hjb : j ∉ b.idx := fun hm => by obtain ⟨c', hc'⟩ := h.hb.taken j hm; exact hk.new c' hc'
  have ha1 : Has pl1 a := h.ha.keep hk.keep (by simp)
  have hb1 : Has pl1 b := h.hb.keep hk.keep (by simp)
  refine ⟨⟨ha1, ⟨hx, _, _, _, _, _, hk.slot⟩, trivial, by simp only [Tr.idx, List.append_nil]; exact List.nodup_cons.2 ⟨hja, hna.1⟩, hb⟩, fun {pl2 t'} hc => ⟨hc.has, hb1.keep hc.keep (fun m hm hh => ?_), ?_, ?_, ?_⟩⟩
  · rw [List.append_nil] at hh
    rcases List.mem_cons.1 hh with rfl | h2
    · exact hjb hm
    · exact hna.2.2 m h2 m hm rfl
  · refine List.nodup_append.2 ⟨hc.idx.nodup_iff.2 (by rw [List.append_nil]; exact List.nodup_cons.2 ⟨hja, hna.1⟩), hna.2.1, fun m hm n hn e => ?_⟩
    have h2 := hc.idx.subset hm
    rw [List.append_nil] at h2
    rcases List.mem_cons.1 h2 with rfl | h3
    · subst e; exact hjb hn
    · exact hna.2.2 m h3 n hn e
  · have e1 := h.live
    have e2 := hk.live
    have e3 := hc.len
    rw [hc.xs]
    simp
    omega
  · have e1 := h.live
    have e2 := hk.len
    have e3 := hc.len
    have e4 := h.len
    omega
end
end Go.Proofs.Ytonnijghdlakfaa
