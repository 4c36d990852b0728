/-
ArenaKeeps: the map's steps in a walk; the texts; what is kept behind every call.
-/
import Derived.Test.YtfmhcefjbghhlaaF2
import Derived.Test.YtfmhcefjbghhlaaX8
import Derived.Test.YtfmhcefjbghhlaaC1
namespace Go.Proofs.Ytfmhcefjbghhlaa
open Go Go.RowKit
section
variable {P : Program} {f : Nat → Value} {w w' : World} {d : Option Tmp} {ty : TypeId} {pos : String} {af : Array Edge} {g : Option (Tmp × Bool)}
theorem r_loadAggAt {T : TypeId} {x : Operand} {a : Addr} {n : Nat} {cs : List Value} (ha : ∀ w, (isAgg T).run P w = .ok true w) (hs : ∀ w, (sizeOf T).run P w = .ok n w) (hx : ev f x = .pointer (some a)) (hn : cs.length = n) (hc : ∀ (j : Nat) (u : Value), cs[j]? = some u → w.cell? (a.add j) = some u) :
    (execOp (ev f) ⟨d, .load T x, ty, pos, af, g⟩).run P w = .ok (.value (.agg cs.toArray)) w := by
  subst hn
  have hl := run_loadCells_list (P := P) w a cs hc
  simp [execOp, hx, Instr.loadAt, Instr.sureAddr, loadVar, ha, hs, hl]
theorem r_lookup {t : TypeId} {x y : Operand} {a b v : Value} (hx : ev f x = a) (hy : ev f y = b) (hr : (Instr.lookup t a b true).run P w = .ok v w) : (execOp (ev f) ⟨d, .lookup t x y true, ty, pos, af, g⟩).run P w = .ok (.value v) w := by
  simp [execOp, hx, hy, hr]
theorem r_update {t : TypeId} {x y z : Operand} {a b c : Value} (hx : ev f x = a) (hy : ev f y = b) (hz : ev f z = c) (hr : (Instr.mapUpdate t a b c).run P w = .ok () w') : (execOp (ev f) ⟨d, .mapUpdate t x y z, ty, pos, af, g⟩).run P w = .ok .skip w' := by
  simp [execOp, hx, hy, hz, hr]
theorem r_delete {x y : Operand} {a b : Value} {ts : Array TypeId} (hx : ev f x = a) (hy : ev f y = b) (hr : (Builtin.delete_ ts ty #[a, b]).run P w = .ok (.tuple #[]) w') : (execOp (ev f) ⟨d, .call { callee := .builtin .delete, args := #[x, y], argTypes := ts }, ty, pos, af, g⟩).run P w = .ok (.value (.tuple #[])) w' := by
  simp [execOp, resolve, invoke, builtin, hx, hy, hr]
theorem r_lenM {x : Operand} {a : Value} {n : Int} {ts : Array TypeId} (hx : ev f x = a) (hr : (Builtin.len_ ts ty #[a]).run P w = .ok (.int .i64 n) w) : (execOp (ev f) ⟨d, .call { callee := .builtin .len, args := #[x], argTypes := ts }, ty, pos, af, g⟩).run P w = .ok (.value (.int .i64 n)) w := by
  simp [execOp, resolve, invoke, builtin, hx, hr]
theorem r_range {t : TypeId} {x : Operand} {a v : Value} (hx : ev f x = a) (hr : (Instr.range t a).run P w = .ok v w') : (execOp (ev f) ⟨d, .range t x, ty, pos, af, g⟩).run P w = .ok (.value v) w' := by
  simp [execOp, hx, hr]
theorem r_next {x : Operand} {a v : Value} (hx : ev f x = a) (hr : (Instr.next a false ty).run P w = .ok v w') : (execOp (ev f) ⟨d, .next x false, ty, pos, af, g⟩).run P w = .ok (.value v) w' := by
  simp [execOp, hx, hr]
theorem r_entry {x : Operand} {a v : Value} (hx : ev f x = a) (hr : (Instr.entry a).run P w = .ok v w) : (execOp (ev f) ⟨d, .entry x, ty, pos, af, g⟩).run P w = .ok (.value v) w := by
  simp [execOp, hx, hr]
theorem r_makeMap {t : TypeId} : (execOp (ev f) ⟨d, .makeMap t none, ty, pos, af, g⟩).run P w = .ok (.value (.map (some w.heap.size))) (w.alloc (.map #[] 0)) := by
  simp [execOp, Instr.makeMap, newObj, Sem.run]
theorem r_shr8 {t yt : TypeId} {x y : Operand} {k : IntKind} {a : Int} (hx : ev f x = .int .i64 a) (hy : ev f y = .int k 8) : (execOp (ev f) ⟨d, .binOp .shr t x y yt, ty, pos, af, g⟩).run P w = .ok (.value (.int .i64 (a.fdiv 256))) w := by
  have e : (eqGuard .shr t x y (.int .i64 a) (.int k 8)).run P w = .ok () w := by unfold eqGuard; rfl
  have e2 : (binOp .shr t (.int .i64 a) (.int k 8)).run P w = .ok (.int .i64 (a.fdiv 256)) w := by
    simp [binOp, Op.shift, IntKind.bits]
  simp [execOp, hx, hy, e, e2]
theorem r_neb {t yt : TypeId} {x y : Operand} {a b r : Bool} (hu : P.underlying t = some .bool) (hx : ev f x = .bool a) (hy : ev f y = .bool b) (hr : (!(a == b)) = r) :
    (execOp (ev f) ⟨d, .binOp .neq t x y yt, ty, pos, af, g⟩).run P w = .ok (.value (.bool r)) w := by
  subst hr
  simp [execOp, hx, hy, eqGuard, binOp, run_equal_bool (P := P) (w := w) t a b hu]
theorem r_str {src dst e : TypeId} {x : Operand} {a : Addr} {l c : Nat} {ns : List Int} (hs : P.underlying src = some (.slice e)) (he : P.underlying e = some (.int .u8)) (hd : P.underlying dst = some .string) (hx : ev f x = .slice (some a) l c) (hl : (loadCells a l).run P w = .ok (ns.map (Value.int .u8)).toArray w) :
    (execOp (ev f) ⟨d, .convert src dst x, ty, pos, af, g⟩).run P w = .ok (.value (.string (ns.foldl (fun r n => r.push (UInt8.ofNat n.toNat)) ByteArray.empty))) w := by
  simp [execOp, hx, run_convert_bytes_string (P := P) w src dst e _ l c hs he hd, run_bytesToString (P := P) w a l c ns hl]
end
section
variable {ro : Option Nat} {P : Program} {ops : Array Oper} {R : Exit → (Nat → Value) → World → Prop} {n : Nat} {ds : List Deferred} {f : Nat → Value} {w w' : World} {E : Env} {L : List SProp}
/-- a value that nobody takes -/
theorem x_valN {op : Op} {ty : TypeId} {pos : String} {af : Array Edge} {rest : List Oper} {v : Value} (hr : (execOp (ev f) ⟨none, op, ty, pos, af, none⟩).run P w = .ok (.value v) w') (hnd : ∀ c, op ≠ .defer c) (h : xw ro P ops R n ds rest f w') : xw ro P ops R n ds (⟨none, op, ty, pos, af, none⟩ :: rest) f w :=
  xw_val hr hnd fun _ ha => h _ (ha.putNone v)
theorem x_makeMap {d : Nat} {t ty : TypeId} {pos : String} {af : Array Edge} {rest : List Oper} (h : SatL E w L) (hn : Nat.blt d n = true) (hnext : ∀ m w', SatL E w' (MapS m [] 0 :: L) → xw ro P ops R n ds rest (upd f d (.map (some m))) w') :
    xw ro P ops R n ds (⟨some d, .makeMap t none, ty, pos, af, none⟩ :: rest) f w :=
  x_val r_makeMap (nd_of rfl) hn (hnext _ _ (h.alloc (.map #[] 0)))
theorem x_range {d : Nat} {t kt et ty : TypeId} {m clock : Nat} {l : List KV} {x : Operand} {pos : String} {af : Array Edge} {rest : List Oper} (h : SatL E w (MapS m l clock :: L)) (hu : P.underlying t = some (.map kt et)) (hx : ev f x = .map (some m)) (hn : Nat.blt d n = true)
    (hnext : ∀ r w', SatL E w' (IterS r m clock [] :: MapS m l clock :: L) → xw ro P ops R n ds rest (upd f d (.pointer (some ⟨r, 0, none⟩))) w') :
    xw ro P ops R n ds (⟨some d, .range t x, ty, pos, af, none⟩ :: rest) f w :=
  x_val (r_range hx (run_range_map w t kt et m _ clock hu (h.mapBlock 0 rfl))) (nd_of rfl) hn (hnext _ _ (h.alloc _))
end
/-- the text of a number -/
def txt (x : Int) : ByteArray := [IntKind.u8.wrap x, IntKind.u8.wrap (x.fdiv 256), 7].foldl (fun r n => r.push (UInt8.ofNat n.toNat)) ByteArray.empty
section
variable {E : Env} {R : List SProp} {w : World} {b m clock : Nat} {pl : List (Option (Array Value))} {fr : List Nat} {l : List KV} {k v : Int} {s : ByteArray}
theorem text_ok {x : Int} (h : SatL E w R) : Calls Try.prog 14 #[.int .i64 x] w (Ret fun u w' => u = .string (txt x) ∧ SatL E w' R) := by
  have zB : ∀ w, (zeroValue 5).run Try.prog w = .ok (.int .u8 0) w := fun _ => by kernel_rfl
  refine calls_x Try.func14 rfl Try.ntmps14 rfl ?_
  refine xc_gen (fun g hg => ?_)
  have s0 := (hg 0).trans arg0
  clear hg
  refine xc_seq (fun K hK1 => ?_)
  refine xc_region ?_
  refine x_val (r_assign ec) (nd_of rfl) rfl ?_
  refine xw_nil ?_
  refine hK1 _ _ ?_
  refine xc_gen (fun g hg => ?_)
  have s0 := (hg 0).trans (en rfl s0)
  have s2 := (hg 2).trans es
  clear hg
  refine xc_seq (fun K hK2 => ?_)
  refine xc_region ?_
  refine x_val (r_move s0) (nd_of rfl) rfl ?_
  refine x_val (r_convert Try.underlying2 Try.underlying5 es rfl) (nd_of rfl) rfl ?_
  refine x_val (r_move (en rfl (en rfl s0))) (nd_of rfl) rfl ?_
  refine x_val (r_shr8 es ec) (nd_of rfl) rfl ?_
  refine x_val (r_convert Try.underlying2 Try.underlying5 es rfl) (nd_of rfl) rfl ?_
  refine x_bsliceL (c := #[.int .u8 (IntKind.u8.wrap x), .int .u8 (IntKind.u8.wrap (x.fdiv 256)), .int .u8 7]) h Try.underlying36 Try.sizeOf5 zB rfl (by kernel_rfl) rfl rfl rfl ?_; intro bs w h
  refine x_val (r_str (ns := [IntKind.u8.wrap x, IntKind.u8.wrap (x.fdiv 256), 7]) Try.underlying36 Try.underlying5 Try.underlying9 es (by have hc := run_loadCells_at (P := Try.prog) (o := 0) (n := 3) h 0 rfl (by exact Nat.le_refl _); rw [ext_full (n := 3) rfl] at hc; exact hc)) (nd_of rfl) rfl ?_
  refine x_val (r_assign es) (nd_of rfl) rfl ?_
  refine xw_nil ?_
  refine hK2 _ _ ?_
  refine xc_gen (fun g hg => ?_)
  have s0 := (hg 0).trans (en rfl (en rfl (en rfl (en rfl (en rfl (en rfl (en rfl (en rfl s0))))))))
  have s2 := (hg 2).trans es
  clear hg
  refine xc_ret ?_
  refine bodyR_1 rfl s2 ?_
  exact ⟨rfl, h.drop⟩
theorem lookup_no (h : SatL E w R) (i : Nat) (hk : R[i]? = some (MapS m l clock)) (hok : MOk l clock) (hn : ∀ v, ¬ InM l k v) : (Instr.lookup 38 (.map (some m)) (.int .i64 k) true).run Try.prog w = .ok (.tuple #[.int .i64 0, .bool false]) w := by
  rcases run_lookupM h i hk hok Try.underlying38 Try.underlying3 Try.zeroValue2 k with ⟨_, h1⟩ | ⟨v, hv, _⟩
  · exact h1
  · exact absurd hv (hn v)
theorem lookup_yes (h : SatL E w R) (i : Nat) (hk : R[i]? = some (MapS m l clock)) (hok : MOk l clock) (hv : InM l k v) : (Instr.lookup 38 (.map (some m)) (.int .i64 k) true).run Try.prog w = .ok (.tuple #[.int .i64 v, .bool true]) w := by
  rcases run_lookupM h i hk hok Try.underlying38 Try.underlying3 Try.zeroValue2 k with ⟨hn, _⟩ | ⟨v', hv', h1⟩
  · exact absurd hv (hn v)
  · rw [hok.uniq hv hv']; exact h1
theorem free_int {n : Nat} {c : Array Value} (hk : k = (n : Int)) (hi : pl[n]? = some (some c)) (hb : pl.length ≤ 1000000000) (h : SatL E w (S.Ar b pl fr :: R)) :
    Calls Try.prog 16 #[.pointer (some ⟨b, 0, none⟩), .int .i64 k] w (Ret fun v w' => v = .int .i64 0 ∧ SatL E w' (S.Ar b (pl.set n none) (fr ++ [n]) :: R)) := by
  subst hk; exact S.free_ok hi hb h
theorem put_int {n : Nat} {c : Array Value} (hk : k = (n : Int)) (hi : pl[n]? = some (some c)) (h : SatL E w (S.Ar b pl fr :: R)) :
    Calls Try.prog 17 #[.pointer (some ⟨b, 0, none⟩), .int .i64 k, .string s] w (Ret fun v w' => v = .int .i64 0 ∧ SatL E w' (S.Ar b (pl.set n (some #[.string s])) fr :: R)) := by
  subst hk; exact S.put_ok hi h
theorem at_int {n : Nat} (hk : k = (n : Int)) (hi : pl[n]? = some (some #[.string s])) (h : SatL E w (S.Ar b pl fr :: R)) :
    Calls Try.prog 18 #[.pointer (some ⟨b, 0, none⟩), .int .i64 k] w (Ret fun v w' => v = .tuple #[.string s, .int .i64 0] ∧ SatL E w' (S.Ar b pl fr :: R)) := by
  subst hk; exact S.at_ok hi h
/-- what is kept behind every call -/
structure Keeps (pl : List (Option (Array Value))) (fr : List Nat) (l : List KV) : Prop where
  there : ∀ k v, InM l k v → ∃ n : Nat, k = n ∧ pl[n]? = some (some #[.string (txt v)])
  back : ∀ (n : Nat) c, pl[n]? = some (some c) → ∃ v, InM l n v
  count : l.length + fr.length = pl.length
theorem Keeps.nil : Keeps [] [] [] := ⟨fun k v ⟨_, h⟩ => (by cases h), fun n c h => (by simp at h), rfl⟩
theorem Keeps.no {pl : List (Option (Array Value))} {fr : List Nat} {l : List KV} (hK : Keeps pl fr l) {k : Int} (hn : ∀ v, ¬ InM l k v) : ¬ S.has pl k := by
  rintro ⟨n, c, rfl, hc⟩
  obtain ⟨v, hv⟩ := hK.back n c hc
  exact hn v hv
theorem Keeps.fresh {pl : List (Option (Array Value))} {fr : List Nat} {l : List KV} (hK : Keeps pl fr l) {j : Nat} (hj : ∀ c, pl[j]? ≠ some (some c)) : ∀ v, ¬ InM l (j : Int) v := by
  intro v hv
  obtain ⟨n, e, hn⟩ := hK.there _ v hv
  obtain rfl : j = n := by omega
  exact hj _ hn
theorem Keeps.takeNew {l2 : List KV} {x : Int} (hK : Keeps pl [] l) (hin : ∀ j y, InM l2 j y ↔ (j = (pl.length : Int) ∧ y = x) ∨ (j ≠ (pl.length : Int) ∧ InM l j y)) (hlen : l2.length = l.length + 1) : Keeps (pl ++ [some #[.string (txt x)]]) [] l2 := by
  refine ⟨fun k v h => ?_, fun n c h => ?_, ?_⟩
  · rcases (hin k v).1 h with ⟨rfl, rfl⟩ | ⟨_, h⟩
    · exact ⟨pl.length, rfl, by simp⟩
    · obtain ⟨n, rfl, hn⟩ := hK.there k v h
      have := (List.getElem?_eq_some_iff.1 hn).1
      exact ⟨n, rfl, by rw [List.getElem?_append_left this]; exact hn⟩
  · rcases Nat.lt_or_ge n pl.length with hlt | hge
    · rw [List.getElem?_append_left hlt] at h
      obtain ⟨v, hv⟩ := hK.back n c h
      exact ⟨v, (hin n v).2 (.inr ⟨by omega, hv⟩)⟩
    · have := (List.getElem?_eq_some_iff.1 h).1
      simp at this
      obtain rfl : n = pl.length := by omega
      exact ⟨x, (hin _ x).2 (.inl ⟨rfl, rfl⟩)⟩
  · have := hK.count
    simp at this ⊢
    omega
theorem Keeps.takeFree {l2 : List KV} {x : Int} {j : Nat} (hK : Keeps pl (fr ++ [j]) l) (hj : j < pl.length) (hin : ∀ i y, InM l2 i y ↔ (i = (j : Int) ∧ y = x) ∨ (i ≠ (j : Int) ∧ InM l i y)) (hlen : l2.length = l.length + 1) : Keeps (pl.set j (some #[.string (txt x)])) fr l2 := by
  refine ⟨fun k v h => ?_, fun n c h => ?_, ?_⟩
  · rcases (hin k v).1 h with ⟨rfl, rfl⟩ | ⟨hne, h⟩
    · exact ⟨j, rfl, by rw [List.getElem?_set_self hj]⟩
    · obtain ⟨n, rfl, hn⟩ := hK.there k v h
      exact ⟨n, rfl, by rw [List.getElem?_set_ne (by omega)]; exact hn⟩
  · by_cases e : j = n
    · subst e; exact ⟨x, (hin _ x).2 (.inl ⟨rfl, rfl⟩)⟩
    · rw [List.getElem?_set_ne e] at h
      obtain ⟨v, hv⟩ := hK.back n c h
      exact ⟨v, (hin n v).2 (.inr ⟨by omega, hv⟩)⟩
  · have := hK.count
    simp at this ⊢
    omega
theorem Keeps.put {l2 : List KV} {x : Int} {j : Nat} (hK : Keeps pl fr l) (hj : j < pl.length) (hin : ∀ i y, InM l2 i y ↔ (i = (j : Int) ∧ y = x) ∨ (i ≠ (j : Int) ∧ InM l i y)) (hlen : l2.length = l.length) : Keeps (pl.set j (some #[.string (txt x)])) fr l2 := by
  refine ⟨fun k v h => ?_, fun n c h => ?_, ?_⟩
  · rcases (hin k v).1 h with ⟨rfl, rfl⟩ | ⟨hne, h⟩
    · exact ⟨j, rfl, by rw [List.getElem?_set_self hj]⟩
    · obtain ⟨n, rfl, hn⟩ := hK.there k v h
      exact ⟨n, rfl, by rw [List.getElem?_set_ne (by omega)]; exact hn⟩
  · by_cases e : j = n
    · subst e; exact ⟨x, (hin _ x).2 (.inl ⟨rfl, rfl⟩)⟩
    · rw [List.getElem?_set_ne e] at h
      obtain ⟨v, hv⟩ := hK.back n c h
      exact ⟨v, (hin n v).2 (.inr ⟨by omega, hv⟩)⟩
  · have := hK.count
    simp at this ⊢
    omega
theorem Keeps.free {l2 : List KV} {j : Nat} (hK : Keeps pl fr l) (hj : j < pl.length) (hin : ∀ i y, InM l2 i y ↔ i ≠ (j : Int) ∧ InM l i y) (hlen : l2.length + 1 = l.length) : Keeps (pl.set j none) (fr ++ [j]) l2 := by
  refine ⟨fun k v h => ?_, fun n c h => ?_, ?_⟩
  · obtain ⟨hne, h⟩ := (hin k v).1 h
    obtain ⟨n, rfl, hn⟩ := hK.there k v h
    exact ⟨n, rfl, by rw [List.getElem?_set_ne (by omega)]; exact hn⟩
  · by_cases e : j = n
    · subst e
      rw [List.getElem?_set_self hj] at h
      cases h
    · rw [List.getElem?_set_ne e] at h
      obtain ⟨v, hv⟩ := hK.back n c h
      exact ⟨v, (hin n v).2 ⟨by omega, hv⟩⟩
  · have := hK.count
    simp at this ⊢
    omega
theorem snoc_cases {α : Type} (l : List α) : l = [] ∨ ∃ l0 x, l = l0 ++ [x] := by
  rcases List.eq_nil_or_concat l with h | ⟨l0, x, h⟩
  · exact .inl h
  · exact .inr ⟨l0, x, by simpa using h⟩
end
end Go.Proofs.Ytfmhcefjbghhlaa
