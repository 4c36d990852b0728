/-
Ropes: what the laws share.
-/
import Derived.Test.YtmfkhfmidnojhaaP6
namespace Go.Proofs.Ytmfkhfmidnojhaa
open Go Go.RowKit
theorem insE_mk {t zs : List Int} {i : Int} (ha : ∀ r ∈ zs, rune r) (hp : isPart t.length i i) : insE t zs i = 0 := by
  unfold insE; rw [if_pos ha, if_pos hp]
section
variable {E : Env} {R : List SProp} {w : World} {b q B B' : Nat} {t zs : List Int} {v : Value}
theorem insert_new (hi : insE [] zs 0 = 0) (hv : Reads E R v .i32 zs) (hB : zs.length + 4 ≤ B') (hBB : B ≤ B') (hB' : B' ≤ 1000000) (h : SatL E w (Rp b [] B :: R)) :
    Calls Try.prog 13 #[pT b, .int .i64 0, v] w (Ret fun u w' => u = .int .i64 0 ∧ SatL E w' (Rp b zs B' :: R)) := by
  have h1 := insert_yes (i := 0) hi hv (by simpa using hB) hBB hB' h
  have e : List.take (Int.toNat 0) ([] : List Int) ++ (zs ++ List.drop (Int.toNat 0) []) = zs := by simp
  rw [e] at h1
  exact h1
theorem slice_all (hb : t.length ≤ 100000000) (h : SatL E w (Rp b t B :: R)) : Calls Try.prog 14 #[pT b, .int .i64 0, .int .i64 (t.length : Int)] w (Ret fun u w' => ∃ v, u = .tuple #[v, .int .i64 0] ∧ SatL E w' (RunesR v t :: Rp b t B :: R)) := by
  have h1 := sliceR (i := 0) (j := (t.length : Int)) ⟨by omega, by omega, by omega⟩ hb h
  have e : List.drop (Int.toNat 0) (List.take (Int.toNat (t.length : Int)) t) = t := by simp
  rw [e] at h1
  exact h1
theorem Reads.row {s : List Int} {A : SProp} : Reads E (A :: RunesR v s :: R) v .i32 s := rowReads.up
end
section
variable {ro : Option Nat} {P : Program} {ops : Array Oper} {R : Exit → (Nat → Value) → World → Prop} {n : Nat} {ds : List Deferred} {f : Nat → Value} {w : World} {E : Env} {L : List SProp}
theorem x_append_rows {d : Nat} {e t ty : TypeId} {sz bytes k m : Nat} {v v2 : Value} {xs ys : List Value} {x y : Operand} {pos : String} {af : Array Edge} {rest : List Oper}
    (h : SatL E w (Row e sz v k xs :: Row e sz v2 m ys :: L)) (ht : P.underlying t = some (.slice e)) (hinfo : (P.info? e).map (fun i => (i.zero.map (·.cells.size), i.size, i.bytes)) = some (some sz, sz, bytes))
    (hx : ev f x = v) (hy : ev f y = v2) (h1 : ∀ u ∈ ys, u.oneCell' = true) (hbytes : (k + m) * bytes ≤ 140737488355328) (h63 : k + m ≤ 9223372036854775807) (hn : Nat.blt d n = true)
    (hnext : ∀ v' w', SatL E w' (Row e sz v' (k + m) (xs ++ ys) :: Row e sz v2 m ys :: L) → xw ro P ops R n ds rest (upd f d v') w') :
    xw ro P ops R n ds (⟨some d, .call { callee := .builtin .append, args := #[x, y], argTypes := #[t, t] }, ty, pos, af, none⟩ :: rest) f w :=
  let ⟨v', w', hr, hs⟩ := append_rows (ty := ty) h ht hinfo h1 hbytes h63
  x_val (r_append hx hy hr) (nd_of rfl) hn (hnext v' w' hs)
end
end Go.Proofs.Ytmfkhfmidnojhaa
