/-
Ropes: Insert.
-/
import Derived.Test.YtmfkhfmidnojhaaP3
namespace Go.Proofs.Ytmfkhfmidnojhaa
open Go Go.RowKit
section
variable {E : Env} {R M : List SProp} {w : World} {b bt ba B B' : Nat} {t zs : List Int} {xs l : List X} {v : Value}
theorem SatL.left {L : List SProp} (h : SatL E w (L ++ M)) : SatL E w L := by
  have h2 : SatL E w ((L ++ M).take L.length) := ⟨h.os, h.tape, h.output, Sats.take L.length h.heap⟩
  rw [List.take_left] at h2
  exact h2
theorem piece_ok {k : Nat} (ha : ∀ r ∈ zs, rune r) : ChOk (piece zs k) := ⟨by unfold piece; rw [List.length_take]; omega, fun r hr => ha r (List.mem_of_mem_drop (List.mem_of_mem_take hr))⟩
theorem piece_ok2 {k : Nat} (ha : ∀ r ∈ piece zs k, rune r) : ChOk (piece zs k) := ⟨by unfold piece; rw [List.length_take]; omega, ha⟩
theorem first_bad {p : Nat → Prop} : ∀ n, (∃ k, k < n ∧ p k) → ∃ k, k < n ∧ p k ∧ ∀ j, j < k → ¬ p j
  | 0, ⟨_, h, _⟩ => by omega
  | n + 1, ⟨k, h, hk⟩ => by
    by_cases h1 : ∃ k, k < n ∧ p k
    · obtain ⟨k, h1, h2, h3⟩ := first_bad n h1
      exact ⟨k, by omega, h2, h3⟩
    · have e : k = n := by
        rcases Nat.lt_or_ge k n with h2 | h2
        · exact absurd ⟨k, h2, hk⟩ h1
        · omega
      subst e
      exact ⟨k, by omega, hk, fun j hj hp => h1 ⟨j, hj, hp⟩⟩
theorem bad_piece (hb : ∃ r ∈ zs, ¬ rune r) : ∃ k, k < nPieces zs ∧ (∃ r ∈ piece zs k, ¬ rune r) := by
  obtain ⟨r, hr, hn⟩ := hb
  obtain ⟨i, hi, rfl⟩ := List.mem_iff_getElem.1 hr
  refine ⟨i / 32, by unfold nPieces; omega, zs[i], ?_, hn⟩
  unfold piece
  rw [List.mem_iff_getElem?]
  refine ⟨i % 32, ?_⟩
  rw [List.getElem?_take, if_pos (by omega), List.getElem?_drop, show 32 * (i / 32) + i % 32 = i by omega, List.getElem?_eq_getElem hi]
theorem insert_nil {i : Int} (h : SatL E w R) : Calls Try.prog 13 #[.pointer none, .int .i64 i, v] w (Ret fun u w' => u = .int .i64 1 ∧ SatL E w' R) := by
  refine calls_x Try.func13 rfl Try.ntmps13 rfl ?_
  refine xc_gen (fun g hg => ?_)
  have s0 := (hg 0).trans arg0
  have s1 := (hg 1).trans arg1
  have s2 := (hg 2).trans arg2
  clear hg
  refine xc_seq (fun K hK1 => ?_)
  refine xc_region ?_
  refine x_alloc1 h Try.zeroValue30 rfl rfl ?_
  intro b6 w h
  refine xw_nil ?_
  refine hK1 _ _ ?_
  refine xc_gen (fun g hg => ?_)
  have s0 := (hg 0).trans (en rfl s0)
  have s1 := (hg 1).trans (en rfl s1)
  have s2 := (hg 2).trans (en rfl s2)
  have s6 := (hg 6).trans es
  clear hg
  refine xc_seq (fun K hK2 => ?_)
  refine xc_seq (fun K hK3 => ?_)
  refine xc_region ?_
  refine x_val (r_move s0) (nd_of rfl) rfl ?_
  refine x_val (r_eqnil Try.underlying24 es ec (r := true) rfl) (nd_of rfl) rfl ?_
  refine xw_nil ?_
  refine hK3 _ _ ?_
  refine xc_gen (fun g hg => ?_)
  have s0 := (hg 0).trans (en rfl (en rfl s0))
  have s1 := (hg 1).trans (en rfl (en rfl s1))
  have s2 := (hg 2).trans (en rfl (en rfl s2))
  have s6 := (hg 6).trans (en rfl (en rfl s6))
  have s13 := (hg 13).trans es
  clear hg
  refine xc_cond s13 (fun _ => ?_) (fun hc => by cases hc)
  refine xc_seq (fun K hK4 => ?_)
  refine xc_region ?_
  refine x_st (r_store h 0 rfl Try.sizeOf30 s6 ec rfl gc0) rfl (h.u0 sc0) ?_
  intro w h
  refine xw_nil ?_
  refine hK4 _ _ ?_
  refine xc_ret ?_
  refine bodyR_c rfl s6 (lv_one h 0 rfl Try.isAgg30 gc0) ?_
  exact ⟨rfl, h.drop⟩
theorem insert_ok {i : Int} (hv : Reads E R v .i32 zs) (ha : ∀ r ∈ zs, rune r) (hB : t.length + zs.length + 4 ≤ B') (hBB : B ≤ B') (hB' : B' ≤ 1000000) (h : SatL E w (Rp b t B :: R)) :
    Calls Try.prog 13 #[pT b, .int .i64 i, v] w (Ret fun u w' => u = .int .i64 (if isPart t.length i i then 0 else 5) ∧ SatL E w' (Rp b (if isPart t.length i i then t.take i.toNat ++ (zs ++ t.drop i.toNat) else t) B' :: R)) := by
  obtain ⟨xs, rfl, hh⟩ := h.openRp
  clear h
  have h := hh
  clear hh
  have hpl := ps_len h.objFacts.1
  have hst := sz_txt xs
  obtain ⟨a, cap, rfl, hl1, hl2⟩ := hv.slice h.drop
  have hnp : nPieces zs ≤ zs.length := by unfold nPieces; omega
  have hpa := pieces_all (zs := zs)
  have hpo : ∀ x ∈ pieces zs (nPieces zs), xOk x := fun x hx => by
    unfold pieces at hx
    obtain ⟨k, _, rfl⟩ := List.mem_map.1 hx
    exact piece_ok ha
  have hpz : sz (pieces zs (nPieces zs)) = zs.length := by rw [sz_txt, hpa]
  refine calls_y Try.func13 rfl Try.ntmps13 rfl ?_
  refine yc_gen (fun g hg => ?_)
  have s0 := (hg 0).trans arg0
  have s1 := (hg 1).trans arg1
  have s2 := (hg 2).trans arg2
  clear hg
  refine yc_seq (fun K hK1 => ?_)
  refine yc_region ?_
  refine x_alloc1 h Try.zeroValue30 rfl rfl ?_
  intro b6 w h
  refine xw_nil ?_
  refine hK1 _ _ _ ?_
  refine yc_gen (fun g hg => ?_)
  have s0 := (hg 0).trans (en rfl s0)
  have s1 := (hg 1).trans (en rfl s1)
  have s2 := (hg 2).trans (en rfl s2)
  have s6 := (hg 6).trans es
  clear hg
  refine yc_seq (fun K hK2 => ?_)
  refine yc_seq (fun K hK3 => ?_)
  refine yc_region ?_
  refine x_val (r_move s0) (nd_of rfl) rfl ?_
  refine x_val (r_eqnil Try.underlying24 es ec (r := false) rfl) (nd_of rfl) rfl ?_
  refine xw_nil ?_
  refine hK3 _ _ _ ?_
  refine yc_gen (fun g hg => ?_)
  have s0 := (hg 0).trans (en rfl (en rfl s0))
  have s1 := (hg 1).trans (en rfl (en rfl s1))
  have s2 := (hg 2).trans (en rfl (en rfl s2))
  have s6 := (hg 6).trans (en rfl (en rfl s6))
  have s13 := (hg 13).trans es
  clear hg
  refine yc_cond s13 (fun hc => by cases hc) (fun _ => ?_)
  refine yc_skip ?_
  refine hK2 _ _ _ ?_
  refine yc_seq (fun K hK4 => ?_)
  refine yc_region ?_
  refine x_alloc1 h Try.zeroValue60 rfl rfl ?_
  intro b7 w h
  refine xw_nil ?_
  refine hK4 _ _ _ ?_
  refine yc_gen (fun g hg => ?_)
  have s0 := (hg 0).trans (en rfl s0)
  have s1 := (hg 1).trans (en rfl s1)
  have s2 := (hg 2).trans (en rfl s2)
  have s6 := (hg 6).trans (en rfl s6)
  have s7 := (hg 7).trans es
  have s13 := (hg 13).trans (en rfl s13)
  clear hg
  refine yc_seq (fun K hK5 => ?_)
  refine yc_seq (fun K hK6 => ?_)
  refine yc_region ?_
  refine x_val (r_move s2) (nd_of rfl) rfl ?_
  refine x_enter (r_call Try.call29 (.cons es (.cons ec .nil))) (nd_of rfl) rfl (chunk_mk h) ?_
  rintro _ w ⟨c1, c2, rfl, h⟩
  refine xw_nil ?_
  refine hK6 _ _ _ ?_
  refine yc_gen (fun g hg => ?_)
  have s0 := (hg 0).trans (en rfl (en rfl s0))
  have s1 := (hg 1).trans (en rfl (en rfl s1))
  have s2 := (hg 2).trans (en rfl (en rfl s2))
  have s6 := (hg 6).trans (en rfl (en rfl s6))
  have s7 := (hg 7).trans (en rfl (en rfl s7))
  have s13 := (hg 13).trans (en rfl (en rfl s13))
  have s15 := (hg 15).trans es
  clear hg
  refine yc_block ?_
  refine yc_range s15 Try.call63 h ?_
  intro lp D fn tmps w htn htg h
  obtain ⟨lr, hlr, h⟩ := h.loopAbs
  have hR : ∀ (M : List SProp) (k : Nat) (pv : Value) (w : World), k < nPieces zs → Reads E R pv .i32 (piece zs k) → SatL E w (M ++ (Acc b7 (pieces zs k) :: pt lp (.loop lr) :: pt D (.deferred (some [])) :: Cells b6 #[.int .i64 0] 30 :: ObjO b xs B :: R)) → FnOk Try.prog (.func (.yield lp) #[] #[]) [pv] w (fun u w' => u = .bool true ∧ SatL E w' (M ++ (Acc b7 (pieces zs (k + 1)) :: pt lp (.loop lr) :: pt D (.deferred (some [])) :: Cells b6 #[.int .i64 0] 30 :: ObjO b xs B :: R))) := by
    intro M k pv w hkn hpv h; replace h := h.app; have hck := piece_ok (k := k) ha; have hpk := hck.ok; have hpsl := pieces_len (zs := zs) (k := k); obtain ⟨u0, h⟩ := SatL.openAcc h; have h := h.f2
    subst hlr
    refine fnOk_round h rfl htn ?_
    refine xc_gen (fun g hg => ?_)
    have s0 := (hg 0).trans ((fold_get rfl).trans ((htg 0).trans s0))
    have s1 := (hg 1).trans ((fold_get rfl).trans ((htg 1).trans s1))
    have s2 := (hg 2).trans ((fold_get rfl).trans ((htg 2).trans s2))
    have s6 := (hg 6).trans ((fold_get rfl).trans ((htg 6).trans s6))
    have s7 := (hg 7).trans ((fold_get rfl).trans ((htg 7).trans s7))
    have s13 := (hg 13).trans ((fold_get rfl).trans ((htg 13).trans s13))
    have s15 := (hg 15).trans ((fold_get rfl).trans ((htg 15).trans s15))
    have s16 := (hg 16).trans (fold1_0 (by rw [htn]; decide))
    clear hg
    refine xc_region ?_
    refine x_val (r_assign s16) (nd_of rfl) rfl ?_
    refine xw_nil ?_
    refine thenR_mk ⟨_, _, rfl, h, fun w h => ?_⟩
    obtain ⟨lr2, hlr2, h⟩ := h.loopAbs
    refine xc_gen (fun g hg => ?_)
    have s0 := (hg 0).trans (en rfl s0)
    have s1 := (hg 1).trans (en rfl s1)
    have s2 := (hg 2).trans (en rfl s2)
    have s6 := (hg 6).trans (en rfl s6)
    have s7 := (hg 7).trans (en rfl s7)
    have s8 := (hg 8).trans es
    have s13 := (hg 13).trans (en rfl s13)
    have s15 := (hg 15).trans (en rfl s15)
    have s16 := (hg 16).trans (en rfl s16)
    clear hg
    refine xc_block ?_
    refine xc_seq (fun K hK7 => ?_)
    refine xc_region ?_
    refine x_val (r_move s8) (nd_of rfl) rfl ?_
    refine x_enter (r_call Try.call30 (.cons es .nil)) (nd_of rfl) rfl (of_ok (hpv.weak (fun w h => SatL.left (M := M) (h.drop.drop.drop.drop.drop.drop))) hck h) ?_
    rintro _ w ⟨rfl, h⟩
    refine x_val (r_move es) (nd_of rfl) rfl ?_
    refine x_val (r_extract es gc0) (nd_of rfl) rfl ?_
    refine x_val (r_extract (en rfl es) gc1) (nd_of rfl) rfl ?_
    refine x_declA h Try.zeroValue58 Try.sizeOf58 rfl (en rfl (en rfl es)) (by first | assumption | exact Ok.node (by assumption) | exact xOk.cells (by assumption) | exact ChOk.ok (by assumption)) rfl ?_
    intro b9 w h
    refine x_val (r_assign (en rfl es)) (nd_of rfl) rfl ?_
    refine xw_nil ?_
    refine hK7 _ _ ?_
    refine xc_gen (fun g hg => ?_)
    have s0 := (hg 0).trans (en rfl (en rfl (en rfl (en rfl (en rfl (en rfl (en rfl s0)))))))
    have s1 := (hg 1).trans (en rfl (en rfl (en rfl (en rfl (en rfl (en rfl (en rfl s1)))))))
    have s2 := (hg 2).trans (en rfl (en rfl (en rfl (en rfl (en rfl (en rfl (en rfl s2)))))))
    have s6 := (hg 6).trans (en rfl (en rfl (en rfl (en rfl (en rfl (en rfl (en rfl s6)))))))
    have s7 := (hg 7).trans (en rfl (en rfl (en rfl (en rfl (en rfl (en rfl (en rfl s7)))))))
    have s8 := (hg 8).trans (en rfl (en rfl (en rfl (en rfl (en rfl (en rfl (en rfl s8)))))))
    have s9 := (hg 9).trans (en rfl es)
    have s10 := (hg 10).trans es
    have s13 := (hg 13).trans (en rfl (en rfl (en rfl (en rfl (en rfl (en rfl (en rfl s13)))))))
    have s15 := (hg 15).trans (en rfl (en rfl (en rfl (en rfl (en rfl (en rfl (en rfl s15)))))))
    have s16 := (hg 16).trans (en rfl (en rfl (en rfl (en rfl (en rfl (en rfl (en rfl s16)))))))
    clear hg
    refine xc_seq (fun K hK8 => ?_)
    refine xc_seq (fun K hK9 => ?_)
    refine xc_region ?_
    refine x_val (r_move s10) (nd_of rfl) rfl ?_
    refine x_val (r_neq es ec (r := false) rfl) (nd_of rfl) rfl ?_
    refine xw_nil ?_
    refine hK9 _ _ ?_
    refine xc_gen (fun g hg => ?_)
    have s0 := (hg 0).trans (en rfl (en rfl s0))
    have s1 := (hg 1).trans (en rfl (en rfl s1))
    have s2 := (hg 2).trans (en rfl (en rfl s2))
    have s6 := (hg 6).trans (en rfl (en rfl s6))
    have s7 := (hg 7).trans (en rfl (en rfl s7))
    have s8 := (hg 8).trans (en rfl (en rfl s8))
    have s9 := (hg 9).trans (en rfl (en rfl s9))
    have s10 := (hg 10).trans (en rfl (en rfl s10))
    have s13 := (hg 13).trans (en rfl (en rfl s13))
    have s15 := (hg 15).trans (en rfl (en rfl s15))
    have s16 := (hg 16).trans (en rfl (en rfl s16))
    have s23 := (hg 23).trans es
    clear hg
    refine xc_cond s23 (fun hc => by cases hc) (fun _ => ?_)
    refine xc_skip ?_
    refine hK8 _ _ ?_
    have h := h.f3
    refine xc_region ?_
    refine x_val (r_load h 3 rfl Try.isAgg60 s7 gc0) (nd_of rfl) rfl ?_
    refine x_val (r_loadAgg h 1 rfl Try.isAgg58 Try.sizeOf58 (en rfl s9) (Ok.le (by first | assumption | exact Ok.node (by assumption) | exact xOk.cells (by assumption) | exact ChOk.ok (by assumption))) (ext_full (Ok.size (by first | assumption | exact Ok.node (by assumption) | exact xOk.cells (by assumption) | exact ChOk.ok (by assumption))))) (nd_of rfl) rfl ?_
    refine x_bslice (c := chC (piece zs k)) h Try.underlying60 Try.sizeOf58 zX rfl rfl es rfl hpk rfl ?_; intro bn w h; have h := h.f1
    refine x_append (m := 1) (bytes := 136) h Try.underlying60 (by kernel_rfl) (en rfl (en rfl es)) es (show Ok (1 * 33) (chC (piece zs k)) from hpk) (by omega) (by omega) rfl ?_; intro u2 w h; have h := h.f1.drop; obtain ⟨au, cu, rfl, _, _⟩ := h.rowVal
    refine x_st (r_store h 3 rfl Try.sizeOf60 (en rfl (en rfl (en rfl (en rfl s7)))) es rfl gc0) rfl (h.u3 sc0) ?_
    intro w h
    refine xw_nil ?_
    have h := h.f1
    have h := h.f1
    have h := h.f3
    have h := h.f3
    subst hlr2; exact roundR_normal h fun w h => ⟨rfl, SatL.app (SatL.closeAcc (u := .slice au ((pieces zs k).length + 1) cu) (show SatL E w (_ :: Row _ KX (.slice au ((pieces zs k).length + 1) cu) (pieces zs (k + 1)).length (flat (pieces zs (k + 1))) :: _) by rw [pieces_succ, flat_app, xflat_one, List.length_append]; exact ((h.f3.drop.f1).f2).f1))⟩
  have h := h.f4
  have h := SatL.closeAcc (d := pieces zs 0) (b := b7) (u := .slice none 0 0) ((h.rowNil (e := 58) (sz := KX)).f1)
  have h := h.f6
  have h := h.f6
  have h := h.f4
  have h := h.f4
  have h := h.f4
  have h := h.f6
  have h := h.f6
  refine Calls.ret_mono (chunkit_t (k0 := nPieces zs) (IL := fun k => Acc b7 (pieces zs k) :: pt lp (.loop lr) :: pt D (.deferred (some [])) :: Cells b6 #[.int .i64 0] 30 :: ObjO b xs B :: R) (JL := []) hv (h.drop.drop.drop.drop.drop.drop.drop) (by omega) (Nat.le_refl _) (fun M k pv w hk _ hr h => by simp only [decide_eq_true hk, if_pos hk]; exact hR M k pv w hk hr h) h) ?_; rintro _ w h; rw [if_neg (Nat.lt_irrefl _)] at h; subst hlr; refine ⟨_, _, (fun e => by cases e), ((h.f4).f4), ?_⟩; intro w h
  refine hK5 _ _ _ ?_
  have h := (h.f0).drop
  have h := (h.f1).drop
  have h := (h.f1).drop
  obtain ⟨u1, h⟩ := SatL.openAcc (h.f1)
  obtain ⟨au1, cu1, rfl, _, _⟩ := (h.f1).rowVal
  rcases Decidable.em (isPart (sz xs) i i) with hp | hp
  ·
    skip
    refine yc_seq (fun K hK10 => ?_)
    refine yc_seq (fun K hK11 => ?_)
    have hp2 := hp
    obtain ⟨h0, h1, h2⟩ := hp
    obtain ⟨ni, rfl⟩ := Int.eq_ofNat_of_zero_le h0
    have htr := txt_repl (xs := xs) (l := pieces zs (nPieces zs)) (i := ni) (j := ni) (Nat.le_refl _)
    refine yc_region ?_
    refine x_val (r_move s0) (nd_of rfl) rfl ?_
    refine x_val (r_move (en rfl s1)) (nd_of rfl) rfl ?_
    refine x_val (r_move (en rfl (en rfl s1))) (nd_of rfl) rfl ?_
    have h := h.f4
    refine x_enter (r_call Try.call27 (.cons (en rfl (en rfl es)) (.cons (en rfl es) (.cons es .nil)))) (nd_of rfl) rfl (between_o h) ?_
    rintro _ w ⟨rfl, h⟩
    refine x_val (r_assign es) (nd_of rfl) rfl ?_
    refine xw_nil ?_
    refine hK11 _ _ _ ?_
    refine yc_gen (fun g hg => ?_)
    have s0 := (hg 0).trans (en rfl (en rfl (en rfl (en rfl (en rfl s0)))))
    have s1 := (hg 1).trans (en rfl (en rfl (en rfl (en rfl (en rfl s1)))))
    have s2 := (hg 2).trans (en rfl (en rfl (en rfl (en rfl (en rfl s2)))))
    have s6 := (hg 6).trans (en rfl (en rfl (en rfl (en rfl (en rfl s6)))))
    have s7 := (hg 7).trans (en rfl (en rfl (en rfl (en rfl (en rfl s7)))))
    have s11 := (hg 11).trans es
    have s13 := (hg 13).trans (en rfl (en rfl (en rfl (en rfl (en rfl s13)))))
    have s15 := (hg 15).trans (en rfl (en rfl (en rfl (en rfl (en rfl s15)))))
    clear hg
    refine yc_seq (fun K hK12 => ?_)
    refine yc_region ?_
    refine x_val (r_move s11) (nd_of rfl) rfl ?_
    refine x_val (r_neq es ec (decide_eq_false (by rw [if_pos hp2]; decide))) (nd_of rfl) rfl ?_
    refine xw_nil ?_
    refine hK12 _ _ _ ?_
    refine yc_gen (fun g hg => ?_)
    have s0 := (hg 0).trans (en rfl (en rfl s0))
    have s1 := (hg 1).trans (en rfl (en rfl s1))
    have s2 := (hg 2).trans (en rfl (en rfl s2))
    have s6 := (hg 6).trans (en rfl (en rfl s6))
    have s7 := (hg 7).trans (en rfl (en rfl s7))
    have s11 := (hg 11).trans (en rfl (en rfl s11))
    have s13 := (hg 13).trans (en rfl (en rfl s13))
    have s15 := (hg 15).trans (en rfl (en rfl s15))
    have s33 := (hg 33).trans es
    clear hg
    refine yc_cond s33 (fun hc => by cases hc) (fun _ => ?_)
    refine yc_skip ?_
    refine hK10 _ _ _ ?_
    refine yc_seq (fun K hK13 => ?_)
    refine yc_seq (fun K hK14 => ?_)
    refine yc_region ?_
    refine x_val (r_move s2) (nd_of rfl) rfl ?_
    refine x_val (r_len Try.underlying23 es) (nd_of rfl) rfl ?_
    refine x_val (r_move (en rfl (en rfl s0))) (nd_of rfl) rfl ?_
    refine x_enter (r_call Try.call11 (.cons es .nil)) (nd_of rfl) rfl (len_o h) ?_
    rintro _ w ⟨rfl, h⟩
    refine x_val (r_sub ec es (show _ = ((536870912 : Int) - sz xs : Int) from by rfl) (by unfold I64; omega)) (nd_of rfl) rfl ?_
    refine x_val (r_gtr (en rfl (en rfl (en rfl es))) es (decide_eq_false (by omega))) (nd_of rfl) rfl ?_
    refine xw_nil ?_
    refine hK14 _ _ _ ?_
    refine yc_gen (fun g hg => ?_)
    have s0 := (hg 0).trans (en rfl (en rfl (en rfl (en rfl (en rfl (en rfl s0))))))
    have s1 := (hg 1).trans (en rfl (en rfl (en rfl (en rfl (en rfl (en rfl s1))))))
    have s2 := (hg 2).trans (en rfl (en rfl (en rfl (en rfl (en rfl (en rfl s2))))))
    have s6 := (hg 6).trans (en rfl (en rfl (en rfl (en rfl (en rfl (en rfl s6))))))
    have s7 := (hg 7).trans (en rfl (en rfl (en rfl (en rfl (en rfl (en rfl s7))))))
    have s11 := (hg 11).trans (en rfl (en rfl (en rfl (en rfl (en rfl (en rfl s11))))))
    have s13 := (hg 13).trans (en rfl (en rfl (en rfl (en rfl (en rfl (en rfl s13))))))
    have s15 := (hg 15).trans (en rfl (en rfl (en rfl (en rfl (en rfl (en rfl s15))))))
    have s33 := (hg 33).trans (en rfl (en rfl (en rfl (en rfl (en rfl (en rfl s33))))))
    have s40 := (hg 40).trans es
    clear hg
    refine yc_cond s40 (fun hc => by cases hc) (fun _ => ?_)
    refine yc_skip ?_
    refine hK13 _ _ _ ?_
    refine yc_seq (fun K hK15 => ?_)
    have hS := h
    have hS := (hS.f0).drop
    refine yc_of_xc (xc_plan 5 [(0, 2), (2, 2), (3, 2), (4, 1), (1, 0), (5, 0)] (by kernel_rfl) rfl (by kernel_rfl) hS ?_)
    have h := h.drew
    refine xp_read (i := 0) rfl (fun W => r_move s0) rfl (fun _ _ _ hh => by first | exact bodyR_np hh | exact bodyY_np hh | exact hh) ?_
    refine xp_read (i := 2) rfl (fun W => r_move (en rfl s1)) rfl (fun _ _ _ hh => by first | exact bodyR_np hh | exact bodyY_np hh | exact hh) ?_
    refine xp_read (i := 3) rfl (fun W => r_move (en rfl (en rfl s1))) rfl (fun _ _ _ hh => by first | exact bodyR_np hh | exact bodyY_np hh | exact hh) ?_
    refine xp_load (i := 4) rfl (fun W hW => r_load hW 0 rfl Try.isAgg60 (en rfl (en rfl (en rfl s7))) gc0) rfl (fun _ _ _ hh => by first | exact bodyR_np hh | exact bodyY_np hh | exact hh) ?_
    refine xp_enter (i := 1) rfl (r_call Try.call25 (.cons (en rfl (en rfl (en rfl es))) .nil)) rfl (tree_o h) ?_
    rintro _ w ⟨bt, ba, rfl, h⟩
    refine ⟨(fun _ => ((h.f0).drop.f0).drop), ?_⟩
    have h := h.f3
    have h := h.f2
    refine xp_enter (i := 5) rfl (r_call Try.call28 (.cons es (.cons (en rfl (en rfl (en rfl es))) (.cons (en rfl (en rfl es)) (.cons (en rfl es) .nil))))) rfl (replace_t (B' := B') (slc_row hpo h.drop) (Nat.le_refl _) (by omega) (by rw [pieces_len]; omega) hBB (by omega) (by rw [hpz]; omega) h) ?_
    rintro _ w h
    refine ⟨(fun hh => absurd rfl hh), ?_⟩
    refine xp_nil ?_
    refine hK15 _ _ _ ?_
    refine yc_gen (fun g hg => ?_)
    have s0 := (hg 0).trans (en rfl (en rfl (en rfl (en rfl (en rfl (en rfl s0))))))
    have s1 := (hg 1).trans (en rfl (en rfl (en rfl (en rfl (en rfl (en rfl s1))))))
    have s2 := (hg 2).trans (en rfl (en rfl (en rfl (en rfl (en rfl (en rfl s2))))))
    have s6 := (hg 6).trans (en rfl (en rfl (en rfl (en rfl (en rfl (en rfl s6))))))
    have s7 := (hg 7).trans (en rfl (en rfl (en rfl (en rfl (en rfl (en rfl s7))))))
    have s11 := (hg 11).trans (en rfl (en rfl (en rfl (en rfl (en rfl (en rfl s11))))))
    have s13 := (hg 13).trans (en rfl (en rfl (en rfl (en rfl (en rfl (en rfl s13))))))
    have s15 := (hg 15).trans (en rfl (en rfl (en rfl (en rfl (en rfl (en rfl s15))))))
    have s33 := (hg 33).trans (en rfl (en rfl (en rfl (en rfl (en rfl (en rfl s33))))))
    have s40 := (hg 40).trans (en rfl (en rfl (en rfl (en rfl (en rfl (en rfl s40))))))
    clear hg
    refine yc_seq (fun K hK16 => ?_)
    have h := h.f2
    have h := h.f2
    have h := h.f5
    have h := h.f5
    refine yc_region ?_
    refine x_st (r_store h 1 rfl Try.sizeOf30 s6 ec rfl gc0) rfl (h.u1 sc0) ?_
    intro w h
    refine xw_nil ?_
    refine hK16 _ _ _ ?_
    refine yc_ret ?_
    refine bodyY_mark h ?_; intro w h; refine bodyY_nil ?_
    refine bodyR_c rfl s6 (lv_one h 1 rfl Try.isAgg30 gc0) ?_
    exact ⟨by rw [if_pos (hst ▸ hp2)], by rw [if_pos (hst ▸ hp2)]; exact SatL.closeRp (by rw [htr, hpa]; rfl) (SatL.closeObj (h.drop.drop.drop.f2.drop))⟩
  ·
    skip
    refine yc_seq (fun K hK17 => ?_)
    refine yc_seq (fun K hK18 => ?_)
    refine yc_region ?_
    refine x_val (r_move s0) (nd_of rfl) rfl ?_
    refine x_val (r_move (en rfl s1)) (nd_of rfl) rfl ?_
    refine x_val (r_move (en rfl (en rfl s1))) (nd_of rfl) rfl ?_
    have h := h.f4
    refine x_enter (r_call Try.call27 (.cons (en rfl (en rfl es)) (.cons (en rfl es) (.cons es .nil)))) (nd_of rfl) rfl (between_o h) ?_
    rintro _ w ⟨rfl, h⟩
    refine x_val (r_assign es) (nd_of rfl) rfl ?_
    refine xw_nil ?_
    refine hK18 _ _ _ ?_
    refine yc_gen (fun g hg => ?_)
    have s0 := (hg 0).trans (en rfl (en rfl (en rfl (en rfl (en rfl s0)))))
    have s1 := (hg 1).trans (en rfl (en rfl (en rfl (en rfl (en rfl s1)))))
    have s2 := (hg 2).trans (en rfl (en rfl (en rfl (en rfl (en rfl s2)))))
    have s6 := (hg 6).trans (en rfl (en rfl (en rfl (en rfl (en rfl s6)))))
    have s7 := (hg 7).trans (en rfl (en rfl (en rfl (en rfl (en rfl s7)))))
    have s11 := (hg 11).trans es
    have s13 := (hg 13).trans (en rfl (en rfl (en rfl (en rfl (en rfl s13)))))
    have s15 := (hg 15).trans (en rfl (en rfl (en rfl (en rfl (en rfl s15)))))
    clear hg
    refine yc_seq (fun K hK19 => ?_)
    refine yc_region ?_
    refine x_val (r_move s11) (nd_of rfl) rfl ?_
    refine x_val (r_neq es ec (decide_eq_true (by rw [if_neg hp]; decide))) (nd_of rfl) rfl ?_
    refine xw_nil ?_
    refine hK19 _ _ _ ?_
    refine yc_gen (fun g hg => ?_)
    have s0 := (hg 0).trans (en rfl (en rfl s0))
    have s1 := (hg 1).trans (en rfl (en rfl s1))
    have s2 := (hg 2).trans (en rfl (en rfl s2))
    have s6 := (hg 6).trans (en rfl (en rfl s6))
    have s7 := (hg 7).trans (en rfl (en rfl s7))
    have s11 := (hg 11).trans (en rfl (en rfl s11))
    have s13 := (hg 13).trans (en rfl (en rfl s13))
    have s15 := (hg 15).trans (en rfl (en rfl s15))
    have s33 := (hg 33).trans es
    clear hg
    refine yc_cond s33 (fun _ => ?_) (fun hc => by cases hc)
    refine yc_seq (fun K hK20 => ?_)
    have h := h.f2
    have h := h.f4
    have h := h.f4
    refine yc_region ?_
    refine x_val (r_move s11) (nd_of rfl) rfl ?_
    refine x_st (r_store h 1 rfl Try.sizeOf30 (en rfl s6) es rfl gc0) rfl (h.u1 sc0) ?_
    intro w h
    refine xw_nil ?_
    refine hK20 _ _ _ ?_
    refine yc_gen (fun g hg => ?_)
    have s0 := (hg 0).trans (en rfl s0)
    have s1 := (hg 1).trans (en rfl s1)
    have s2 := (hg 2).trans (en rfl s2)
    have s6 := (hg 6).trans (en rfl s6)
    have s7 := (hg 7).trans (en rfl s7)
    have s11 := (hg 11).trans (en rfl s11)
    have s13 := (hg 13).trans (en rfl s13)
    have s15 := (hg 15).trans (en rfl s15)
    have s33 := (hg 33).trans (en rfl s33)
    clear hg
    refine yc_ret ?_
    refine bodyY_mark h ?_; intro w h; refine bodyY_nil ?_
    refine bodyR_c rfl s6 (lv_one h 1 rfl Try.isAgg30 gc0) ?_
    exact ⟨by rw [if_neg hp, if_neg (hst ▸ hp)], by rw [if_neg (hst ▸ hp)]; exact SatL.closeRp rfl ((h.drop.drop.drop.f1.drop).objMono hBB)⟩
theorem insert_bad {i : Int} (hv : Reads E R v .i32 zs) (hbad : ∃ r ∈ zs, ¬ rune r) (hz : zs.length ≤ 1000000) (hBB : B ≤ B') (h : SatL E w (Rp b t B :: R)) :
    Calls Try.prog 13 #[pT b, .int .i64 i, v] w (Ret fun u w' => u = .int .i64 3 ∧ SatL E w' (Rp b t B' :: R)) := by
  obtain ⟨xs, rfl, hh⟩ := h.openRp
  clear h
  have h := hh
  clear hh
  have hpl := ps_len h.objFacts.1
  have hst := sz_txt xs
  obtain ⟨a, cap, rfl, hl1, hl2⟩ := hv.slice h.drop
  have hnp : nPieces zs ≤ zs.length := by unfold nPieces; omega
  obtain ⟨k0, hk0, hb0, hgood⟩ := first_bad (nPieces zs) (bad_piece hbad)
  refine calls_y Try.func13 rfl Try.ntmps13 rfl ?_
  refine yc_gen (fun g hg => ?_)
  have s0 := (hg 0).trans arg0
  have s1 := (hg 1).trans arg1
  have s2 := (hg 2).trans arg2
  clear hg
  refine yc_seq (fun K hK1 => ?_)
  refine yc_region ?_
  refine x_alloc1 h Try.zeroValue30 rfl rfl ?_
  intro b6 w h
  refine xw_nil ?_
  refine hK1 _ _ _ ?_
  refine yc_gen (fun g hg => ?_)
  have s0 := (hg 0).trans (en rfl s0)
  have s1 := (hg 1).trans (en rfl s1)
  have s2 := (hg 2).trans (en rfl s2)
  have s6 := (hg 6).trans es
  clear hg
  refine yc_seq (fun K hK2 => ?_)
  refine yc_seq (fun K hK3 => ?_)
  refine yc_region ?_
  refine x_val (r_move s0) (nd_of rfl) rfl ?_
  refine x_val (r_eqnil Try.underlying24 es ec (r := false) rfl) (nd_of rfl) rfl ?_
  refine xw_nil ?_
  refine hK3 _ _ _ ?_
  refine yc_gen (fun g hg => ?_)
  have s0 := (hg 0).trans (en rfl (en rfl s0))
  have s1 := (hg 1).trans (en rfl (en rfl s1))
  have s2 := (hg 2).trans (en rfl (en rfl s2))
  have s6 := (hg 6).trans (en rfl (en rfl s6))
  have s13 := (hg 13).trans es
  clear hg
  refine yc_cond s13 (fun hc => by cases hc) (fun _ => ?_)
  refine yc_skip ?_
  refine hK2 _ _ _ ?_
  refine yc_seq (fun K hK4 => ?_)
  refine yc_region ?_
  refine x_alloc1 h Try.zeroValue60 rfl rfl ?_
  intro b7 w h
  refine xw_nil ?_
  refine hK4 _ _ _ ?_
  refine yc_gen (fun g hg => ?_)
  have s0 := (hg 0).trans (en rfl s0)
  have s1 := (hg 1).trans (en rfl s1)
  have s2 := (hg 2).trans (en rfl s2)
  have s6 := (hg 6).trans (en rfl s6)
  have s7 := (hg 7).trans es
  have s13 := (hg 13).trans (en rfl s13)
  clear hg
  refine yc_seq (fun K hK5 => ?_)
  refine yc_seq (fun K hK6 => ?_)
  refine yc_region ?_
  refine x_val (r_move s2) (nd_of rfl) rfl ?_
  refine x_enter (r_call Try.call29 (.cons es (.cons ec .nil))) (nd_of rfl) rfl (chunk_mk h) ?_
  rintro _ w ⟨c1, c2, rfl, h⟩
  refine xw_nil ?_
  refine hK6 _ _ _ ?_
  refine yc_gen (fun g hg => ?_)
  have s0 := (hg 0).trans (en rfl (en rfl s0))
  have s1 := (hg 1).trans (en rfl (en rfl s1))
  have s2 := (hg 2).trans (en rfl (en rfl s2))
  have s6 := (hg 6).trans (en rfl (en rfl s6))
  have s7 := (hg 7).trans (en rfl (en rfl s7))
  have s13 := (hg 13).trans (en rfl (en rfl s13))
  have s15 := (hg 15).trans es
  clear hg
  refine yc_block ?_
  refine yc_range s15 Try.call63 h ?_
  intro lp D fn tmps w htn htg h
  obtain ⟨lr, hlr, h⟩ := h.loopAbs
  have hR : ∀ (M : List SProp) (k : Nat) (pv : Value) (w : World), k < nPieces zs → k ≤ k0 → Reads E R pv .i32 (piece zs k) → SatL E w (M ++ (Acc b7 (pieces zs k) :: pt lp (.loop lr) :: pt D (.deferred (some [])) :: Cells b6 #[.int .i64 0] 30 :: ObjO b xs B :: R)) → FnOk Try.prog (.func (.yield lp) #[] #[]) [pv] w (fun u w' => u = .bool (decide (k < k0)) ∧ SatL E w' (M ++ (if k < k0 then Acc b7 (pieces zs (k + 1)) :: pt lp (.loop lr) :: pt D (.deferred (some [])) :: Cells b6 #[.int .i64 0] 30 :: ObjO b xs B :: R else Acc b7 (pieces zs k0) :: pt lp (.loop { lr with state := .done, pending := some .ret }) :: pt D (.deferred (some [])) :: Cells b6 #[.int .i64 3] 30 :: ObjO b xs B :: R))) := by
    intro M k pv w hkn hkk hpv h; replace h := h.app; have hpsl := pieces_len (zs := zs) (k := k); obtain ⟨u0, h⟩ := SatL.openAcc h; have h := h.f2
    subst hlr
    refine fnOk_round h rfl htn ?_
    refine xc_gen (fun g hg => ?_)
    have s0 := (hg 0).trans ((fold_get rfl).trans ((htg 0).trans s0))
    have s1 := (hg 1).trans ((fold_get rfl).trans ((htg 1).trans s1))
    have s2 := (hg 2).trans ((fold_get rfl).trans ((htg 2).trans s2))
    have s6 := (hg 6).trans ((fold_get rfl).trans ((htg 6).trans s6))
    have s7 := (hg 7).trans ((fold_get rfl).trans ((htg 7).trans s7))
    have s13 := (hg 13).trans ((fold_get rfl).trans ((htg 13).trans s13))
    have s15 := (hg 15).trans ((fold_get rfl).trans ((htg 15).trans s15))
    have s16 := (hg 16).trans (fold1_0 (by rw [htn]; decide))
    clear hg
    rcases Nat.lt_or_ge k k0 with hk3 | hk3
    ·
      skip
      have hck : ChOk (piece zs k) := piece_ok2 (fun r hr => Classical.byContradiction fun hn => hgood k hk3 ⟨r, hr, hn⟩)
      have hpk := hck.ok
      refine xc_region ?_
      refine x_val (r_assign s16) (nd_of rfl) rfl ?_
      refine xw_nil ?_
      refine thenR_mk ⟨_, _, rfl, h, fun w h => ?_⟩
      obtain ⟨lr2, hlr2, h⟩ := h.loopAbs
      refine xc_gen (fun g hg => ?_)
      have s0 := (hg 0).trans (en rfl s0)
      have s1 := (hg 1).trans (en rfl s1)
      have s2 := (hg 2).trans (en rfl s2)
      have s6 := (hg 6).trans (en rfl s6)
      have s7 := (hg 7).trans (en rfl s7)
      have s8 := (hg 8).trans es
      have s13 := (hg 13).trans (en rfl s13)
      have s15 := (hg 15).trans (en rfl s15)
      have s16 := (hg 16).trans (en rfl s16)
      clear hg
      refine xc_block ?_
      refine xc_seq (fun K hK7 => ?_)
      refine xc_region ?_
      refine x_val (r_move s8) (nd_of rfl) rfl ?_
      refine x_enter (r_call Try.call30 (.cons es .nil)) (nd_of rfl) rfl (of_ok (hpv.weak (fun w h => SatL.left (M := M) (h.drop.drop.drop.drop.drop.drop))) hck h) ?_
      rintro _ w ⟨rfl, h⟩
      refine x_val (r_move es) (nd_of rfl) rfl ?_
      refine x_val (r_extract es gc0) (nd_of rfl) rfl ?_
      refine x_val (r_extract (en rfl es) gc1) (nd_of rfl) rfl ?_
      refine x_declA h Try.zeroValue58 Try.sizeOf58 rfl (en rfl (en rfl es)) (by first | assumption | exact Ok.node (by assumption) | exact xOk.cells (by assumption) | exact ChOk.ok (by assumption)) rfl ?_
      intro b9 w h
      refine x_val (r_assign (en rfl es)) (nd_of rfl) rfl ?_
      refine xw_nil ?_
      refine hK7 _ _ ?_
      refine xc_gen (fun g hg => ?_)
      have s0 := (hg 0).trans (en rfl (en rfl (en rfl (en rfl (en rfl (en rfl (en rfl s0)))))))
      have s1 := (hg 1).trans (en rfl (en rfl (en rfl (en rfl (en rfl (en rfl (en rfl s1)))))))
      have s2 := (hg 2).trans (en rfl (en rfl (en rfl (en rfl (en rfl (en rfl (en rfl s2)))))))
      have s6 := (hg 6).trans (en rfl (en rfl (en rfl (en rfl (en rfl (en rfl (en rfl s6)))))))
      have s7 := (hg 7).trans (en rfl (en rfl (en rfl (en rfl (en rfl (en rfl (en rfl s7)))))))
      have s8 := (hg 8).trans (en rfl (en rfl (en rfl (en rfl (en rfl (en rfl (en rfl s8)))))))
      have s9 := (hg 9).trans (en rfl es)
      have s10 := (hg 10).trans es
      have s13 := (hg 13).trans (en rfl (en rfl (en rfl (en rfl (en rfl (en rfl (en rfl s13)))))))
      have s15 := (hg 15).trans (en rfl (en rfl (en rfl (en rfl (en rfl (en rfl (en rfl s15)))))))
      have s16 := (hg 16).trans (en rfl (en rfl (en rfl (en rfl (en rfl (en rfl (en rfl s16)))))))
      clear hg
      refine xc_seq (fun K hK8 => ?_)
      refine xc_seq (fun K hK9 => ?_)
      refine xc_region ?_
      refine x_val (r_move s10) (nd_of rfl) rfl ?_
      refine x_val (r_neq es ec (r := false) rfl) (nd_of rfl) rfl ?_
      refine xw_nil ?_
      refine hK9 _ _ ?_
      refine xc_gen (fun g hg => ?_)
      have s0 := (hg 0).trans (en rfl (en rfl s0))
      have s1 := (hg 1).trans (en rfl (en rfl s1))
      have s2 := (hg 2).trans (en rfl (en rfl s2))
      have s6 := (hg 6).trans (en rfl (en rfl s6))
      have s7 := (hg 7).trans (en rfl (en rfl s7))
      have s8 := (hg 8).trans (en rfl (en rfl s8))
      have s9 := (hg 9).trans (en rfl (en rfl s9))
      have s10 := (hg 10).trans (en rfl (en rfl s10))
      have s13 := (hg 13).trans (en rfl (en rfl s13))
      have s15 := (hg 15).trans (en rfl (en rfl s15))
      have s16 := (hg 16).trans (en rfl (en rfl s16))
      have s23 := (hg 23).trans es
      clear hg
      refine xc_cond s23 (fun hc => by cases hc) (fun _ => ?_)
      refine xc_skip ?_
      refine hK8 _ _ ?_
      have h := h.f3
      refine xc_region ?_
      refine x_val (r_load h 3 rfl Try.isAgg60 s7 gc0) (nd_of rfl) rfl ?_
      refine x_val (r_loadAgg h 1 rfl Try.isAgg58 Try.sizeOf58 (en rfl s9) (Ok.le (by first | assumption | exact Ok.node (by assumption) | exact xOk.cells (by assumption) | exact ChOk.ok (by assumption))) (ext_full (Ok.size (by first | assumption | exact Ok.node (by assumption) | exact xOk.cells (by assumption) | exact ChOk.ok (by assumption))))) (nd_of rfl) rfl ?_
      refine x_bslice (c := chC (piece zs k)) h Try.underlying60 Try.sizeOf58 zX rfl rfl es rfl hpk rfl ?_; intro bn w h; have h := h.f1
      refine x_append (m := 1) (bytes := 136) h Try.underlying60 (by kernel_rfl) (en rfl (en rfl es)) es (show Ok (1 * 33) (chC (piece zs k)) from hpk) (by omega) (by omega) rfl ?_; intro u2 w h; have h := h.f1.drop; obtain ⟨au, cu, rfl, _, _⟩ := h.rowVal
      refine x_st (r_store h 3 rfl Try.sizeOf60 (en rfl (en rfl (en rfl (en rfl s7)))) es rfl gc0) rfl (h.u3 sc0) ?_
      intro w h
      refine xw_nil ?_
      have h := h.f1
      have h := h.f1
      have h := h.f3
      have h := h.f3
      subst hlr2; exact roundR_normal h fun w h => ⟨by rw [decide_eq_true hk3], by rw [if_pos hk3]; exact SatL.app (SatL.closeAcc (u := .slice au ((pieces zs k).length + 1) cu) (show SatL E w (_ :: Row _ KX (.slice au ((pieces zs k).length + 1) cu) (pieces zs (k + 1)).length (flat (pieces zs (k + 1))) :: _) by rw [pieces_succ, flat_app, xflat_one, List.length_append]; exact ((h.f3.drop.f1).f2).f1))⟩
    ·
      skip
      obtain rfl : k = k0 := by omega
      have hnil := chOk_nil
      have hnk := hnil.ok
      refine xc_region ?_
      refine x_val (r_assign s16) (nd_of rfl) rfl ?_
      refine xw_nil ?_
      refine thenR_mk ⟨_, _, rfl, h, fun w h => ?_⟩
      obtain ⟨lr2, hlr2, h⟩ := h.loopAbs
      refine xc_gen (fun g hg => ?_)
      have s0 := (hg 0).trans (en rfl s0)
      have s1 := (hg 1).trans (en rfl s1)
      have s2 := (hg 2).trans (en rfl s2)
      have s6 := (hg 6).trans (en rfl s6)
      have s7 := (hg 7).trans (en rfl s7)
      have s8 := (hg 8).trans es
      have s13 := (hg 13).trans (en rfl s13)
      have s15 := (hg 15).trans (en rfl s15)
      have s16 := (hg 16).trans (en rfl s16)
      clear hg
      refine xc_block ?_
      refine xc_seq (fun K hK10 => ?_)
      refine xc_region ?_
      refine x_val (r_move s8) (nd_of rfl) rfl ?_
      refine x_enter (r_call Try.call30 (.cons es .nil)) (nd_of rfl) rfl (of_bad (hpv.weak (fun w h => SatL.left (M := M) (h.drop.drop.drop.drop.drop.drop))) hb0 h) ?_
      rintro _ w ⟨rfl, h⟩
      refine x_val (r_move es) (nd_of rfl) rfl ?_
      refine x_val (r_extract es gc0) (nd_of rfl) rfl ?_
      refine x_val (r_extract (en rfl es) gc1) (nd_of rfl) rfl ?_
      refine x_declA h Try.zeroValue58 Try.sizeOf58 rfl (en rfl (en rfl es)) (by first | assumption | exact Ok.node (by assumption) | exact xOk.cells (by assumption) | exact ChOk.ok (by assumption)) rfl ?_
      intro b9 w h
      refine x_val (r_assign (en rfl es)) (nd_of rfl) rfl ?_
      refine xw_nil ?_
      refine hK10 _ _ ?_
      refine xc_gen (fun g hg => ?_)
      have s0 := (hg 0).trans (en rfl (en rfl (en rfl (en rfl (en rfl (en rfl (en rfl s0)))))))
      have s1 := (hg 1).trans (en rfl (en rfl (en rfl (en rfl (en rfl (en rfl (en rfl s1)))))))
      have s2 := (hg 2).trans (en rfl (en rfl (en rfl (en rfl (en rfl (en rfl (en rfl s2)))))))
      have s6 := (hg 6).trans (en rfl (en rfl (en rfl (en rfl (en rfl (en rfl (en rfl s6)))))))
      have s7 := (hg 7).trans (en rfl (en rfl (en rfl (en rfl (en rfl (en rfl (en rfl s7)))))))
      have s8 := (hg 8).trans (en rfl (en rfl (en rfl (en rfl (en rfl (en rfl (en rfl s8)))))))
      have s9 := (hg 9).trans (en rfl es)
      have s10 := (hg 10).trans es
      have s13 := (hg 13).trans (en rfl (en rfl (en rfl (en rfl (en rfl (en rfl (en rfl s13)))))))
      have s15 := (hg 15).trans (en rfl (en rfl (en rfl (en rfl (en rfl (en rfl (en rfl s15)))))))
      have s16 := (hg 16).trans (en rfl (en rfl (en rfl (en rfl (en rfl (en rfl (en rfl s16)))))))
      clear hg
      refine xc_seq (fun K hK11 => ?_)
      refine xc_seq (fun K hK12 => ?_)
      refine xc_region ?_
      refine x_val (r_move s10) (nd_of rfl) rfl ?_
      refine x_val (r_neq es ec (r := true) rfl) (nd_of rfl) rfl ?_
      refine xw_nil ?_
      refine hK12 _ _ ?_
      refine xc_gen (fun g hg => ?_)
      have s0 := (hg 0).trans (en rfl (en rfl s0))
      have s1 := (hg 1).trans (en rfl (en rfl s1))
      have s2 := (hg 2).trans (en rfl (en rfl s2))
      have s6 := (hg 6).trans (en rfl (en rfl s6))
      have s7 := (hg 7).trans (en rfl (en rfl s7))
      have s8 := (hg 8).trans (en rfl (en rfl s8))
      have s9 := (hg 9).trans (en rfl (en rfl s9))
      have s10 := (hg 10).trans (en rfl (en rfl s10))
      have s13 := (hg 13).trans (en rfl (en rfl s13))
      have s15 := (hg 15).trans (en rfl (en rfl s15))
      have s16 := (hg 16).trans (en rfl (en rfl s16))
      have s23 := (hg 23).trans es
      clear hg
      refine xc_cond s23 (fun _ => ?_) (fun hc => by cases hc)
      refine xc_seq (fun K hK13 => ?_)
      refine xc_region ?_
      refine x_st (r_store h 5 rfl Try.sizeOf30 s6 ec rfl gc0) rfl (h.u5 sc0) ?_
      intro w h
      refine xw_nil ?_
      refine hK13 _ _ ?_
      refine xc_ret ?_
      have h := h.f3
      have h := h.f3
      have h := h.f3
      subst hlr2; exact roundR_ret h fun w h => ⟨by rw [decide_eq_false (Nat.lt_irrefl _)], by rw [if_neg (Nat.lt_irrefl _)]; exact SatL.app (SatL.closeAcc (u := u0) (((h.f3.drop.f1).f2).f1))⟩
  have h := h.f4
  have h := SatL.closeAcc (d := pieces zs 0) (b := b7) (u := .slice none 0 0) ((h.rowNil (e := 58) (sz := KX)).f1)
  have h := h.f6
  have h := h.f6
  have h := h.f4
  have h := h.f4
  have h := h.f4
  have h := h.f6
  have h := h.f6
  refine Calls.ret_mono (chunkit_t (k0 := k0) (IL := fun k => Acc b7 (pieces zs k) :: pt lp (.loop lr) :: pt D (.deferred (some [])) :: Cells b6 #[.int .i64 0] 30 :: ObjO b xs B :: R) (JL := Acc b7 (pieces zs k0) :: pt lp (.loop { lr with state := .done, pending := some .ret }) :: pt D (.deferred (some [])) :: Cells b6 #[.int .i64 3] 30 :: ObjO b xs B :: R) hv (h.drop.drop.drop.drop.drop.drop.drop) (by omega) (Nat.le_of_lt hk0) hR h) ?_; rintro _ w h; rw [if_pos hk0] at h; subst hlr; refine ⟨_, _, (fun e => by cases e), ((h.f4).f4), ?_⟩; intro w h
  refine yc_ret ?_
  have h := h.f6
  have h := h.f6
  have h := h.f3
  refine bodyY_mark h ?_; intro w h; refine bodyY_nil ?_
  refine bodyR_c rfl s6 (lv_one h 1 rfl Try.isAgg30 gc0) ?_
  exact ⟨rfl, SatL.closeRp rfl (((((h.drop.drop).f1.drop).f1.drop).f1.drop).f1.drop.objMono hBB)⟩
end
end Go.Proofs.Ytmfkhfmidnojhaa
