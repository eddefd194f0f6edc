/-
  Operations that change memory: stores, new variables, literals.
-/
import Derived.Test.YtidobgmklcbcpaaEvOps2
import Derived.Laws.Tables
import Derived.Great.BuildSlice
namespace Go.Proofs.Ytidobgmklcbcpaa
namespace Ev

section
variable {P : Program} {h : H} {ρ : Rho} {w : World} {I : Nat → Prop}

/-! ### nil slices become slices under construction -/

theorem thaw_ok : ∀ (cells : List A) {h : H} {ρ : Rho} {vs : List Value}, Rel h ρ w I → ARv h ρ w I cells vs →
    ∃ ρ', Step h ρ w I (thawCells h cells).2 ρ' w I ∧ ARv (thawCells h cells).2 ρ' w I (thawCells h cells).1 vs ∧ ∀ id, id < h.length → (thawCells h cells).2[id]? = h[id]? ∧ ρ' id = ρ id
  | [], h, ρ, vs, r, ha => ⟨ρ, by simp only [thawCells]; exact .refl r, by simpa only [thawCells] using ha, fun id _ => by simp only [thawCells]; exact ⟨trivial, trivial⟩⟩
  | c :: cs, h, ρ, vs, r, ha => by
    simp only [ARv] at ha
    obtain ⟨v, rest, rfl, hc, hr⟩ := ha
    by_cases hn : c = .d .nils
    · subst hn
      have s1 := step_push r (Grew.refl w) (.arr [] 0 0) none (by simp) (fun _ => by simp [OR, upd_same])
      obtain ⟨ρ', s2, h2, h3⟩ := thaw_ok cs s1.rel (ARv_ext s1.ext cs rest hr)
      simp only [thawCells]
      refine ⟨ρ', s1.trans s2, ?_, fun id hid => ?_⟩
      · simp only [ARv]
        refine ⟨v, rest, rfl, ?_, h2⟩
        refine AR_ext s2.ext _ v ?_
        simp only [AR, DR] at hc ⊢
        obtain ⟨a, rfl⟩ := hc
        refine ⟨a, 0, rfl, ?_⟩
        have e : (h ++ [O.arr [] 0 0])[h.length]? = some (.arr [] 0 0) := by simp
        simp only [slOK, e, upd_same]
        simp
      · have := h3 id (by simp; omega)
        rw [this.1, this.2, List.getElem?_append_left hid, upd_other ρ none (by omega)]
        exact ⟨rfl, rfl⟩
    · have e1 : thawCells h (c :: cs) = (c :: (thawCells h cs).1, (thawCells h cs).2) := by
        rw [thawCells.eq_def]
        split
        · rename_i h0; cases h0
        · rename_i h0; cases h0; exact absurd rfl hn
        · rename_i h0; cases h0; rfl
      obtain ⟨ρ', s2, h2, h3⟩ := thaw_ok cs r hr
      rw [e1]
      exact ⟨ρ', s2, by simp only [ARv]; exact ⟨v, rest, rfl, AR_ext s2.ext c v hc, h2⟩, h3⟩

theorem setRun_get {α : Type} (cs : List α) (off : Nat) (new : List α) (hl : off + new.length ≤ cs.length) (k : Nat) : (setRun cs off new)[k]? = if off ≤ k ∧ k < off + new.length then new[k - off]? else cs[k]? := by
  unfold setRun
  by_cases h1 : k < off
  · rw [if_neg (by omega), List.append_assoc, List.getElem?_append_left (by simp; omega), List.getElem?_take, if_pos h1]
  · by_cases h2 : k < off + new.length
    · rw [if_pos (by omega), List.append_assoc, List.getElem?_append_right (by simp; omega)]
      have e : (cs.take off).length = off := by simp; omega
      rw [e, List.getElem?_append_left (by omega)]
    · rw [if_neg (by omega), List.getElem?_append_right (by simp; omega)]
      have e : (cs.take off ++ new).length = off + new.length := by simp; omega
      rw [e, List.getElem?_drop]
      congr 1; omega

theorem setRun_length {α : Type} (cs : List α) (off : Nat) (new : List α) (hl : off + new.length ≤ cs.length) : (setRun cs off new).length = cs.length := by
  unfold setRun; simp; omega

/-! ### stores -/

theorem run_storeAt {t : TypeId} {b o : Nat} {v : Value} {C : Array Value} {E : TypeId} {fz : Nat × Nat} {i : TypeInfo} (hi : P.info? t = some i) (hs : v.cells.toList.length = P.cellsOf t) (hb : w.heap[b]? = some (.cells C E fz)) (hfz : Unfrozen C fz)
    (hl : o + v.cells.toList.length ≤ C.size) (hone : ∀ u ∈ v.cells.toList, u.oneCell' = true) :
    ∃ C' : Array Value, (Instr.storeAt t (.pointer (some ⟨b, o, none⟩)) v).run P w = .ok () (putBlk w b (.cells C' E fz)) ∧ C'.size = C.size ∧
      ∀ k : Nat, C'[k]? = if o ≤ k ∧ k < o + v.cells.toList.length then v.cells.toList[k - o]? else C[k]? := by
  obtain ⟨C', h1, h2, h3⟩ := run_stores (P := P) (o := o) v.cells.toList 0 C w hb hfz (by omega) hone
  refine ⟨C', ?_, h2, fun k => by simpa using h3 k⟩
  have hs' : v.cells.size = P.cellsOf t := by simpa using hs
  simp [Instr.storeAt, Instr.sureAddr, storeVar, run_size hi, hs', h1]

theorem putBlk_facts {b : Nat} {o : Obj} : (putBlk w b o).os = w.os ∧ (putBlk w b o).tape = w.tape ∧ (putBlk w b o).output = w.output ∧ (putBlk w b o).heap.size = w.heap.size := by
  simp [putBlk]

theorem cellAt_put {b : Nat} {C' : Array Value} {E : TypeId} {fz : Nat × Nat} (hb : b < w.heap.size) (k : Nat) : cellAt (putBlk w b (.cells C' E fz)) b k = C'[k]? := by
  simp [cellAt, putBlk_get hb]

theorem cellAt_eq {b : Nat} {C : Array Value} {E : TypeId} {fz : Nat × Nat} (hb : w.heap[b]? = some (.cells C E fz)) (k : Nat) : cellAt w b k = C[k]? := by
  simp [cellAt, hb]

theorem store_ok {t : TypeId} {a x : A} {u v : Value} {h' : H} (he : aStore P h t a x = some h') (r : Rel h ρ w I) (ha : AR h ρ w I a u) (hx : AR h ρ w I x v) :
    ∃ ρ' w' I', (Instr.storeAt t u v).run P w = .ok () w' ∧ Step h ρ w I h' ρ' w' I' := by
  unfold aStore at he
  split at he
  · rename_i hc
    obtain ⟨hlen, hinfo, hok⟩ := hc
    obtain ⟨i, hi⟩ := Option.isSome_iff_exists.1 hinfo
    obtain ⟨hcv, hone⟩ := cells_ok hx hok
    have hvl : v.cells.toList.length = P.cellsOf t := by rw [← hlen]; exact (ARv_len hcv).symm
    split at he
    · rename_i id gen off
      simp only [AR] at ha
      obtain ⟨b, rfl, hp⟩ := ha
      cases hid : h[id]? with
      | none => rw [hid] at he; cases he
      | some ob =>
        rw [hid] at he
        have hlt : id < h.length := (List.getElem?_eq_some_iff.1 hid).1
        cases ob with
        | ice cs esz g => cases he
        | void => cases he
        | box cs =>
          simp only [] at he
          split at he
          · rename_i hle
            cases he
            simp only [ptOK, hid] at hp
            -- nil slices first
            obtain ⟨ρ1, s1, hcv1, hkeep⟩ := thaw_ok (cellsA x) r hcv
            obtain ⟨hid1, hρ1⟩ := hkeep id hlt
            rw [hid] at hid1
            rw [hp.2] at hρ1
            have hO := s1.rel.obj id _ hid1
            simp only [OR] at hO
            obtain ⟨b', hb', hIb, C, E, fz, hC, hfz, hcs⟩ := hO
            rw [hρ1] at hb'; cases hb'
            have hblt := (Array.getElem?_eq_some_iff.1 hC).1
            have hcsz : cs.length ≤ C.size := by
              rcases Nat.eq_zero_or_pos cs.length with h0 | h0
              · omega
              · obtain ⟨v0, hv0, _⟩ := hcs (cs.length - 1) cs[cs.length - 1] (by simp)
                rw [cellAt_eq hC] at hv0
                have := (Array.getElem?_eq_some_iff.1 hv0).1
                omega
            obtain ⟨C', h1, h2, h3⟩ := run_storeAt (P := P) (o := off) hi hvl hC hfz (by omega) hone
            have hl1 : (thawCells h (cellsA x)).1.length = P.cellsOf t := by rw [ARv_len hcv1, hvl]
            obtain ⟨f1, f2, f3, f4⟩ := putBlk_facts (w := w) (b := b) (o := .cells C' E fz)
            have s2 := step_obj (o' := .box (setRun cs off (thawCells h (cellsA x)).1)) (w' := putBlk w b (.cells C' E fz)) (I' := I) s1.rel hid1 trivial (ρ1 id) f1 f2 f3 (by rw [f4]; exact Nat.le_refl _)
              (fun k _ hne => putBlk_other (fun e => hne (by rw [hρ1, e]))) (fun _ hb => hb) (fun _ hb => .inl hb) (fun _ hb => .inl hb)
              (fun _ gen off len a cap hs => by simp only [slOK, hid1] at hs)
              (fun _ gen b2 hs => by
                simp only [ptOK, hid1] at hs
                have e : ((thawCells h (cellsA x)).2.set id (.box (setRun cs off (thawCells h (cellsA x)).1)))[id]? = some (.box (setRun cs off (thawCells h (cellsA x)).1)) := by
                  have := (List.getElem?_eq_some_iff.1 hid1).1
                  simp [this]
                simp only [ptOK, e, upd_self]; exact hs)
              (fun ext => by
                simp only [OR, upd_self]
                refine ⟨b, hρ1, hIb, C', E, fz, putBlk_get hblt, fun j hj => hfz j (by omega), fun k c hk => ?_⟩
                rw [upd_self] at ext
                rw [setRun_get _ _ _ (by omega)] at hk
                rw [cellAt_put hblt, h3 k]
                by_cases hin : off ≤ k ∧ k < off + P.cellsOf t
                · rw [if_pos (by omega)] at hk
                  rw [if_pos (by omega)]
                  obtain ⟨u, hu, hau⟩ := ((ARv_iff _ _).1 hcv1).2 (k - off) c hk
                  exact ⟨u, hu, AR_ext ext c u hau, hone u (List.mem_of_getElem? hu)⟩
                · rw [if_neg (by omega)] at hk
                  rw [if_neg (by omega)]
                  obtain ⟨u, hu, hau, ho⟩ := hcs k c hk
                  rw [cellAt_eq hC] at hu
                  exact ⟨u, hu, AR_ext ext c u hau, ho⟩)
            rw [upd_self] at s2
            exact ⟨ρ1, _, I, h1, s1.trans s2⟩
          · cases he
        | vec cs esz g =>
          simp only [] at he
          split at he
          · rename_i hle
            cases he
            obtain ⟨hg, hle⟩ := hle
            subst hg
            simp only [ptOK, hid] at hp
            have hρ := hp.2 trivial
            have hO := r.obj id _ hid
            simp only [OR, hρ] at hO
            obtain ⟨hez, hIb, C, E, fz, hC, hfz, hcs⟩ := hO
            have hblt := (Array.getElem?_eq_some_iff.1 hC).1
            have hcsz : cs.length ≤ C.size := by
              rcases Nat.eq_zero_or_pos cs.length with h0 | h0
              · omega
              · obtain ⟨v0, hv0, _⟩ := hcs (cs.length - 1) cs[cs.length - 1] (by simp)
                rw [cellAt_eq hC] at hv0
                have := (Array.getElem?_eq_some_iff.1 hv0).1
                omega
            obtain ⟨C', h2, h3, h4⟩ := run_storeAt (P := P) (o := off) hi hvl hC hfz (by omega) hone
            obtain ⟨f1, f2, f3, f4⟩ := putBlk_facts (w := w) (b := b) (o := .cells C' E fz)
            have hset : (h.set id (.vec (setRun cs off (cellsA x)) esz g))[id]? = some (.vec (setRun cs off (cellsA x)) esz g) := by simp [hlt]
            have hsl := setRun_length cs off (cellsA x) (by omega)
            have s2 := step_obj (o' := .vec (setRun cs off (cellsA x)) esz g) (w' := putBlk w b (.cells C' E fz)) (I' := I) r hid trivial (ρ id) f1 f2 f3 (by rw [f4]; exact Nat.le_refl _)
              (fun k _ hne => putBlk_other (fun e => hne (by rw [hρ, e]))) (fun _ hb => hb) (fun _ hb => .inl hb) (fun _ hb => .inl hb)
              (fun _ gen off len a cap hs => by
                simp only [slOK, hid] at hs
                simp only [slOK, hset, upd_self]
                refine ⟨hs.1, fun hg => ⟨(hs.2 hg).1, ?_⟩⟩
                have h5 := (hs.2 hg).2
                rw [hρ] at h5 ⊢
                rcases h5 with h5 | ⟨h5, h6, C2, E2, fz2, h7, h8⟩
                · exact .inl h5
                · refine .inr ⟨h5, by rw [hsl]; exact h6, C', E, fz, putBlk_get hblt, ?_⟩
                  rw [hC] at h7; cases h7
                  rw [h3]; exact h8)
              (fun _ gen b2 hs => by
                simp only [ptOK, hid] at hs
                simp only [ptOK, hset, upd_self]; exact hs)
              (fun ext => by
                simp only [OR, hρ, upd_same]
                rw [hρ] at ext
                refine ⟨hez, hIb, C', E, fz, putBlk_get hblt, fun j hj => hfz j (by omega), fun k c hk => ?_⟩
                rw [setRun_get _ _ _ (by omega)] at hk
                rw [cellAt_put hblt, h4 k]
                by_cases hin : off ≤ k ∧ k < off + P.cellsOf t
                · rw [if_pos (by omega)] at hk
                  rw [if_pos (by omega)]
                  obtain ⟨u, hu, hau⟩ := ((ARv_iff _ _).1 hcv).2 (k - off) c hk
                  exact ⟨u, hu, AR_ext ext c u hau, hone u (List.mem_of_getElem? hu)⟩
                · rw [if_neg (by omega)] at hk
                  rw [if_neg (by omega)]
                  obtain ⟨u, hu, hau, ho⟩ := hcs k c hk
                  rw [cellAt_eq hC] at hu
                  exact ⟨u, hu, AR_ext ext c u hau, ho⟩)
            rw [upd_self] at s2
            exact ⟨ρ, _, I, h2, s2⟩
          · cases he
        | arr cs0 esz0 g0 =>
          simp only [] at he
          split at he
          · rename_i ds h1 hfr
            split at he
            · rename_i cs esz g hid1
              split at he
              · rename_i hle
                cases he
                obtain ⟨hg, hle⟩ := hle
                subst hg
                obtain ⟨I1, s1, hds⟩ := frzL_ok hfr r hcv
                have hp1 := s1.ext.pt _ _ _ hp
                simp only [ptOK, hid1] at hp1
                have hρ := hp1.2 trivial
                have hO := s1.rel.obj id _ hid1
                simp only [OR, hρ] at hO
                obtain ⟨hez, hIb, C, E, fz, hC, hfz, hcs⟩ := hO
                have hblt := (Array.getElem?_eq_some_iff.1 hC).1
                have hcsz : cs.length ≤ C.size := by
                  rcases Nat.eq_zero_or_pos cs.length with h0 | h0
                  · omega
                  · obtain ⟨v0, hv0, _⟩ := (DRs_iff _ _ _).1 hcs (cs.length - 1) cs[cs.length - 1] (by simp)
                    rw [cellAt_eq hC] at hv0
                    have := (Array.getElem?_eq_some_iff.1 hv0).1
                    omega
                obtain ⟨C', h2, h3, h4⟩ := run_storeAt (P := P) (o := off) hi hvl hC hfz (by omega) hone
                have hl1 : ds.length = P.cellsOf t := by rw [((DRv_iff _ _).1 hds).1, hvl]
                obtain ⟨f1, f2, f3, f4⟩ := putBlk_facts (w := w) (b := b) (o := .cells C' E fz)
                have hlt1 := (List.getElem?_eq_some_iff.1 hid1).1
                have hset : (h1.set id (.arr (setRun cs off ds) esz g))[id]? = some (.arr (setRun cs off ds) esz g) := by simp [hlt1]
                have hsl := setRun_length cs off ds (by omega)
                have s2 := step_obj (o' := .arr (setRun cs off ds) esz g) (w' := putBlk w b (.cells C' E fz)) (I' := I1) s1.rel hid1 trivial (ρ id) f1 f2 f3 (by rw [f4]; exact Nat.le_refl _)
                  (fun k _ hne => putBlk_other (fun e => hne (by rw [hρ, e]))) (fun _ hb => hb) (fun _ hb => .inl hb) (fun _ hb => .inl hb)
                  (fun _ gen off len a cap hs => by
                    simp only [slOK, hid1] at hs
                    simp only [slOK, hset, upd_self]
                    refine ⟨hs.1, fun hg => ⟨(hs.2 hg).1, ?_⟩⟩
                    have h5 := (hs.2 hg).2
                    rw [hρ] at h5 ⊢
                    rcases h5 with h5 | ⟨h5, h6, C2, E2, fz2, h7, h8⟩
                    · exact .inl h5
                    · refine .inr ⟨h5, by rw [hsl]; exact h6, C', E, fz, putBlk_get hblt, ?_⟩
                      rw [hC] at h7; cases h7
                      rw [h3]; exact h8)
                  (fun _ gen b2 hs => by
                    simp only [ptOK, hid1] at hs
                    simp only [ptOK, hset, upd_self]; exact hs)
                  (fun ext => by
                    simp only [OR, hρ, upd_same]
                    refine ⟨hez, hIb, C', E, fz, putBlk_get hblt, fun j hj => hfz j (by omega), ?_⟩
                    rw [DRs_iff]
                    intro k c hk
                    rw [setRun_get _ _ _ (by omega)] at hk
                    rw [cellAt_put hblt, Nat.zero_add, h4 k]
                    by_cases hin : off ≤ k ∧ k < off + P.cellsOf t
                    · rw [if_pos (by omega)] at hk
                      rw [if_pos (by omega)]
                      obtain ⟨u, hu, hau⟩ := ((DRv_iff _ _).1 hds).2 (k - off) c hk
                      exact ⟨u, hu, DR_mono ext.imm c u hau, hone u (List.mem_of_getElem? hu)⟩
                    · rw [if_neg (by omega)] at hk
                      rw [if_neg (by omega)]
                      obtain ⟨u, hu, hau, ho⟩ := (DRs_iff _ _ _).1 hcs k c hk
                      rw [cellAt_eq hC, Nat.zero_add] at hu
                      exact ⟨u, hu, DR_mono ext.imm c u hau, ho⟩)
                rw [upd_self] at s2
                exact ⟨ρ, _, I1, h2, s1.trans s2⟩
              · cases he
            · cases he
          · cases he
    · cases he
  · cases he

/-! ### new variables -/

theorem unfrozen_zero (C : Array Value) : Unfrozen C (0, 0) := fun j _ h => by omega

theorem cellAt_push {C : Array Value} {E : TypeId} {fz : Nat × Nat} (k : Nat) : cellAt { w with heap := w.heap.push (.cells C E fz) } w.heap.size k = C[k]? := by
  simp [cellAt]

theorem new_ok {t : TypeId} {a x : A} {v : Value} {h' : H} (he : aNew h x = some (a, h')) (r : Rel h ρ w I) (hx : AR h ρ w I x v) :
    ∃ ρ' w', (newVar t v).run P w = .ok ⟨w.heap.size, 0, none⟩ w' ∧ Step h ρ w I h' ρ' w' I ∧ AR h' ρ' w' I a (.pointer (some ⟨w.heap.size, 0, none⟩)) := by
  unfold aNew at he
  split at he
  · rename_i hok
    cases he
    obtain ⟨hcv, hone⟩ := cells_ok hx hok
    obtain ⟨ρ1, s1, hcv1, hkeep⟩ := thaw_ok (cellsA x) r hcv
    have g := Grew.push w (.cells v.cells t (0, 0))
    have s2 := step_push s1.rel g (.box (thawCells h (cellsA x)).1) (some w.heap.size) (fun b hb => by cases hb; exact Nat.le_refl _) (fun ext => by
      simp only [OR, upd_same]
      refine ⟨_, rfl, fun hI => ?_, v.cells, t, (0, 0), by simp, unfrozen_zero _, fun k c hk => ?_⟩
      · have := r.imm _ hI; omega
      · obtain ⟨u, hu, hau⟩ := ((ARv_iff _ _).1 hcv1).2 k c hk
        exact ⟨u, by rw [cellAt_push]; simpa using hu, AR_ext ext c u hau, hone u (List.mem_of_getElem? hu)⟩)
    refine ⟨_, _, rfl, s1.trans s2, ?_⟩
    simp only [AR]
    refine ⟨_, rfl, ?_⟩
    have e : ((thawCells h (cellsA x)).2 ++ [O.box (thawCells h (cellsA x)).1])[(thawCells h (cellsA x)).2.length]? = some (.box (thawCells h (cellsA x)).1) := by simp
    simp only [ptOK, e, upd_same]
    exact ⟨trivial, trivial⟩
  · cases he

end

end Ev
end Go.Proofs.Ytidobgmklcbcpaa
