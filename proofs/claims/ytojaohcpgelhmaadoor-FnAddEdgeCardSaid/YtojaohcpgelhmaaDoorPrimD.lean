/-
  slices.Delete of edges, as the evaluator answers it.
-/
import Derived.Test.YtojaohcpgelhmaaDoorPrimA
import Derived.Deep.LoopGhost
set_option linter.unusedSimpArgs false
set_option linter.unusedVariables false
set_option maxRecDepth 1000000
set_option maxHeartbeats 4000000
namespace Go.Proofs.YtojaohcpgelhmaaDoor
namespace Ev
variable {G : Gnd}
open Go.RowKit Go.Lib

/-- Cells written over others. -/
def over (C : Array Value) : Nat → List Value → Array Value
  | _, [] => C
  | o, v :: vs => over (C.setIfInBounds o v) (o + 1) vs

theorem over_size : ∀ (vs : List Value) (C : Array Value) (o : Nat), (over C o vs).size = C.size
  | [], _, _ => rfl
  | v :: vs, C, o => by rw [over, over_size vs]; simp

theorem over_get : ∀ (vs : List Value) (C : Array Value) (o k : Nat), o + vs.length ≤ C.size → (over C o vs)[k]? = if o ≤ k ∧ k < o + vs.length then vs[k - o]? else C[k]?
  | [], C, o, k, _ => by simp only [over, List.length_nil]; rw [if_neg (by omega)]
  | v :: vs, C, o, k, h => by
    simp only [List.length_cons] at h ⊢
    rw [over, over_get vs _ (o + 1) k (by simp; omega)]
    by_cases h1 : o + 1 ≤ k ∧ k < o + 1 + vs.length
    · rw [if_pos h1, if_pos (by omega)]
      obtain ⟨m, hm⟩ : ∃ m, k - o = m + 1 := ⟨k - o - 1, by omega⟩
      rw [hm, List.getElem?_cons_succ]
      congr 1; omega
    · rw [if_neg h1]
      by_cases h2 : k = o
      · subst h2
        rw [if_pos (by omega), Nat.sub_self]
        simp [Array.getElem?_setIfInBounds]; omega
      · rw [if_neg (by omega)]
        rw [Array.getElem?_setIfInBounds, if_neg (Ne.symm h2)]

theorem setCells_over {b : Nat} {E : TypeId} {fz : Nat × Nat} : ∀ (vs : List Value) (o : Nat) (w : World) (C : Array Value), w.heap[b]? = some (.cells C E fz) → o + vs.length ≤ C.size → w.setCells b o vs = putBlk w b (.cells (over C o vs) E fz)
  | [], o, w, C, hb, _ => by
    simp only [World.setCells, over, putBlk]
    have : w.heap.setIfInBounds b (Obj.cells C E fz) = w.heap := by
      apply Array.ext_getElem?
      intro j
      rw [Array.getElem?_setIfInBounds]
      split
      · rename_i e; subst e
        split
        · exact hb.symm
        · rename_i h; rw [Array.getElem?_eq_none (by omega)]
      · rfl
    rw [this]
  | v :: vs, o, w, C, hb, hl => by
    simp only [List.length_cons] at hl
    have hlt : b < w.heap.size := (Array.getElem?_eq_some_iff.1 hb).1
    rw [World.setCells, setCell_put hb v, setCells_over vs (o + 1) _ _ (putBlk_get hlt) (by simp; omega), putBlk_put, over]

theorem run_clear_cells {P : Program} (w : World) (t e ty : TypeId) (z : Value) (ht : P.underlying t = some (.slice e)) (hv : ∀ w, (zeroValue e).run P w = .ok z w) (b o n c : Nat) (hn : 0 < n)
    (h1 : ∀ u ∈ (Builtin.zeroCells z.cells n).toList, u.oneCell' = true)
    (hc : ∀ j, j < (Builtin.zeroCells z.cells n).toList.length → (w.cell? ⟨b, o + j, none⟩).isSome = true) (hf : ∀ j, j < (Builtin.zeroCells z.cells n).toList.length → w.frozen? ⟨b, o + j, none⟩ = false) :
    (Builtin.clear_ #[t] ty #[.slice (some ⟨b, o, none⟩) n c]).run P w = .ok (.tuple #[]) (w.setCells b o (Builtin.zeroCells z.cells n).toList) := by
  have hst := run_storeCells_cells (P := P) b o (Builtin.zeroCells z.cells n).toList 0 w (by simpa using hc) (by simpa using hf) h1
  simp only [Nat.add_zero] at hst
  obtain ⟨m, rfl⟩ : ∃ m, n = m + 1 := ⟨n - 1, by omega⟩
  simp [Builtin.clear_, run_underlying ht, hv, hst]

theorem delete_run (b len cap i j : Nat) (C : Array Value) (E : TypeId) (fz : Nat × Nat) (w : World) (hb : w.heap[b]? = some (.cells C E fz)) (hu : Unfrozen C fz) (hC : cap * 3 ≤ C.size) (hlen : len ≤ cap) (hm : len ≤ 4294967296) (hij : i < j) (hj : j ≤ len) (hone : ∀ k v, k < len * 3 → C[k]? = some v → v.oneCell' = true) :
    Calls Tryd.prog 52 #[.slice (some ⟨b, 0, none⟩) len cap, .int .i64 i, .int .i64 j] w fun e w' => e = .returned (.slice (some ⟨b, 0, none⟩) (i + (len - j)) cap) ∧ ∃ C', C'.size = C.size ∧ (∀ k, k < (i + (len - j)) * 3 → C'[k]? = if k < i * 3 then C[k]? else C[j * 3 + (k - i * 3)]?) ∧ w' = putBlk w.drew b (.cells C' E fz) := by
  have hlt : b < w.heap.size := (Array.getElem?_eq_some_iff.1 hb).1
  obtain ⟨news, hnews⟩ : ∃ news, news = (C.toList.drop (j * 3)).take ((len - j) * 3) := ⟨_, rfl⟩
  have hnl : news.length = (len - j) * 3 := by rw [hnews, List.length_take, List.length_drop, Array.length_toList]; omega
  have hng : ∀ t, t < (len - j) * 3 → news[t]? = C[j * 3 + t]? := by
    intro t ht
    rw [hnews, List.getElem?_take, if_pos ht, List.getElem?_drop, Array.getElem?_toList]
  have hcell : ∀ (w1 : World) (C1 : Array Value) (k : Nat), w1.heap[b]? = some (.cells C1 E fz) → w1.cell? ⟨b, k, none⟩ = C1[k]? := fun w1 C1 k h1 => by rw [cell?_eq, cellAt_eq h1]
  have hfro : ∀ (w1 : World) (C1 : Array Value) (k : Nat), w1.heap[b]? = some (.cells C1 E fz) → C1.size = C.size → k < C.size → w1.frozen? ⟨b, k, none⟩ = false := by
    intro w1 C1 k h1 hs hk
    have h2 := hu k hk
    simp only [World.frozen?, h1]
    by_cases h3 : fz.1 ≤ k <;> by_cases h4 : k < fz.2 <;> simp [h3, h4]
    exact h2 ⟨h3, h4⟩
  have hbd : w.drew.heap[b]? = some (.cells C E fz) := hb
  obtain ⟨A, hA, hsrc⟩ : ∃ A : Addr, (if cap = j then some (⟨b, 0, none⟩ : Addr) else some ⟨b, j * 3, none⟩) = some A ∧ Hid (∀ t u, news[t]? = some u → w.drew.cell? (A.add t) = some u) := by
    by_cases h : cap = j
    · refine ⟨⟨b, 0, none⟩, by simp [h], fun t u hu => ?_⟩
      have h0 : news.length = 0 := by rw [hnl]; omega
      rw [List.length_eq_zero_iff.1 h0] at hu
      simp at hu
    · refine ⟨⟨b, j * 3, none⟩, by simp [h], fun t u hu => ?_⟩
      have ht : t < (len - j) * 3 := by
        have := (List.getElem?_eq_some_iff.1 hu).1
        rwa [hnl] at this
      rw [Addr.add_lit, hcell _ _ _ hbd, ← hng t ht]; exact hu
  have s1 : Hid (news.length = (len - j) * 3) := hnl
  have s2 : Hid (∀ u ∈ news, u.oneCell' = true) := by
    intro u hmem
    obtain ⟨t, ht⟩ := List.getElem?_of_mem hmem
    have htl : t < (len - j) * 3 := by
      have := (List.getElem?_eq_some_iff.1 ht).1
      rwa [hnl] at this
    rw [hng t htl] at ht
    exact hone _ u (by omega) ht
  have s3 : Hid (∀ t, t < news.length → (w.drew.cell? ⟨b, 0 + i * 3 + t, none⟩).isSome = true ∧ w.drew.frozen? ⟨b, 0 + i * 3 + t, none⟩ = false) := by
    intro t ht
    rw [hnl] at ht
    refine ⟨?_, hfro _ _ _ hbd rfl (by omega)⟩
    rw [hcell _ _ _ hbd, Array.getElem?_eq_getElem (by omega)]; rfl
  obtain ⟨W1, hW1⟩ : ∃ W1, W1 = w.drew.setCells b (0 + i * 3) news := ⟨_, rfl⟩
  have hW1' : W1 = putBlk w.drew b (.cells (over C (0 + i * 3) news) E fz) := by rw [hW1]; exact setCells_over news _ _ C hbd (by rw [hnl]; omega)
  have hb1 : W1.heap[b]? = some (.cells (over C (0 + i * 3) news) E fz) := by rw [hW1']; exact putBlk_get (w := w.drew) hlt
  obtain ⟨z, hz⟩ : ∃ z : Value, z = .agg #[.int .i64 0, .int .i64 0, .int .i64 0] := ⟨_, rfl⟩
  have hzv : ∀ w, (zeroValue 38).run Tryd.prog w = .ok z w := by rw [hz]; exact Tryd.zeroValue38
  have hzl : (Builtin.zeroCells z.cells (len - (i + (len - j)))).toList.length = (len - (i + (len - j))) * 3 := by rw [zeroCells_toList, hz]; simp [Value.cells]
  have hz1 : ∀ u ∈ (Builtin.zeroCells z.cells (len - (i + (len - j)))).toList, u.oneCell' = true := by
    intro u hmem
    rw [zeroCells_toList, hz] at hmem
    simp only [List.mem_flatten, List.mem_replicate] at hmem
    obtain ⟨l, ⟨_, rfl⟩, hmem⟩ := hmem
    simp [Value.cells] at hmem
    rw [hmem]; rfl
  obtain ⟨zs, hzs⟩ : ∃ zs, zs = (Builtin.zeroCells z.cells (len - (i + (len - j)))).toList := ⟨_, rfl⟩
  rw [← hzs] at hzl hz1
  have hcl : ∀ ty, (Builtin.clear_ #[23] ty #[.slice (some ⟨b, (i + (len - j)) * 3, none⟩) (len - (i + (len - j))) (cap - (i + (len - j)))]).run Tryd.prog W1 = .ok (.tuple #[]) (W1.setCells b ((i + (len - j)) * 3) zs) := fun ty => by
    rw [hzs]
    refine run_clear_cells W1 _ _ ty z Tryd.underlying23 hzv b _ _ _ (by omega) ?_ ?_ ?_
    · rw [← hzs]; exact hz1
    · rw [← hzs, hzl]; intro t ht; rw [hcell _ _ _ hb1, Array.getElem?_eq_getElem (by rw [over_size]; omega)]; rfl
    · rw [← hzs, hzl]; intro t ht; exact hfro _ _ _ hb1 (over_size _ _ _) (by omega)
  have hfin : ∃ C', C'.size = C.size ∧ (∀ k, k < (i + (len - j)) * 3 → C'[k]? = if k < i * 3 then C[k]? else C[j * 3 + (k - i * 3)]?) ∧ W1.setCells b ((i + (len - j)) * 3) zs = putBlk w.drew b (.cells C' E fz) := by
    refine ⟨over (over C (0 + i * 3) news) ((i + (len - j)) * 3) zs, by rw [over_size, over_size], fun k hk => ?_, ?_⟩
    · rw [over_get _ _ _ _ (by rw [over_size, hzl]; omega), if_neg (by omega), over_get _ _ _ _ (by rw [hnl]; omega), hnl]
      by_cases h1 : k < i * 3
      · rw [if_neg (by omega), if_pos h1]
      · rw [if_pos (by omega), if_neg h1, hng _ (by omega)]
        congr 1; omega
    · rw [setCells_over zs _ W1 _ hb1 (by rw [over_size, hzl]; omega), hW1', putBlk_put]
  have hce : Tryd.prog.cellsOf 38 = 3 := by kernel_rfl
  obtain ⟨i0, hi0⟩ := info_of_pos (P := Tryd.prog) (e := 38) (by rw [hce]; omega)
  have hi1 : i0.size = 3 := by rw [← hce]; simp [Program.cellsOf, hi0]
  clear hce
  have hW : Hid (W1 = w.drew.setCells b (0 + i * 3) news) := hW1
  have hic : i ≤ cap := by omega
  have hjc : j ≤ cap := by omega
  have t22 := Tryd.underlying23
  obtain ⟨C', k1, k2, k3⟩ := hfin
  have K3 : Aside (W1.setCells b ((i + (len - j)) * 3) zs = putBlk w.drew b (.cells C' E fz)) := k3
  have K2 : Aside (∀ k, k < (i + (len - j)) * 3 → C'[k]? = if k < i * 3 then C[k]? else C[j * 3 + (k - i * 3)]?) := k2
  clear hW1 hW1' hb1 hb hbd hng hnews hcell hfro hone hzs hz hzv k2 k3 hu
  go_enter Tryd.func52, Tryd.ntmps52
  go_wp2_with fail
  go_region_law (refine step_append_room rfl (.tmp 22) (.tmp 25) 23 rfl 38 i0 3 t22 hi0 hi1 b 0 i cap (by simp [Act.eval, Act.put]) A (len - j) (cap - j) news (by simp [Act.eval, Act.put]) s1.out hsrc.out s2.out (by omega) s3.out ?_; rw [← hW.out])
  go_wp2
  go_ret
  exact ⟨rfl, C', k1, K2.out, K3.out⟩

theorem delete_Edge : PrimOK G Tryd.prog 52 (gDelete 3) := by
  intro k args h x h' he
  simp only at he
  split at he
  · rename_i hk
    subst hk
    refine ⟨⟨_, Tryd.func52, by kernel_rfl, by kernel_rfl⟩, fun ρ w I vs r ha => ?_⟩
    unfold gDelete at he
    split at he
    · rename_i id gen off len i j
      split at he
      · rename_i cs e g hid
        split at he
        · rename_i hc
          obtain ⟨rfl, rfl, rfl, hi0, hij, hjl, hmx, hcl⟩ := hc
          cases he
          obtain ⟨v1, rest1, rfl, hx, hr1⟩ := ar_cons ha
          obtain ⟨v2, rest2, rfl, hv2, hr2⟩ := ar_cons hr1
          obtain ⟨v3, rest3, rfl, hv3, hr3⟩ := ar_cons hr2
          simp only [ARv] at hr3
          subst hr3
          simp only [AR, DR] at hv2 hv3
          subst hv2; subst hv3
          simp only [AR] at hx
          obtain ⟨a, cap, rfl, hs⟩ := hx
          simp only [slOK, hid] at hs
          obtain ⟨_, hs⟩ := hs
          obtain ⟨hlc, hs⟩ := hs trivial
          obtain ⟨b, hρ⟩ : ∃ b, ρ id = some b := by
            cases hb : ρ id with
            | none => rw [hb] at hs; simp only at hs; omega
            | some b => exact ⟨b, rfl⟩
          rw [hρ] at hs
          simp only at hs
          have hcap0 : cap ≠ 0 := by omega
          obtain ⟨rfl, _, C, E, fz, hbk, hC⟩ := hs.resolve_left hcap0
          have hO := r.obj id _ hid
          simp only [OR, hρ] at hO
          obtain ⟨_, hIb, C2, E2, fz2, hbk2, hun, hdr⟩ := hO
          rw [hbk] at hbk2
          cases hbk2
          simp only [Nat.zero_add] at hC
          rw [DRs_iff] at hdr
          have hcell := cellAt_eq hbk
          have hcsC : cs.length ≤ C.size := by
            rcases Nat.lt_or_ge C.size cs.length with hlt | hge
            · obtain ⟨v, hv, _⟩ := hdr C.size _ (List.getElem?_eq_getElem hlt)
              rw [Nat.zero_add, hcell] at hv
              simp at hv
            · exact hge
          have hone : ∀ k v, k < len * 3 → C[k]? = some v → v.oneCell' = true := fun k v hk hv => by
            obtain ⟨u, hu, _, h1⟩ := hdr k _ (List.getElem?_eq_getElem (by omega))
            rw [Nat.zero_add, hcell, hv] at hu
            cases hu; exact h1
          have hlt : b < w.heap.size := (Array.getElem?_eq_some_iff.1 hbk).1
          obtain ⟨i, rfl⟩ := Int.eq_ofNat_of_zero_le hi0
          obtain ⟨j, rfl⟩ := Int.eq_ofNat_of_zero_le (by omega : 0 ≤ j)
          have hij' : i < j := by omega
          have hjl' : j ≤ len := by omega
          refine (delete_run b len cap i j C E fz w hbk hun.1 hC hlc hmx hij' hjl' hone).mono ?_
          rintro e w' ⟨rfl, C', hs', hg', rfl⟩
          have hcs'len : (cs.take (i * 3) ++ (cs.drop (j * 3)).take ((len - j) * 3)).length = (i + (len - j)) * 3 := by
            simp only [List.length_append, List.length_take, List.length_drop]; omega
          have hcs' : ∀ (k : Nat) (d : D), (cs.take (i * 3) ++ (cs.drop (j * 3)).take ((len - j) * 3))[k]? = some d → ∃ m : Nat, cs[m]? = some d ∧ C'[k]? = C[m]? := by
            intro k d hk
            have hkl := (List.getElem?_eq_some_iff.1 hk).1
            rw [hcs'len] at hkl
            have hti : (cs.take (i * 3)).length = i * 3 := by rw [List.length_take]; omega
            by_cases hki : k < i * 3
            · rw [List.getElem?_append_left (by omega), List.getElem?_take, if_pos hki] at hk
              exact ⟨k, hk, by rw [hg' k hkl, if_pos hki]⟩
            · rw [List.getElem?_append_right (by omega), hti, List.getElem?_take, if_pos (by omega), List.getElem?_drop] at hk
              exact ⟨_, hk, by rw [hg' k hkl, if_neg hki]⟩
          have hlt' : b < w.drew.heap.size := hlt
          have hnew : (putBlk w.drew b (.cells C' E fz)).heap[b]? = some (.cells C' E fz) := putBlk_get hlt'
          have at_id : (h.set id (.arr (cs.take (i * 3) ++ (cs.drop (j * 3)).take ((len - j) * 3)) 3 (g + 1)))[id]? = some (.arr (cs.take (i * 3) ++ (cs.drop (j * 3)).take ((len - j) * 3)) 3 (g + 1)) := by
            have := (List.getElem?_eq_some_iff.1 hid).1
            simp [this]
          have st := step_obj (w' := putBlk w.drew b (.cells C' E fz)) (I' := I) (o' := .arr (cs.take (i * 3) ++ (cs.drop (j * 3)).take ((len - j) * 3)) 3 (g + 1)) r hid trivial (some b) rfl rfl rfl
            (by show w.heap.size ≤ (w.heap.setIfInBounds b _).size; simp) (fun k hk hne => putBlk_other (w := w.drew) (fun e => hne (by rw [hρ, e])))
            (fun _ hb => hb) (fun _ hb => .inl hb) (fun b' hb' => .inl (by rw [hρ]; exact hb')) (fun _ gen' off' len' a' cap' hs2 => ?_) (fun _ gen' b' hs2 => ?_) (fun hE => ?_)
          · refine ⟨_, _, I, rfl, st, ?_⟩
            simp only [AR]
            refine ⟨some ⟨b, 0, none⟩, cap, ?_, ?_⟩
            · simp only [Int.toNat_natCast]
              have : len - (j - i) = i + (len - j) := by omega
              rw [this]
            · simp only [Int.toNat_natCast, slOK, at_id, upd_same]
              refine ⟨Nat.le_refl _, fun _ => ⟨by omega, .inr ⟨trivial, by rw [hcs'len]; omega, C', E, fz, hnew, by rw [hs']; omega⟩⟩⟩
          · simp only [slOK, hid] at hs2
            simp only [slOK, at_id]
            exact ⟨by omega, fun he => by omega⟩
          · simp only [ptOK, hid] at hs2
            simp only [ptOK, at_id]
            exact ⟨by omega, fun he => by omega⟩
          · simp only [OR, upd_same]
            refine ⟨by omega, hIb, C', E, fz, hnew, hun.keep (by omega), ?_⟩
            rw [DRs_iff]
            intro k d hk
            obtain ⟨m, hm, hC'⟩ := hcs' k d hk
            obtain ⟨v, hv, hd, h1⟩ := hdr m d hm
            rw [Nat.zero_add, hcell] at hv
            refine ⟨v, ?_, DR_mono hE.imm d v hd, h1⟩
            rw [Nat.zero_add, cellAt_eq hnew, hC', hv]
        · cases he
      · cases he
    · cases he
  · cases he

end Ev
end Go.Proofs.YtojaohcpgelhmaaDoor
