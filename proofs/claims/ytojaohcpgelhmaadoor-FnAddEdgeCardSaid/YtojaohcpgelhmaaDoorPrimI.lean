/-
  slices.Insert of one edge, as the evaluator answers it.
-/
import Derived.Test.YtojaohcpgelhmaaDoorInsM
set_option linter.unusedSimpArgs false
set_option linter.unusedVariables false
set_option maxRecDepth 1000000
set_option maxHeartbeats 4000000
namespace Go.Proofs.YtojaohcpgelhmaaDoor
namespace Ev
variable {G : Gnd}
open Go.RowKit Go.Lib

theorem ins_get {cs vs : List D} {i n k : Nat} {d : D} (hi : i ≤ n) (hc : n * 3 ≤ cs.length) (hv : 3 ≤ vs.length) (h : (cs.take (i * 3) ++ (vs.take 3 ++ (cs.drop (i * 3)).take ((n - i) * 3)))[k]? = some d) :
    k < (n + 1) * 3 ∧ (if k < i * 3 then cs[k]? else if k < (i + 1) * 3 then vs[k - i * 3]? else cs[k - 3]?) = some d := by
  have hl : (cs.take (i * 3) ++ (vs.take 3 ++ (cs.drop (i * 3)).take ((n - i) * 3))).length = (n + 1) * 3 := by
    simp only [List.length_append, List.length_take, List.length_drop]; omega
  have hk := (List.getElem?_eq_some_iff.1 h).1
  rw [hl] at hk
  refine ⟨hk, ?_⟩
  have h1 : (cs.take (i * 3)).length = i * 3 := by rw [List.length_take]; omega
  have h2 : (vs.take 3).length = 3 := by rw [List.length_take]; omega
  by_cases a : k < i * 3
  · rw [if_pos a]
    rwa [List.getElem?_append_left (by omega), List.getElem?_take, if_pos a] at h
  · rw [if_neg a]
    rw [List.getElem?_append_right (by omega), h1] at h
    by_cases b : k < (i + 1) * 3
    · rw [if_pos b]
      rwa [List.getElem?_append_left (by omega), List.getElem?_take, if_pos (by omega)] at h
    · rw [if_neg b]
      rw [List.getElem?_append_right (by omega), h2, List.getElem?_take, if_pos (by omega), List.getElem?_drop] at h
      rw [← h]; congr 1; omega

theorem insert_Edge : PrimOK G Tryd.prog 48 (gInsert 3) := by
  intro k args h x h' he
  simp only at he
  split at he
  · rename_i hk
    subst hk
    refine ⟨⟨_, Tryd.func48, by kernel_rfl, by kernel_rfl⟩, fun ρ w I vs r ha => ?_⟩
    unfold gInsert at he
    split at he
    · rename_i id gen off len i id2 gen2 off2 len2
      split at he
      · rename_i cs e g ds e2 g2 hid hid2
        split at he
        · rename_i hc
          obtain ⟨hne, rfl, rfl, rfl, rfl, rfl, rfl, rfl, hi0, hil, hmx, hcl, hdl⟩ := hc
          cases he
          obtain ⟨v1, rest1, rfl, hx, hr1⟩ := ar_cons ha
          obtain ⟨v2, rest2, rfl, hv2, hr2⟩ := ar_cons hr1
          obtain ⟨v3, rest3, rfl, hx3, hr3⟩ := ar_cons hr2
          simp only [ARv] at hr3
          subst hr3
          simp only [AR, DR] at hv2
          subst hv2
          obtain ⟨i, rfl⟩ := Int.eq_ofNat_of_zero_le hi0
          have hil' : i ≤ len := by omega
          simp only [Int.toNat_natCast]
          have hx' := hx
          have hx3' := hx3
          simp only [AR] at hx hx3
          obtain ⟨a, cap, rfl, hs⟩ := hx
          obtain ⟨a2, cap2, rfl, hs2⟩ := hx3
          simp only [slOK, hid] at hs
          simp only [slOK, hid2] at hs2
          obtain ⟨_, hs⟩ := hs
          obtain ⟨_, hs2⟩ := hs2
          obtain ⟨hlc, hs⟩ := hs trivial
          obtain ⟨hlc2, hs2⟩ := hs2 trivial
          obtain ⟨vb, hρ2⟩ : ∃ b, ρ id2 = some b := by
            cases hb : ρ id2 with
            | none => rw [hb] at hs2; simp only at hs2; omega
            | some b => exact ⟨b, rfl⟩
          rw [hρ2] at hs2
          simp only at hs2
          obtain ⟨rfl, _, CV, EV, fzV, hbv, hCV⟩ := hs2.resolve_left (by omega)
          have hO2 := r.obj id2 _ hid2
          simp only [OR, hρ2] at hO2
          obtain ⟨_, hIv, CV2, EV2, fzV2, hbv2, hunv, hdrv⟩ := hO2
          rw [hbv] at hbv2
          cases hbv2
          by_cases hend : i = len
          · -- at the end: an append
            subst hend
            have hel : elemT Tryd.prog 23 = some 38 := by kernel_rfl
            have hok : elemOk Tryd.prog 38 = true := by kernel_rfl
            have hce : Tryd.prog.cellsOf 38 = 3 := by kernel_rfl
            have hap : aAppend0 Tryd.prog h 23 (.sl id g 0 i) (.sl id2 g2 0 1) = some (.sl id (g + 1) 0 (i + 1), h.set id (.arr (cs.take (i * 3) ++ ds.take 3) 3 (g + 1))) := by
              have hscx : sliceCells h 3 (.sl id2 g2 0 1) = some (1, ds.take 3) := by
                simp only [sliceCells, hid2]
                rw [if_pos ⟨trivial, .inr trivial, by omega⟩]
                simp
              simp only [aAppend0, hel, hok, hce, hscx, hid, if_true]
              rw [if_pos ⟨trivial, .inr trivial, trivial, hcl, hmx⟩]
            have hu := Tryd.underlying23
            obtain ⟨v, ρ', w', hrun, st, ar⟩ := append0_ok (P := Tryd.prog) (ty := 23) hu (fun k hk => by cases hk) hap r hx' hx3'
            have e1 : cs.take (i * 3) ++ (ds.take 3 ++ (cs.drop (i * 3)).take ((i - i) * 3)) = cs.take (i * 3) ++ ds.take 3 := by simp
            rw [e1]
            have AR' : Aside (AR (h.set id (.arr (cs.take (i * 3) ++ ds.take 3) 3 (g + 1))) ρ' w' I (.sl id (g + 1) 0 (i + 1)) v) := ar
            have ST' : Aside (Step G h ρ w I (h.set id (.arr (cs.take (i * 3) ++ ds.take 3) 3 (g + 1))) ρ' w' I) := st
            have hnil : a = none → cap = 0 := by
              intro h0
              cases hb : ρ id with
              | none => rw [hb] at hs; simpa using hs
              | some b =>
                rw [hb] at hs; simp only at hs
                rcases hs with hs | hs
                · exact hs
                · rw [h0] at hs; cases hs.1
            clear ar st hx' hx3' ha hr1 hr2 hs hs2 hdrv hunv
            cases a with
            | none =>
              have h0 := hnil rfl
              subst h0
              have h1 : i = 0 := by omega
              subst h1
              clear hnil
              go_enter Tryd.func48, Tryd.ntmps48
              go_wp2_with (at_builtin; refine wpList_append_run rfl _ _ 23 rfl rfl rfl hrun ?_)
              all_goals (go_ret; exact ⟨v, rfl, ρ', I, ST'.out, AR'.out⟩)
            | some a =>
              obtain ⟨ab, ao, asp⟩ := a
              clear hnil
              go_enter Tryd.func48, Tryd.ntmps48
              go_wp2_with (at_builtin; refine wpList_append_run rfl _ _ 23 rfl rfl rfl hrun ?_)
              all_goals (go_ret; exact ⟨v, rfl, ρ', I, ST'.out, AR'.out⟩)
          · have hlt : i < len := by omega
            obtain ⟨b, hρ⟩ : ∃ b, ρ id = some b := by
              cases hb : ρ id with
              | none => rw [hb] at hs; simp only at hs; omega
              | some b => exact ⟨b, rfl⟩
            rw [hρ] at hs
            simp only at hs
            obtain ⟨rfl, _, C, E, fz, hbk, hC⟩ := hs.resolve_left (by omega)
            have hO := r.obj id _ hid
            simp only [OR, hρ] at hO
            obtain ⟨_, hIb, C2, E2, fz2, hbk2, hun, hdr⟩ := hO
            rw [hbk] at hbk2
            cases hbk2
            simp only [Nat.zero_add] at hC hCV
            rw [DRs_iff] at hdr hdrv
            have hcell := cellAt_eq hbk
            have hcellv := cellAt_eq hbv
            have hvb : vb ≠ b := fun e => hne (r.inj id id2 b _ _ hρ (by rw [hρ2, e]) hid hid2 trivial trivial)
            have hone : ∀ k v, k < len * 3 → C[k]? = some v → v.oneCell' = true := fun k v hk hv => by
              obtain ⟨u, hu, _, h1⟩ := hdr k _ (List.getElem?_eq_getElem (by omega))
              rw [Nat.zero_add, hcell, hv] at hu
              cases hu; exact h1
            have honeV : ∀ k v, k < 3 → CV[k]? = some v → v.oneCell' = true := fun k v hk hv => by
              obtain ⟨u, hu, _, h1⟩ := hdrv k _ (List.getElem?_eq_getElem (by omega))
              rw [Nat.zero_add, hcellv, hv] at hu
              cases hu; exact h1
            have hblt : b < w.heap.size := (Array.getElem?_eq_some_iff.1 hbk).1
            have hrel : ∀ (k : Nat) (d : D), (cs.take (i * 3) ++ (ds.take 3 ++ (cs.drop (i * 3)).take ((len - i) * 3)))[k]? = some d → k < (len + 1) * 3 ∧ ∃ v, (if k < i * 3 then C[k]? else if k < (i + 1) * 3 then CV[k - i * 3]? else C[k - 3]?) = some v ∧ DR w I d v ∧ v.oneCell' = true := by
              intro k d hk
              obtain ⟨hkl, hg⟩ := ins_get hil' hcl hdl hk
              refine ⟨hkl, ?_⟩
              by_cases a : k < i * 3
              · rw [if_pos a] at hg ⊢
                obtain ⟨v, hv, hd, h1⟩ := hdr k d hg
                rw [Nat.zero_add, hcell] at hv
                exact ⟨v, hv, hd, h1⟩
              · rw [if_neg a] at hg ⊢
                by_cases b : k < (i + 1) * 3
                · rw [if_pos b] at hg ⊢
                  obtain ⟨v, hv, hd, h1⟩ := hdrv _ d hg
                  rw [Nat.zero_add, hcellv] at hv
                  exact ⟨v, hv, hd, h1⟩
                · rw [if_neg b] at hg ⊢
                  obtain ⟨v, hv, hd, h1⟩ := hdr _ d hg
                  rw [Nat.zero_add, hcell] at hv
                  exact ⟨v, hv, hd, h1⟩
            have hnl : (cs.take (i * 3) ++ (ds.take 3 ++ (cs.drop (i * 3)).take ((len - i) * 3))).length = (len + 1) * 3 := by
              simp only [List.length_append, List.length_take, List.length_drop]; omega
            generalize hnd : cs.take (i * 3) ++ (ds.take 3 ++ (cs.drop (i * 3)).take ((len - i) * 3)) = nd at hrel hnl
            have at_id : (h.set id (.arr nd 3 (g + 1)))[id]? = some (.arr nd 3 (g + 1)) := by
              have := (List.getElem?_eq_some_iff.1 hid).1
              simp [this]
            have hslk : ∀ (rb : Option Nat) (w' : World) (I' : Nat → Prop) gen' off' len' a' cap', slOK h ρ w I id gen' off' len' a' cap' → slOK (h.set id (.arr nd 3 (g + 1))) (upd ρ id rb) w' I' id gen' off' len' a' cap' := by
              intro rb w' I' gen' off' len' a' cap' hs2
              simp only [slOK, hid] at hs2
              simp only [slOK, at_id]
              exact ⟨by omega, fun he => by omega⟩
            have hptk : ∀ (rb : Option Nat) (w' : World) (I' : Nat → Prop) gen' b', ptOK h ρ w I id gen' b' → ptOK (h.set id (.arr nd 3 (g + 1))) (upd ρ id rb) w' I' id gen' b' := by
              intro rb w' I' gen' b' hs2
              simp only [ptOK, hid] at hs2
              simp only [ptOK, at_id]
              exact ⟨by omega, fun he => by omega⟩
            by_cases hroom : len + 1 ≤ cap
            · refine (insert_shift b len cap i vb cap2 C CV E EV fz fzV w hbk hbv hun.1 hunv hvb hlt hroom hC hmx (by omega) hone honeV).mono ?_
              rintro e w' ⟨rfl, C', hs', hg', rfl⟩
              have hnew : (putBlk w.drew b (.cells C' E fz)).heap[b]? = some (.cells C' E fz) := putBlk_get (w := w.drew) hblt
              have st := step_obj (w' := putBlk w.drew b (.cells C' E fz)) (I' := I) (o' := .arr nd 3 (g + 1)) r hid trivial (some b) rfl rfl rfl
                (by show w.heap.size ≤ (w.heap.setIfInBounds b _).size; simp) (fun k hk hne => putBlk_other (w := w.drew) (fun e => hne (by rw [hρ, e])))
                (fun _ hb => hb) (fun _ hb => .inl hb) (fun b' hb' => .inl (by rw [hρ]; exact hb')) (fun _ => hslk _ _ _) (fun _ => hptk _ _ _) (fun hE => by
                  simp only [OR, upd_same]
                  refine ⟨by omega, hIb, C', E, fz, hnew, hun.keep hs', ?_⟩
                  rw [DRs_iff]
                  intro k d hk
                  obtain ⟨hkl, v, hv, hd, h1⟩ := hrel k d hk
                  exact ⟨v, by rw [Nat.zero_add, cellAt_eq hnew, hg' k hkl, hv], DR_mono hE.imm d v hd, h1⟩)
              refine ⟨_, _, I, rfl, st, ?_⟩
              simp only [AR]
              refine ⟨some ⟨b, 0, none⟩, cap, rfl, ?_⟩
              simp only [slOK, at_id, upd_same]
              exact ⟨Nat.le_refl _, fun _ => ⟨hroom, .inr ⟨trivial, by omega, C', E, fz, hnew, by omega⟩⟩⟩
            · have hcl' : cap = len := by omega
              subst hcl'
              refine (insert_grow b cap i vb cap2 C CV E EV fz fzV w hbk hbv hlt hC hmx (by omega) hone honeV).mono ?_
              rintro e w' ⟨G, C', hG, rfl, hs', hg', rfl⟩
              have gr : Grew w (w.drew.drew.alloc (.cells C' 38)) := (Grew.drew w).trans (Grew.drewAlloc w.drew _)
              have hnew : (w.drew.drew.alloc (.cells C' 38)).heap[w.heap.size]? = some (.cells C' 38 (0, 0)) := drewAlloc_new w.drew _
              have st := step_obj (w' := w.drew.drew.alloc (.cells C' 38)) (I' := I) (o' := .arr nd 3 (g + 1)) r hid trivial (some w.heap.size) gr.os gr.tape gr.output gr.size
                (fun k hk _ => gr.same k hk) (fun _ hb => hb) (fun _ hb => .inl hb) (fun b' hb' => by cases hb'; exact .inr (Nat.le_refl _)) (fun _ => hslk _ _ _) (fun _ => hptk _ _ _) (fun hE => by
                  simp only [OR, upd_same]
                  refine ⟨by omega, fun hI => by have := r.imm _ hI; omega, C', _, (0, 0), hnew, clear_zero _ _, ?_⟩
                  rw [DRs_iff]
                  intro k d hk
                  obtain ⟨hkl, v, hv, hd, h1⟩ := hrel k d hk
                  exact ⟨v, by rw [Nat.zero_add, cellAt_eq hnew, hg' k hkl, hv], DR_mono hE.imm d v hd, h1⟩) gr.drawn
              refine ⟨_, _, I, rfl, st, ?_⟩
              simp only [AR]
              refine ⟨some ⟨w.heap.size, 0, none⟩, G, rfl, ?_⟩
              simp only [slOK, at_id, upd_same]
              exact ⟨Nat.le_refl _, fun _ => ⟨hG, .inr ⟨trivial, by omega, C', _, (0, 0), hnew, by omega⟩⟩⟩
        · cases he
      · cases he
    · cases he
  · cases he

end Ev
end Go.Proofs.YtojaohcpgelhmaaDoor
