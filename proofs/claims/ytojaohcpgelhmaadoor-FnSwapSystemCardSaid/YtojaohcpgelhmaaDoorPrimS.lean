/-
  slices.SortFunc of edges, as the evaluator answers it.
-/
import Derived.Test.YtojaohcpgelhmaaDoorSortLay
import Derived.Test.YtojaohcpgelhmaaDoorPrimD
set_option linter.unusedSimpArgs false
set_option linter.unusedVariables false
set_option maxRecDepth 1000000
set_option maxHeartbeats 4000000
namespace Go.Proofs.YtojaohcpgelhmaaDoor
namespace Ev
variable {G : Gnd}
open Go.RowKit Go.Lib Go.Sort

/-! ### comparing, at the machine -/

theorem cmp3_eq (x y : Int × Int × Int) : cmpE ⟨x.1, x.2.1, x.2.2⟩ ⟨y.1, y.2.1, y.2.2⟩ = cmp3 x y := rfl

theorem env1_ok : EnvOK env1 := ⟨fun t n h => by
    have : env1.eqs = [] := rfl
    rw [this] at h
    simp at h, by kernel_rfl⟩

theorem grown_of {w w' : World} (g : Grew w w') : ∃ q os, w' = grow (w.drewN q) os := by
  refine ⟨w'.drawn - w.drawn, w'.heap.extract w.heap.size w'.heap.size, ?_⟩
  have h1 : w'.heap = w.heap ++ w'.heap.extract w.heap.size w'.heap.size := by
    apply Array.ext_getElem?
    intro j
    rw [Array.getElem?_append]
    by_cases h : j < w.heap.size
    · rw [if_pos h]; exact g.same j h
    · rw [if_neg h, Array.getElem?_extract]
      have := g.size
      by_cases h2 : j < w'.heap.size
      · rw [if_pos (by omega)]; congr 1; omega
      · rw [if_neg (by omega), Array.getElem?_eq_none (by omega)]
  have h2 : w.drawn + (w'.drawn - w.drawn) = w'.drawn := by have := g.drawn; omega
  have h3 := g.os; have h4 := g.tape; have h5 := g.output
  generalize w'.heap.extract w.heap.size w'.heap.size = os at h1 ⊢
  generalize w'.drawn - w.drawn = q at h2 ⊢
  cases w' with
  | mk heap tape drawn os' output =>
    simp only at h1 h2 h3 h4 h5
    subst h1; subst h2; subst h3; subst h4; subst h5
    rfl

def encE (x : Int × Int × Int) : List Value := [.int .i64 x.1, .int .i64 x.2.1, .int .i64 x.2.2]

theorem cmp_run (x y : Int × Int × Int) (w : World) : Calls Tryd.prog 29 #[.agg (encE x).toArray, .agg (encE y).toArray] w fun e w' => e = .returned (.int .i64 (cmp3 x y)) ∧ ∃ q os, w' = grow (w.drewN q) os := by
  have he := ev1_i_compareEdges (L := 2 ^ 60) (n := 4) (Nat.le_refl _) x.1 x.2.1 x.2.2 y.1 y.2.1 y.2.2 (Nat.le_refl _)
  obtain ⟨_, hc⟩ := sound (G := []) (E := env1) (L := 2 ^ 60) env1_ok (fun f g h => by cases h) 4 _ _ _ _ _ he
  have ha : ARv [] (fun _ => none) w (fun b => b < w.heap.size) [.agg [.d (.int .i64 x.1), .d (.int .i64 x.2.1), .d (.int .i64 x.2.2)], .agg [.d (.int .i64 y.1), .d (.int .i64 y.2.1), .d (.int .i64 y.2.2)]] [.agg (encE x).toArray, .agg (encE y).toArray] := by
    simp only [ARv, AR, DR, encE]
    exact ⟨_, _, rfl, ⟨_, rfl, _, _, rfl, rfl, _, _, rfl, rfl, _, _, rfl, rfl, rfl⟩, _, _, rfl, ⟨_, rfl, _, _, rfl, rfl, _, _, rfl, rfl, _, _, rfl, rfl, rfl⟩, rfl⟩
  refine (hc (fun _ => none) w (fun b => b < w.heap.size) _ (rel_empty (fun _ h => h) (ground_nil _ _)) ha).mono fun e w' hh => ?_
  obtain ⟨v, ρ', I', rfl, s, hv⟩ := hh
  have hv : v = .int .i64 (cmp3 x y) := by simpa only [AR, DR, cmp3_eq] using hv
  subst hv
  exact ⟨rfl, grown_of (grew_empty s)⟩

/-! ### the order -/

theorem cmpOne_lt {a b : Int} : cmpOne a b < 0 ↔ a < b := by
  unfold cmpOne
  by_cases h1 : a < b
  · simp [h1]
  · by_cases h2 : b < a <;> simp [h1, h2]
theorem cmpOne_zero {a b : Int} : cmpOne a b = 0 ↔ a = b := by
  unfold cmpOne
  by_cases h1 : a < b
  · simp [h1]; omega
  · by_cases h2 : b < a
    · simp [h1, h2]; omega
    · simp [h1, h2]; omega

theorem cmp3_lt {x y : Int × Int × Int} : cmp3 x y < 0 ↔ x.1 < y.1 ∨ (x.1 = y.1 ∧ (x.2.1 < y.2.1 ∨ (x.2.1 = y.2.1 ∧ x.2.2 < y.2.2))) := by
  unfold cmp3
  simp only [firstOf]
  by_cases h1 : x.1 = y.1
  · have e1 : cmpOne x.1 y.1 = 0 := cmpOne_zero.2 h1
    rw [if_pos e1]
    by_cases h2 : x.2.1 = y.2.1
    · have e2 : cmpOne x.2.1 y.2.1 = 0 := cmpOne_zero.2 h2
      rw [if_pos e2]
      have e3 : (if cmpOne x.2.2 y.2.2 = 0 then (0 : Int) else cmpOne x.2.2 y.2.2) = cmpOne x.2.2 y.2.2 := by split <;> simp_all
      rw [e3, cmpOne_lt]
      omega
    · have e2 : ¬ cmpOne x.2.1 y.2.1 = 0 := fun h => h2 (cmpOne_zero.1 h)
      rw [if_neg e2, cmpOne_lt]
      omega
  · have e1 : ¬ cmpOne x.1 y.1 = 0 := fun h => h1 (cmpOne_zero.1 h)
    rw [if_neg e1, cmpOne_lt]
    omega

theorem lt3 (x y : Int × Int × Int) : ltOf cmp3 x y = decide (x.1 < y.1 ∨ (x.1 = y.1 ∧ (x.2.1 < y.2.1 ∨ (x.2.1 = y.2.1 ∧ x.2.2 < y.2.2)))) := by
  unfold ltOf
  exact decide_eq_decide.2 cmp3_lt

theorem swo3 : SWO (ltOf cmp3) where
  irrefl x := by rw [lt3]; simp
  trans x y z h1 h2 := by rw [lt3] at *; simp only [decide_eq_true_eq] at *; omega
  ntrans x y z h1 h2 := by rw [lt3] at *; simp only [decide_eq_false_iff_not] at *; omega

theorem tot3 (x y : Int × Int × Int) (h1 : ltOf cmp3 x y = false) (h2 : ltOf cmp3 y x = false) : x = y := by
  rw [lt3] at *
  simp only [decide_eq_false_iff_not] at *
  obtain ⟨a, b, c⟩ := x
  obtain ⟨d, e, f⟩ := y
  simp only at *
  have : a = d := by omega
  have : b = e := by omega
  have : c = f := by omega
  simp_all

/-! ### cells -/

theorem tripD_length : ∀ l : List (Int × Int × Int), (tripD l).length = l.length * 3
  | [] => rfl
  | (a, b, c) :: l => by simp only [tripD, List.length_cons, tripD_length l]; omega

theorem trip_eq (ds : List D) : ∀ (l : List (Int × Int × Int)), trip ds = some l → ds = tripD l := by
  induction ds using trip.induct with
  | case1 => intro l h; simp only [trip, Option.some.injEq] at h; subst h; rfl
  | case2 a b c ds ih =>
    intro l h
    simp only [trip] at h
    obtain ⟨l', h1, rfl⟩ := Option.map_eq_some_iff.1 h
    rw [ih l' h1]
    rfl
  | case3 ds h1 h2 =>
    intro l h
    rw [trip] at h
    · cases h
    · exact h1
    · exact h2

theorem tripD_get : ∀ (l : List (Int × Int × Int)) (j : Nat), j < l.length * 3 → ∃ z : Int, (tripD l)[j]? = some (.int .i64 z) ∧ (encE (l.toArray[j / 3]!))[j % 3]! = .int .i64 z
  | [], j, h => by simp at h
  | (a, b, c) :: l, j, h => by
    rcases j with _ | _ | _ | j
    · exact ⟨a, rfl, rfl⟩
    · exact ⟨b, rfl, rfl⟩
    · exact ⟨c, rfl, rfl⟩
    · simp only [List.length_cons] at h
      obtain ⟨z, h1, h2⟩ := tripD_get l j (by omega)
      have e1 : (j + 1 + 1 + 1) / 3 = j / 3 + 1 := by omega
      have e2 : (j + 1 + 1 + 1) % 3 = j % 3 := by omega
      refine ⟨z, by simpa [tripD] using h1, ?_⟩
      rw [e1, e2]
      have e3 : ((a, b, c) :: l).toArray[j / 3 + 1]! = l.toArray[j / 3]! := by simp
      rw [e3]; exact h2

theorem flat_get {l : List (Int × Int × Int)} {j : Nat} (h : j < l.length * 3) : ∃ z : Int, (tripD l)[j]? = some (.int .i64 z) ∧ (flatK encE 3 l.toArray)[j]! = .int .i64 z := by
  obtain ⟨z, h1, h2⟩ := tripD_get l j h
  exact ⟨z, h1, by rw [get_flatK _ _ _ _ (by simpa using h)]; exact h2⟩

theorem sort_run (b len cap : Nat) (l : List (Int × Int × Int)) (hl : l.length = len) (w : World) (hH : HoldsK encE 3 w b 0 l.toArray) (hb : b < w.heap.size) (hm : len ≤ 4294967296) :
    Calls Tryd.prog 28 #[.slice (some ⟨b, 0, none⟩) len cap, .func (.func 29) #[] #[]] w fun e w' => e = .returned (.tuple #[]) ∧ ∃ n os, w' = sortWorldK encE 3 w b 0 n (l.mergeSort le3).toArray os := by
  have eg : ∀ args w, (callFunc 29 args).run Tryd.prog w = .ok (.enter 29 args) w := enters_of Tryd.func29 (by kernel_rfl) rfl
  have hS := AnyQ.slices_SortFunc_total laySort 3 Tryd.isAgg38 Tryd.sizeOf38 encE (fun _ => rfl) (fun x v hv => by simp [encE] at hv; rcases hv with rfl | rfl | rfl <;> rfl) cmp3 swo3 29 #[] b 0 cap l.toArray w eg (fun _ _ _ _ x y => cmp_run x y _) hH hb (by simp; omega) tot3
  have e1 : l.toArray.size = len := by simpa using hl
  rw [e1] at hS
  exact hS

theorem sort_none (p : Option Addr) (cap : Nat) (fv : Value) (w : World) : Calls Tryd.prog 28 #[.slice p 0 cap, fv] w fun e w' => e = .returned (.tuple #[]) ∧ w' = w :=
  AnyF.slices_SortFunc_none laySort p cap fv w

theorem sort_Edge : PrimOK G Tryd.prog 28 (gSortE 29) := by
  intro k args h x h' he
  simp only at he
  split at he
  · rename_i hk
    subst hk
    refine ⟨⟨_, Tryd.func28, by kernel_rfl, by kernel_rfl⟩, fun ρ w I vs r ha => ?_⟩
    unfold gSortE at he
    split at he
    · rename_i id gen off len f
      split at he
      · rename_i cs e g hid
        split at he
        · rename_i hc
          obtain ⟨rfl, rfl, rfl, he3, hcl, hmx⟩ := hc
          split at he
          · rename_i l htr
            cases he
            obtain ⟨v1, rest1, rfl, hx, hr1⟩ := ar_cons ha
            obtain ⟨v2, rest2, rfl, hv2, hr2⟩ := ar_cons hr1
            simp only [ARv] at hr2
            subst hr2
            simp only [AR, ARv] at hv2 hx
            obtain ⟨caps, rfl, hcaps⟩ := hv2
            obtain rfl : caps = #[] := by simpa using hcaps
            obtain ⟨a, cap, rfl, hs⟩ := hx
            have hcs := trip_eq _ _ htr
            have hll : l.length = len := by
              have := congrArg List.length hcs
              rw [tripD_length, List.length_take] at this
              omega
            by_cases h0 : len = 0
            · subst h0
              have hl0 : l = [] := List.length_eq_zero_iff.1 hll
              subst hl0
              refine (sort_none a cap _ w).mono ?_
              rintro e' w' ⟨rfl, rfl⟩
              have hsame : h.set id (.arr (tripD (List.mergeSort [] le3) ++ cs.drop (0 * 3)) e g) = h := by
                have : tripD (List.mergeSort [] le3) ++ cs.drop (0 * 3) = cs := by simp [tripD]
                rw [this]
                apply List.ext_getElem?
                intro j
                rw [List.getElem?_set]
                obtain ⟨hl, hee⟩ := List.getElem?_eq_some_iff.1 hid
                by_cases e1 : id = j
                · subst e1; simp [hl, hee]
                · simp [e1]
              rw [hsame]
              exact ⟨_, ρ, I, rfl, .refl r, by simp [AR, ARv]⟩
            · obtain rfl : e = 3 := by omega
              simp only [slOK, hid] at hs
              obtain ⟨_, hs⟩ := hs
              obtain ⟨hlc, hs⟩ := hs trivial
              obtain ⟨b, hρ⟩ : ∃ b, ρ id = some b := by
                cases hb : ρ id with
                | none => rw [hb] at hs; simp only at hs; omega
                | some b => exact ⟨b, rfl⟩
              rw [hρ] at hs
              simp only at hs
              obtain ⟨rfl, _, C, E, fz, hbk, hC⟩ := hs.resolve_left (by omega : ¬ cap = 0)
              have hO := r.obj id _ hid
              simp only [OR, hρ] at hO
              obtain ⟨_, hIb, C2, E2, fz2, hbk2, hun, hdr⟩ := hO
              rw [hbk] at hbk2
              cases hbk2
              simp only [Nat.zero_add] at hC
              rw [DRs_iff] at hdr
              have hcell := cellAt_eq hbk
              have hlt : b < w.heap.size := (Array.getElem?_eq_some_iff.1 hbk).1
              have hH : HoldsK encE 3 w b 0 l.toArray := by
                intro j hj
                simp only [size_flatK, List.size_toArray] at hj
                obtain ⟨z, h1, h2⟩ := flat_get hj
                have hk : cs[j]? = some (.int .i64 z) := by
                  rw [← hcs, List.getElem?_take, if_pos (by omega)] at h1; exact h1
                obtain ⟨v, hv, hd, _⟩ := hdr j _ hk
                simp only [DR] at hd
                subst hd
                rw [Nat.zero_add] at hv ⊢
                refine ⟨by rw [cell?_eq, hv, h2]; rfl, ?_⟩
                have h3 := hun.1 j (by omega)
                simp only [World.frozen?, hbk]
                by_cases h4 : fz.1 ≤ j <;> by_cases h5 : j < fz.2 <;> simp [h4, h5]
                exact h3 ⟨h4, h5⟩
              refine (sort_run b len cap l hll w hH hlt hmx).mono ?_
              rintro e' w' ⟨rfl, n, os, rfl⟩
              have hsl : (l.mergeSort le3).length = len := by rw [List.length_mergeSort]; exact hll
              obtain ⟨C', hC'⟩ : ∃ C', C' = putCells _root_.id 0 (flatK encE 3 (l.mergeSort le3).toArray) C := ⟨_, rfl⟩
              have hC's : C'.size = C.size := by rw [hC']; simp [putCells]
              have hC'g : ∀ k, k < C.size → C'[k]? = if k < len * 3 then some ((flatK encE 3 (l.mergeSort le3).toArray)[k]!) else C[k]? := by
                intro k hk
                rw [hC']
                simp only [putCells, Array.getElem?_mapIdx, size_flatK, List.size_toArray, hsl, Nat.zero_le, true_and, Nat.zero_add, Nat.sub_zero, _root_.id]
                rw [Array.getElem?_eq_getElem hk]
                by_cases hk2 : k < len * 3 <;> simp [hk2]
              obtain ⟨W, hW⟩ : ∃ W, W = sortWorldK encE 3 w b 0 n (l.mergeSort le3).toArray os := ⟨_, rfl⟩
              rw [← hW]
              have hWh : W.heap = (w.heap.modify b (onCells (putCells _root_.id 0 (flatK encE 3 (l.mergeSort le3).toArray)))) ++ os := by rw [hW]; rfl
              have hWb : W.heap[b]? = some (.cells C' E fz) := by
                rw [hWh, Array.getElem?_append_left (by simpa using hlt), Array.getElem?_modify, if_pos rfl, hbk, hC']
                rfl
              have hWo : ∀ k, k < w.heap.size → k ≠ b → W.heap[k]? = w.heap[k]? := by
                intro k hk hne
                rw [hWh, Array.getElem?_append_left (by simpa using hk), Array.getElem?_modify, if_neg (Ne.symm hne)]
              have hcsC : cs.length ≤ C.size := by
                rcases Nat.lt_or_ge C.size cs.length with hlt | hge
                · obtain ⟨v, hv, _⟩ := hdr C.size _ (List.getElem?_eq_getElem hlt)
                  rw [Nat.zero_add, hcell] at hv
                  simp at hv
                · exact hge
              have hlen' : (tripD (l.mergeSort le3) ++ cs.drop (len * 3)).length = cs.length := by
                rw [List.length_append, tripD_length, List.length_drop, hsl]; omega
              have at_id : (h.set id (.arr (tripD (l.mergeSort le3) ++ cs.drop (len * 3)) 3 g))[id]? = some (.arr (tripD (l.mergeSort le3) ++ cs.drop (len * 3)) 3 g) := by
                have := (List.getElem?_eq_some_iff.1 hid).1
                simp [this]
              have hpk : ∀ (k : Nat) (d : D), (tripD (l.mergeSort le3) ++ cs.drop (len * 3))[k]? = some d → ∃ v, C'[k]? = some v ∧ v.oneCell' = true ∧ DR w I d v := by
                intro k d hk
                have hkl := (List.getElem?_eq_some_iff.1 hk).1
                rw [hlen'] at hkl
                rw [hC'g k (by omega)]
                by_cases hk3 : k < len * 3
                · obtain ⟨z, h1, h2⟩ := flat_get (l := l.mergeSort le3) (j := k) (by omega)
                  rw [List.getElem?_append_left (by rw [tripD_length]; omega), h1] at hk
                  cases hk
                  rw [if_pos hk3, h2]
                  exact ⟨_, rfl, rfl, by simp only [DR]⟩
                · rw [if_neg hk3]
                  rw [List.getElem?_append_right (by rw [tripD_length]; omega), tripD_length, List.getElem?_drop] at hk
                  have e5 : len * 3 + (k - (l.mergeSort le3).length * 3) = k := by omega
                  rw [e5] at hk
                  obtain ⟨v, hv, hd, h1⟩ := hdr k d hk
                  rw [Nat.zero_add, hcell] at hv
                  exact ⟨v, hv, h1, hd⟩
              have st := step_obj (w' := W) (I' := I) (o' := .arr (tripD (l.mergeSort le3) ++ cs.drop (len * 3)) 3 g) r hid trivial (some b) (by rw [hW]; rfl) (by rw [hW]; rfl) (by rw [hW]; rfl)
                (by rw [hWh]; simp) (fun k hk hne => hWo k hk fun e => hne (by rw [hρ, e])) (fun _ hb => hb) (fun _ hb => .inl hb) (fun b' hb' => .inl (by rw [hρ]; exact hb')) (fun _ gen' off' len' a' cap' hs2 => ?_) (fun _ gen' b' hs2 => ?_) (fun hE => ?_) (by rw [hW]; show w.drawn ≤ w.drawn + n; omega)
              · exact ⟨_, _, I, rfl, st, by simp [AR, ARv]⟩
              · simp only [slOK, hid] at hs2
                simp only [slOK, at_id, upd_same]
                refine ⟨hs2.1, fun hg => ?_⟩
                obtain ⟨q1, q2⟩ := hs2.2 hg
                rw [hρ] at q2
                simp only at q2
                refine ⟨q1, ?_⟩
                rcases q2 with q2 | ⟨q3, q4, C3, E3, fz3, q5, q6⟩
                · exact .inl q2
                · rw [hbk] at q5
                  cases q5
                  exact .inr ⟨q3, by rw [hlen']; exact q4, C', E, fz, hWb, by rw [hC's]; exact q6⟩
              · simp only [ptOK, hid] at hs2
                simp only [ptOK, at_id, upd_same]
                exact ⟨hs2.1, fun hg => by rw [← hρ]; exact hs2.2 hg⟩
              · simp only [OR, upd_same]
                refine ⟨by omega, hIb, C', E, fz, hWb, hun.keep (by omega), ?_⟩
                rw [DRs_iff]
                intro k d hk
                obtain ⟨v, hv, h1, hd⟩ := hpk k d hk
                refine ⟨v, ?_, DR_mono hE.imm d v hd, h1⟩
                rw [Nat.zero_add, cellAt_eq hWb, hv]
          · cases he
        · cases he
      · cases he
    · cases he
  · cases he

end Ev
end Go.Proofs.YtojaohcpgelhmaaDoor
