/-
  Memory of some shapes at the end of a round. Written by a program.
-/
import Derived.Test.YtidobgmklcbcpaaLaid
set_option linter.unusedSimpArgs false
set_option linter.unusedVariables false
set_option maxRecDepth 4000
namespace Go.Proofs.Ytidobgmklcbcpaa
namespace Ev

def ord_toG (n : Nat) : List Nat := [7, n + 8] ++ (List.range' 8 n ++ [])
def is_toG (n : Nat) (ids : List Nat) : Bool := decide (ids = [7, n + 8])
theorem is_toG_eq {n : Nat} {ke0 : Nat} (he0 : ke0 = n + 8) : is_toG n [7, ke0] = true := by subst he0; simp [is_toG]
def ren_toG (n i : Nat) : Option Nat := if i = 7 then some 0 else if i = n + 8 then some 1 else none
theorem ren_toG_7 {n : Nat} : ren_toG n 7 = some (0) := by unfold ren_toG; repeat (first | rfl | rw [if_pos rfl] | rw [if_neg (by omega)])
theorem ren_toG_e0 {n k : Nat} (h : k = n + 8) : ren_toG n k = some (1) := by subst h; unfold ren_toG; repeat (first | rfl | rw [if_pos rfl] | rw [if_neg (by omega)])
theorem keep_toG {o0 o1 o2 o3 o4 o5 o6 : O} {cs : List D} {d : List (List Int)} (hl : d.length ≤ 4294967296) {ids : List Nat} : keepOrd 0 (o0 :: o1 :: o2 :: o3 :: o4 :: o5 :: o6 :: .vec (refsV 8 d ++ nilsA 0) 1 0 :: (rowsO d ++ [.arr cs 1 0])) ids = if is_toG d.length ids = true then ord_toG d.length else keepO 0 (o0 :: o1 :: o2 :: o3 :: o4 :: o5 :: o6 :: .vec (refsV 8 d ++ nilsA 0) 1 0 :: (rowsO d ++ [.arr cs 1 0])) ids := by
  split
  · rename_i hc
    have hc : ids = [7, d.length + 8] := by simpa [is_toG] using hc
    subst hc
    obtain ⟨h, hh⟩ : ∃ h : H, o0 :: o1 :: o2 :: o3 :: o4 :: o5 :: o6 :: .vec (refsV 8 d ++ nilsA 0) 1 0 :: (rowsO d ++ [.arr cs 1 0]) = h := ⟨_, rfl⟩
    conv => lhs; rw [hh]
    have g7 : h[7]? = some (.vec (refsV 8 d ++ nilsA 0) 1 0) := by rw [← hh]; rfl
    have gr : ∀ (i : Nat) (r : List Int), d[i]? = some r → h[8 + i]? = some (.arr (ints r) 1 0) := by
      intro i r hr
      rw [← hh, show 8 + i = i + 1 + 1 + 1 + 1 + 1 + 1 + 1 + 1 by omega]
      simp only [List.getElem?_cons_succ]
      exact rows_in hr
    have ge0 : h[d.length + 8]? = some (.arr cs 1 0) := by
      rw [← hh, show d.length + 8 = d.length + 1 + 1 + 1 + 1 + 1 + 1 + 1 + 1 by omega]
      simp only [List.getElem?_cons_succ]
      rw [List.getElem?_append_right (by rw [rowsO_len]; omega), rowsO_len, show d.length - d.length = 0 by omega]
      rfl
    have k7 : kids h (7) = List.range' 8 d.length := by simp [kids, g7, idsL_app, refsV_ids, idsL_nils, idsL, idsA]
    have ke0 : kids h (d.length + 8) = [] := kids_row ge0
    have leaf : ∀ i ∈ List.range' 8 d.length, ∃ r : List Int, h[i]? = some (.arr (ints r) 1 0) := by
      intro i hi
      rw [List.mem_range'_1] at hi
      obtain ⟨j, rfl⟩ : ∃ j, i = 8 + j := ⟨i - 8, by omega⟩
      exact ⟨d[j]'(by omega), gr j _ (List.getElem?_eq_getElem (by omega))⟩
    have hr : reach fuelR h [7, d.length + 8] [] = [7] ++ ([d.length + 8] ++ (List.range' 8 d.length ++ [])) := by
      refine reach_bfs ?_ ?_ ?_ ?_ ?_ ?_
      · simp [k7]
      · intro i hi
        rcases List.mem_append.1 hi with h1 | h1
        · simp only [List.mem_cons, List.not_mem_nil, or_false] at h1
          rcases h1 with rfl
          · exact ke0
        · rcases List.mem_append.1 h1 with h2 | h2
          · obtain ⟨r, hr⟩ := leaf i h2; exact kids_row hr
          · cases h2
      · intro q hq
        simp only [List.length_cons, List.length_nil] at hq
        have : q = 0 := by omega
        rcases this with rfl <;> simp [k7]
      · rw [← List.append_assoc, ← List.append_assoc]
        rw [List.append_nil]
        exact nodup_front (by simp) (by intro i hi; simp at hi; omega)
      · intro i hi
        simp only [List.cons_append, List.nil_append, List.mem_cons, List.mem_append, List.not_mem_nil, or_false] at hi
        rcases hi with rfl | rfl | hi
        · exact ⟨_, g7, by simp⟩
        · exact ⟨_, ge0, by simp⟩
        · obtain ⟨r, hr⟩ := leaf i hi; exact ⟨_, hr, by simp⟩
      · simp only [List.length_append, List.length_cons, List.length_nil, List.length_range', fuelR]; omega
    generalize hord : [7] ++ ([d.length + 8] ++ (List.range' 8 d.length ++ [])) = ord at hr
    have pk : ∀ i j, ord[j]? = some i → place ord i = some j := fun i j h1 => place_at (by rw [← hr]; exact reach_nodup fuelR h _ [] (by simp)) h1
    have p7 := pk (7) 0 (by rw [← hord]; rfl)
    have pe0 := pk (d.length + 8) 1 (by rw [← hord]; rfl)
    have pr : ∀ i, i < d.length → place ord (8 + i) = some (2 + i) := fun i hi => pk _ _ (by
      rw [← hord, show 2 + i = i + 1 + 1 by omega]
      simp only [List.cons_append, List.nil_append, List.getElem?_cons_succ]
      first | rw [List.getElem?_append_left (by simpa using hi), List.getElem?_range' hi] | rw [List.append_nil, List.getElem?_range' hi]
      simp <;> omega)
    have hpk : pack h ord = .vec (refsV 2 d ++ nilsA 0) 1 0 :: .arr cs 1 0 :: rowsO d := by
      have e1 : pack h ord = ([7, d.length + 8] : List Nat).map (fun i => mapO (place ord) (h.getD i default)) ++ ((List.range' 8 d.length).map (fun i => mapO (place ord) (h.getD i default)) ++ ([] : List Nat).map (fun i => mapO (place ord) (h.getD i default))) := by
        unfold pack
        conv => lhs; arg 2; rw [← hord]
        rw [← List.map_append, ← List.map_append]
        rfl
      have hrf : mapAs (place ord) (refsV 8 d) = refsV 2 d := refsV_map (c := 0) pr
      have hni : mapAs (place ord) (nilsA 0) = nilsA 0 := rfl
      rw [e1, map_rows gr]
      simp only [List.map_cons, List.map_nil, List.getD_eq_getElem?_getD, g7, ge0, Option.getD_some]
      simp only [mapO, mapAs, mapA, mapAs_app, hrf, hni, p7, pe0, List.cons_append, List.nil_append, List.append_nil]
    have hgr : ∀ i, i < d.length → genOf (O.vec (refsV 2 d ++ nilsA 0) 1 0 :: .arr cs 1 0 :: rowsO d) (2 + i) = some 0 := by
      intro i hi
      rw [show 2 + i = i + 1 + 1 by omega]
      simp only [genOf_succ]
      have := gen_rows (p := []) hi; rwa [List.append_nil] at this
    have hcm : calmH 0 (O.vec (refsV 2 d ++ nilsA 0) 1 0 :: .arr cs 1 0 :: rowsO d) = .vec (refsV 2 d ++ nilsA 0) 1 0 :: .arr cs 1 0 :: rowsO d := by
      have hrf : calmAs 0 (O.vec (refsV 2 d ++ nilsA 0) 1 0 :: .arr cs 1 0 :: rowsO d) (refsV 2 d) = refsV 2 d := calm_refs hgr
      have hni : ∀ h : H, calmAs 0 h (nilsA 0) = nilsA 0 := fun _ => rfl
      have gS : ∀ (o : O) (h : H) (i : Nat), genOf (o :: h) (i + 1) = genOf h i := fun _ _ _ => genOf_succ
      obtain ⟨hp, hq⟩ : ∃ hp : H, O.vec (refsV 2 d ++ nilsA 0) 1 0 :: .arr cs 1 0 :: rowsO d = hp := ⟨_, rfl⟩
      rw [hq] at hrf
      conv => lhs; rw [hq]
      unfold calmH
      rw [calmFrom0]
      have q0 : genOf hp 0 = some 0 := by rw [← hq]; rfl
      have q1 : genOf hp 1 = some 0 := by rw [← hq]; rfl
      conv => lhs; arg 2; rw [← hq]
      simp only [List.map_cons, List.map_append, List.map_nil, calmO, calmAs, calmA, calmSl, calmAs_app, hrf, hni, calm_rows, q0, q1, Nat.not_lt_zero, if_false, if_true]
    rw [keepOrd_zero]
    unfold fuelR at hr
    rw [hr, ← hord]
    rfl
  · rfl
theorem trim_toG {o0 o1 o2 o3 o4 o5 o6 : O} {cs : List D} {d : List (List Int)} (hl : d.length ≤ 4294967296) {s : List A} : trim 0 (o0 :: o1 :: o2 :: o3 :: o4 :: o5 :: o6 :: .vec (refsV 8 d ++ nilsA 0) 1 0 :: (rowsO d ++ [.arr cs 1 0])) (ord_toG d.length) s = if is_toG d.length (idsL s) = true ∧ z0As s = true then (mapAs (ren_toG d.length) s, .vec (refsV 2 d ++ nilsA 0) 1 0 :: .arr cs 1 0 :: rowsO d) else trimO 0 (o0 :: o1 :: o2 :: o3 :: o4 :: o5 :: o6 :: .vec (refsV 8 d ++ nilsA 0) 1 0 :: (rowsO d ++ [.arr cs 1 0])) (ord_toG d.length) s := by
  split
  · rename_i hc
    obtain ⟨hids, hz⟩ := hc
    have hids : idsL s = [7, d.length + 8] := by simpa [is_toG] using hids
    obtain ⟨h, hh⟩ : ∃ h : H, o0 :: o1 :: o2 :: o3 :: o4 :: o5 :: o6 :: .vec (refsV 8 d ++ nilsA 0) 1 0 :: (rowsO d ++ [.arr cs 1 0]) = h := ⟨_, rfl⟩
    conv => lhs; rw [hh]
    have g7 : h[7]? = some (.vec (refsV 8 d ++ nilsA 0) 1 0) := by rw [← hh]; rfl
    have gr : ∀ (i : Nat) (r : List Int), d[i]? = some r → h[8 + i]? = some (.arr (ints r) 1 0) := by
      intro i r hr
      rw [← hh, show 8 + i = i + 1 + 1 + 1 + 1 + 1 + 1 + 1 + 1 by omega]
      simp only [List.getElem?_cons_succ]
      exact rows_in hr
    have ge0 : h[d.length + 8]? = some (.arr cs 1 0) := by
      rw [← hh, show d.length + 8 = d.length + 1 + 1 + 1 + 1 + 1 + 1 + 1 + 1 by omega]
      simp only [List.getElem?_cons_succ]
      rw [List.getElem?_append_right (by rw [rowsO_len]; omega), rowsO_len, show d.length - d.length = 0 by omega]
      rfl
    have k7 : kids h (7) = List.range' 8 d.length := by simp [kids, g7, idsL_app, refsV_ids, idsL_nils, idsL, idsA]
    have ke0 : kids h (d.length + 8) = [] := kids_row ge0
    have leaf : ∀ i ∈ List.range' 8 d.length, ∃ r : List Int, h[i]? = some (.arr (ints r) 1 0) := by
      intro i hi
      rw [List.mem_range'_1] at hi
      obtain ⟨j, rfl⟩ : ∃ j, i = 8 + j := ⟨i - 8, by omega⟩
      exact ⟨d[j]'(by omega), gr j _ (List.getElem?_eq_getElem (by omega))⟩
    have hr : reach fuelR h [7, d.length + 8] [] = [7] ++ ([d.length + 8] ++ (List.range' 8 d.length ++ [])) := by
      refine reach_bfs ?_ ?_ ?_ ?_ ?_ ?_
      · simp [k7]
      · intro i hi
        rcases List.mem_append.1 hi with h1 | h1
        · simp only [List.mem_cons, List.not_mem_nil, or_false] at h1
          rcases h1 with rfl
          · exact ke0
        · rcases List.mem_append.1 h1 with h2 | h2
          · obtain ⟨r, hr⟩ := leaf i h2; exact kids_row hr
          · cases h2
      · intro q hq
        simp only [List.length_cons, List.length_nil] at hq
        have : q = 0 := by omega
        rcases this with rfl <;> simp [k7]
      · rw [← List.append_assoc, ← List.append_assoc]
        rw [List.append_nil]
        exact nodup_front (by simp) (by intro i hi; simp at hi; omega)
      · intro i hi
        simp only [List.cons_append, List.nil_append, List.mem_cons, List.mem_append, List.not_mem_nil, or_false] at hi
        rcases hi with rfl | rfl | hi
        · exact ⟨_, g7, by simp⟩
        · exact ⟨_, ge0, by simp⟩
        · obtain ⟨r, hr⟩ := leaf i hi; exact ⟨_, hr, by simp⟩
      · simp only [List.length_append, List.length_cons, List.length_nil, List.length_range', fuelR]; omega
    generalize hord : [7] ++ ([d.length + 8] ++ (List.range' 8 d.length ++ [])) = ord at hr
    have pk : ∀ i j, ord[j]? = some i → place ord i = some j := fun i j h1 => place_at (by rw [← hr]; exact reach_nodup fuelR h _ [] (by simp)) h1
    have p7 := pk (7) 0 (by rw [← hord]; rfl)
    have pe0 := pk (d.length + 8) 1 (by rw [← hord]; rfl)
    have pr : ∀ i, i < d.length → place ord (8 + i) = some (2 + i) := fun i hi => pk _ _ (by
      rw [← hord, show 2 + i = i + 1 + 1 by omega]
      simp only [List.cons_append, List.nil_append, List.getElem?_cons_succ]
      first | rw [List.getElem?_append_left (by simpa using hi), List.getElem?_range' hi] | rw [List.append_nil, List.getElem?_range' hi]
      simp <;> omega)
    have hpk : pack h ord = .vec (refsV 2 d ++ nilsA 0) 1 0 :: .arr cs 1 0 :: rowsO d := by
      have e1 : pack h ord = ([7, d.length + 8] : List Nat).map (fun i => mapO (place ord) (h.getD i default)) ++ ((List.range' 8 d.length).map (fun i => mapO (place ord) (h.getD i default)) ++ ([] : List Nat).map (fun i => mapO (place ord) (h.getD i default))) := by
        unfold pack
        conv => lhs; arg 2; rw [← hord]
        rw [← List.map_append, ← List.map_append]
        rfl
      have hrf : mapAs (place ord) (refsV 8 d) = refsV 2 d := refsV_map (c := 0) pr
      have hni : mapAs (place ord) (nilsA 0) = nilsA 0 := rfl
      rw [e1, map_rows gr]
      simp only [List.map_cons, List.map_nil, List.getD_eq_getElem?_getD, g7, ge0, Option.getD_some]
      simp only [mapO, mapAs, mapA, mapAs_app, hrf, hni, p7, pe0, List.cons_append, List.nil_append, List.append_nil]
    have hgr : ∀ i, i < d.length → genOf (O.vec (refsV 2 d ++ nilsA 0) 1 0 :: .arr cs 1 0 :: rowsO d) (2 + i) = some 0 := by
      intro i hi
      rw [show 2 + i = i + 1 + 1 by omega]
      simp only [genOf_succ]
      have := gen_rows (p := []) hi; rwa [List.append_nil] at this
    have hcm : calmH 0 (O.vec (refsV 2 d ++ nilsA 0) 1 0 :: .arr cs 1 0 :: rowsO d) = .vec (refsV 2 d ++ nilsA 0) 1 0 :: .arr cs 1 0 :: rowsO d := by
      have hrf : calmAs 0 (O.vec (refsV 2 d ++ nilsA 0) 1 0 :: .arr cs 1 0 :: rowsO d) (refsV 2 d) = refsV 2 d := calm_refs hgr
      have hni : ∀ h : H, calmAs 0 h (nilsA 0) = nilsA 0 := fun _ => rfl
      have gS : ∀ (o : O) (h : H) (i : Nat), genOf (o :: h) (i + 1) = genOf h i := fun _ _ _ => genOf_succ
      obtain ⟨hp, hq⟩ : ∃ hp : H, O.vec (refsV 2 d ++ nilsA 0) 1 0 :: .arr cs 1 0 :: rowsO d = hp := ⟨_, rfl⟩
      rw [hq] at hrf
      conv => lhs; rw [hq]
      unfold calmH
      rw [calmFrom0]
      have q0 : genOf hp 0 = some 0 := by rw [← hq]; rfl
      have q1 : genOf hp 1 = some 0 := by rw [← hq]; rfl
      conv => lhs; arg 2; rw [← hq]
      simp only [List.map_cons, List.map_append, List.map_nil, calmO, calmAs, calmA, calmSl, calmAs_app, hrf, hni, calm_rows, q0, q1, Nat.not_lt_zero, if_false, if_true]
    have hoo : ord_toG d.length = ord := by rw [← hord]; rfl
    unfold trim
    rw [hoo, hpk, hcm]
    have hz2 : calmAs 0 (O.vec (refsV 2 d ++ nilsA 0) 1 0 :: .arr cs 1 0 :: rowsO d) (mapAs (place ord) s) = mapAs (place ord) s := by
      exact calmAs_fix (gen_zero (by simp [z0O, z0As, z0A, z0As_app, z0As_refs, z0As_nils, z0O_rows])) _ (z0_map _ hz)
    have hmp : mapAs (place ord) s = mapAs (ren_toG d.length) s := by
      apply mapAs_ext
      rw [hids]
      intro i hi
      simp only [List.mem_cons, List.not_mem_nil, or_false] at hi
      rcases hi with rfl | rfl
      · rw [p7, ren_toG_7]
      · rw [pe0, ren_toG_e0 rfl]
    rw [hz2, hmp]
  · rfl

end Ev
end Go.Proofs.Ytidobgmklcbcpaa
