/-
  Memory in which rows are laid one after the other: rounds of loops.
-/
import Derived.Test.YtppdfjdfjfoddaaAutM
import Derived.Test.YtppdfjdfjfoddaaEdges
section
set_option linter.unusedSimpArgs false
set_option linter.unusedVariables false
namespace Go.Proofs.Ytppdfjdfjfoddaa
namespace Ev
theorem calmFrom0 {h : H} : ∀ (os : H) (i : Nat), calmFrom 0 h i os = os.map (calmO 0 h 0)
 | [], _ => rfl
 | o :: os, i => by
  simp only [calmFrom, List.map_cons, calmFrom0 os (i + 1)]
  cases o <;> simp [calmO]
theorem calm_rows {h : H} {rs : List (List Int)} : (rowsO rs).map (calmO 0 h 0) = rowsO rs := by
 simp [rowsO, calmO]
theorem calmAs_app {nf : Nat} {h : H} : ∀ (xs ys : List A), calmAs nf h (xs ++ ys) = calmAs nf h xs ++ calmAs nf h ys
 | [], ys => by simp [calmAs]
 | x :: xs, ys => by simp [calmAs, calmAs_app xs ys]
theorem calm_refs {h : H} : ∀ {rs : List (List Int)} {b : Nat}, (∀ i, i < rs.length → genOf h (b + i) = some 0) → calmAs 0 h (refsV b rs) = refsV b rs
 | [], b, _ => by simp [refsV, calmAs]
 | r :: rs, b, hh => by
  have h0 := hh 0 (by simp)
  simp only [Nat.add_zero] at h0
  simp only [refsV, calmAs, calmA, calmSl, Nat.not_lt_zero, if_false, h0, if_true]
  rw [calm_refs (rs := rs) (b := b + 1) fun i hi => by
   rw [show b + 1 + i = b + (i + 1) by omega]
   exact hh (i + 1) (by simp; omega)]
theorem gen_rows {rs : List (List Int)} {p : H} {i : Nat} (h : i < rs.length) : genOf (rowsO rs ++ p) i = some 0 := by
 unfold genOf
 rw [List.getElem?_append_left (by rw [rowsO_len]; exact h), rowsO_at h]
theorem genOf_succ {o : O} {h : H} {i : Nat} : genOf (o :: h) (i + 1) = genOf h i := by
 unfold genOf
 rw [List.getElem?_cons_succ]
theorem map_rows {f : Nat → Option Nat} {h : H} {b : Nat} {rs : List (List Int)} (hh : ∀ (i : Nat) (r : List Int), rs[i]? = some r → h[b + i]? = some (.arr (ints r) 1 0)) : (List.range' b rs.length).map (fun i => mapO f (h.getD i default)) = rowsO rs := pack_rows hh
theorem rows_in {rs : List (List Int)} {p : H} {i : Nat} {r : List Int} (h : rs[i]? = some r) : (rowsO rs ++ p)[i]? = some (.arr (ints r) 1 0) := by
 rw [List.getElem?_append_left (by rw [rowsO_len]; exact lt_of_get h)]
 exact rowsO_get h
section
variable {x0 x1 : D} {k z : Nat} {cs cr : List D} {d : List (List Int)} {p : H}
theorem kids_row {h : H} {i : Nat} {r : List D} {e g : Nat} (hr : h[i]? = some (.arr r e g)) : kids h i = [] := by simp only [kids, hr]
mutual
theorem mapA_ext {f g : Nat → Option Nat} : ∀ a : A, (∀ i ∈ idsA a, f i = g i) → mapA f a = mapA g a
 | .d x, _ => by simp only [mapA]
 | .sl id gen off len, hi => by simp only [mapA, hi id (by simp [idsA])]
 | .ptr id gen off, hi => by simp only [mapA, hi id (by simp [idsA])]
 | .mp id, hi => by simp only [mapA, hi id (by simp [idsA])]
 | .clo q caps, hi => by simp only [mapA]; rw [mapAs_ext caps (by simpa only [idsA] using hi)]
 | .agg cs, hi => by simp only [mapA]; rw [mapAs_ext cs (by simpa only [idsA] using hi)]
 | .tup cs, hi => by simp only [mapA]; rw [mapAs_ext cs (by simpa only [idsA] using hi)]
 | .junk, _ => by simp only [mapA]
theorem mapAs_ext {f g : Nat → Option Nat} : ∀ xs : List A, (∀ i ∈ idsL xs, f i = g i) → mapAs f xs = mapAs g xs
 | [], _ => by simp only [mapAs]
 | a :: xs, hi => by
  simp only [idsL, List.mem_append] at hi
  simp only [mapAs]
  rw [mapA_ext a fun i h => hi i (.inl h), mapAs_ext xs fun i h => hi i (.inr h)]
end
mutual
theorem z0_mapA {f : Nat → Option Nat} : ∀ a : A, z0A a = true → z0A (mapA f a) = true
 | .d x, _ => by simp only [mapA, z0A]
 | .sl id gen off len, hz => by simp only [mapA]; cases f id <;> first | rfl | exact hz
 | .ptr id gen off, hz => by simp only [mapA]; cases f id <;> first | rfl | exact hz
 | .mp id, hz => by simp only [mapA]; cases f id <;> first | rfl | exact hz
 | .clo q caps, hz => by simp only [mapA, z0A] at hz ⊢; exact z0_map caps hz
 | .agg cs, hz => by simp only [mapA, z0A] at hz ⊢; exact z0_map cs hz
 | .tup cs, hz => by simp only [mapA, z0A] at hz ⊢; exact z0_map cs hz
 | .junk, _ => by simp only [mapA, z0A]
theorem z0_map {f : Nat → Option Nat} : ∀ xs : List A, z0As xs = true → z0As (mapAs f xs) = true
 | [], _ => by simp only [mapAs, z0As]
 | a :: xs, hz => by
  simp only [z0As, Bool.and_eq_true] at hz
  simp only [mapAs, z0As, Bool.and_eq_true]
  exact ⟨z0_mapA a hz.1, z0_map xs hz.2⟩
end
theorem nodup_front {L0 : List Nat} {b n : Nat} (h0 : L0.Nodup) (hlt : ∀ i ∈ L0, ¬ (b ≤ i ∧ i < b + n)) : (L0 ++ List.range' b n).Nodup := by
 rw [List.nodup_append]
 refine ⟨h0, List.nodup_range', fun i hi j hj e => ?_⟩
 rw [List.mem_range'_1] at hj
 subst e
 exact hlt _ hi hj
end
end Ev
end Go.Proofs.Ytppdfjdfjfoddaa
end

/-!
  Memory of some shapes at the end of a round. Written by a program.
-/
section
set_option linter.unusedSimpArgs false
set_option linter.unusedVariables false
set_option maxRecDepth 4000
namespace Go.Proofs.Ytppdfjdfjfoddaa
namespace Ev
def ord_toG (n : Nat) : List Nat := [7, n + 8] ++ (List.range' 8 n ++ [])
def is_toG (n : Nat) (ids : List Nat) : Bool := decide (ids = [7, n + 8])
theorem is_toG_eq {n : Nat} {ke0 : Nat} (he0 : ke0 = n + 8) : is_toG n [7, ke0] = true := by subst he0; simp [is_toG]
def ren_toG (n i : Nat) : Option Nat := if i = 7 then some 0 else if i = n + 8 then some 1 else none
theorem ren_toG_7 {n : Nat} : ren_toG n 7 = some (0) := by unfold ren_toG; repeat (first | rfl | rw [if_pos rfl] | rw [if_neg (by omega)])
theorem ren_toG_e0 {n k : Nat} (h : k = n + 8) : ren_toG n k = some (1) := by subst h; unfold ren_toG; repeat (first | rfl | rw [if_pos rfl] | rw [if_neg (by omega)])
theorem keep_toG {o0 o1 o2 o3 o4 o5 o6 : O} {cs : List D} {d : List (List Int)} (hl : d.length ≤ 4294967296) {ids : List Nat} : keepOrd 0 (o0 :: o1 :: o2 :: o3 :: o4 :: o5 :: o6 :: .vec (refsV 8 d ++ nilsA 0) 1 0 :: (rowsO d ++ [.arr cs 1 0])) ids = if is_toG d.length ids = true then ord_toG d.length else keepO 0 (o0 :: o1 :: o2 :: o3 :: o4 :: o5 :: o6 :: .vec (refsV 8 d ++ nilsA 0) 1 0 :: (rowsO d ++ [.arr cs 1 0])) ids := by
 split
 ·rename_i hc
  have hc : ids = [7, d.length + 8] := by simpa [is_toG] using hc
  subst hc
  obtain ⟨h, hh⟩ : ∃ h : H, o0 :: o1 :: o2 :: o3 :: o4 :: o5 :: o6 :: .vec (refsV 8 d ++ nilsA 0) 1 0 :: (rowsO d ++ [.arr cs 1 0]) = h := ⟨_, rfl⟩
  conv => lhs; rw [hh]
  have g7 : h[7]? = some (.vec (refsV 8 d ++ nilsA 0) 1 0) := by rw [← hh]; rfl
  have gr : ∀ (i : Nat) (r : List Int), d[i]? = some r → h[8 + i]? = some (.arr (ints r) 1 0) := by
   intro i r hr
   rw [← hh, show 8 + i = i + 1 + 1 + 1 + 1 + 1 + 1 + 1 + 1 by omega]
   simp only [List.getElem?_cons_succ]
   exact rows_in hr
  have ge0 : h[d.length + 8]? = some (.arr cs 1 0) := by
   rw [← hh, show d.length + 8 = d.length + 1 + 1 + 1 + 1 + 1 + 1 + 1 + 1 by omega]
   simp only [List.getElem?_cons_succ]
   rw [List.getElem?_append_right (by rw [rowsO_len]; omega), rowsO_len, show d.length - d.length = 0 by omega]
   rfl
  have k7 : kids h (7) = List.range' 8 d.length := by simp [kids, g7, idsL_app, refsV_ids, idsL_nils, idsL, idsA]
  have ke0 : kids h (d.length + 8) = [] := kids_row ge0
  have leaf : ∀ i ∈ List.range' 8 d.length, ∃ r : List Int, h[i]? = some (.arr (ints r) 1 0) := by
   intro i hi
   rw [List.mem_range'_1] at hi
   obtain ⟨j, rfl⟩ : ∃ j, i = 8 + j := ⟨i - 8, by omega⟩
   exact ⟨d[j]'(by omega), gr j _ (List.getElem?_eq_getElem (by omega))⟩
  have hr : reach fuelR h [7, d.length + 8] [] = [7] ++ ([d.length + 8] ++ (List.range' 8 d.length ++ [])) := by
   refine reach_bfs ?_ ?_ ?_ ?_ ?_ ?_
   ·simp [k7]
   ·intro i hi
    rcases List.mem_append.1 hi with h1 | h1
    ·simp only [List.mem_cons, List.not_mem_nil, or_false] at h1
     rcases h1 with rfl
     ·exact ke0
    ·rcases List.mem_append.1 h1 with h2 | h2
     ·obtain ⟨r, hr⟩ := leaf i h2; exact kids_row hr
     ·cases h2
   ·intro q hq
    simp only [List.length_cons, List.length_nil] at hq
    have : q = 0 := by omega
    rcases this with rfl <;> simp [k7]
   ·rw [← List.append_assoc, ← List.append_assoc]
    rw [List.append_nil]
    exact nodup_front (by simp) (by intro i hi; simp at hi; omega)
   ·intro i hi
    simp only [List.cons_append, List.nil_append, List.mem_cons, List.mem_append, List.not_mem_nil, or_false] at hi
    rcases hi with rfl | rfl | hi
    ·exact ⟨_, g7, by simp⟩
    ·exact ⟨_, ge0, by simp⟩
    ·obtain ⟨r, hr⟩ := leaf i hi; exact ⟨_, hr, by simp⟩
   ·simp only [List.length_append, List.length_cons, List.length_nil, List.length_range', fuelR]; omega
  generalize hord : [7] ++ ([d.length + 8] ++ (List.range' 8 d.length ++ [])) = ord at hr
  have pk : ∀ i j, ord[j]? = some i → place ord i = some j := fun i j h1 => place_at (by rw [← hr]; exact reach_nodup fuelR h _ [] (by simp)) h1
  have p7 := pk (7) 0 (by rw [← hord]; rfl)
  have pe0 := pk (d.length + 8) 1 (by rw [← hord]; rfl)
  have pr : ∀ i, i < d.length → place ord (8 + i) = some (2 + i) := fun i hi => pk _ _ (by
   rw [← hord, show 2 + i = i + 1 + 1 by omega]
   simp only [List.cons_append, List.nil_append, List.getElem?_cons_succ]
   first | rw [List.getElem?_append_left (by simpa using hi), List.getElem?_range' hi] | rw [List.append_nil, List.getElem?_range' hi]
   simp <;> omega)
  have hpk : pack h ord = .vec (refsV 2 d ++ nilsA 0) 1 0 :: .arr cs 1 0 :: rowsO d := by
   have e1 : pack h ord = ([7, d.length + 8] : List Nat).map (fun i => mapO (place ord) (h.getD i default)) ++ ((List.range' 8 d.length).map (fun i => mapO (place ord) (h.getD i default)) ++ ([] : List Nat).map (fun i => mapO (place ord) (h.getD i default))) := by
    unfold pack
    conv => lhs; arg 2; rw [← hord]
    rw [← List.map_append, ← List.map_append]
    rfl
   have hrf : mapAs (place ord) (refsV 8 d) = refsV 2 d := refsV_map (c := 0) pr
   have hni : mapAs (place ord) (nilsA 0) = nilsA 0 := rfl
   rw [e1, map_rows gr]
   simp only [List.map_cons, List.map_nil, List.getD_eq_getElem?_getD, g7, ge0, Option.getD_some]
   simp only [mapO, mapAs, mapA, mapAs_app, hrf, hni, p7, pe0, List.cons_append, List.nil_append, List.append_nil]
  have hgr : ∀ i, i < d.length → genOf (O.vec (refsV 2 d ++ nilsA 0) 1 0 :: .arr cs 1 0 :: rowsO d) (2 + i) = some 0 := by
   intro i hi
   rw [show 2 + i = i + 1 + 1 by omega]
   simp only [genOf_succ]
   have := gen_rows (p := []) hi; rwa [List.append_nil] at this
  have hcm : calmH 0 (O.vec (refsV 2 d ++ nilsA 0) 1 0 :: .arr cs 1 0 :: rowsO d) = .vec (refsV 2 d ++ nilsA 0) 1 0 :: .arr cs 1 0 :: rowsO d := by
   have hrf : calmAs 0 (O.vec (refsV 2 d ++ nilsA 0) 1 0 :: .arr cs 1 0 :: rowsO d) (refsV 2 d) = refsV 2 d := calm_refs hgr
   have hni : ∀ h : H, calmAs 0 h (nilsA 0) = nilsA 0 := fun _ => rfl
   have gS : ∀ (o : O) (h : H) (i : Nat), genOf (o :: h) (i + 1) = genOf h i := fun _ _ _ => genOf_succ
   obtain ⟨hp, hq⟩ : ∃ hp : H, O.vec (refsV 2 d ++ nilsA 0) 1 0 :: .arr cs 1 0 :: rowsO d = hp := ⟨_, rfl⟩
   rw [hq] at hrf
   conv => lhs; rw [hq]
   unfold calmH
   rw [calmFrom0]
   have q0 : genOf hp 0 = some 0 := by rw [← hq]; rfl
   have q1 : genOf hp 1 = some 0 := by rw [← hq]; rfl
   conv => lhs; arg 2; rw [← hq]
   simp only [List.map_cons, List.map_append, List.map_nil, calmO, calmAs, calmA, calmSl, calmAs_app, hrf, hni, calm_rows, q0, q1, Nat.not_lt_zero, if_false, if_true]
  rw [keepOrd_zero]
  unfold fuelR at hr
  rw [hr, ← hord]
  rfl
 ·rfl
theorem trim_toG {o0 o1 o2 o3 o4 o5 o6 : O} {cs : List D} {d : List (List Int)} (hl : d.length ≤ 4294967296) {s : List A} : trim 0 (o0 :: o1 :: o2 :: o3 :: o4 :: o5 :: o6 :: .vec (refsV 8 d ++ nilsA 0) 1 0 :: (rowsO d ++ [.arr cs 1 0])) (ord_toG d.length) s = if is_toG d.length (idsL s) = true ∧ z0As s = true then (mapAs (ren_toG d.length) s, .vec (refsV 2 d ++ nilsA 0) 1 0 :: .arr cs 1 0 :: rowsO d) else trimO 0 (o0 :: o1 :: o2 :: o3 :: o4 :: o5 :: o6 :: .vec (refsV 8 d ++ nilsA 0) 1 0 :: (rowsO d ++ [.arr cs 1 0])) (ord_toG d.length) s := by
 split
 ·rename_i hc
  obtain ⟨hids, hz⟩ := hc
  have hids : idsL s = [7, d.length + 8] := by simpa [is_toG] using hids
  obtain ⟨h, hh⟩ : ∃ h : H, o0 :: o1 :: o2 :: o3 :: o4 :: o5 :: o6 :: .vec (refsV 8 d ++ nilsA 0) 1 0 :: (rowsO d ++ [.arr cs 1 0]) = h := ⟨_, rfl⟩
  conv => lhs; rw [hh]
  have g7 : h[7]? = some (.vec (refsV 8 d ++ nilsA 0) 1 0) := by rw [← hh]; rfl
  have gr : ∀ (i : Nat) (r : List Int), d[i]? = some r → h[8 + i]? = some (.arr (ints r) 1 0) := by
   intro i r hr
   rw [← hh, show 8 + i = i + 1 + 1 + 1 + 1 + 1 + 1 + 1 + 1 by omega]
   simp only [List.getElem?_cons_succ]
   exact rows_in hr
  have ge0 : h[d.length + 8]? = some (.arr cs 1 0) := by
   rw [← hh, show d.length + 8 = d.length + 1 + 1 + 1 + 1 + 1 + 1 + 1 + 1 by omega]
   simp only [List.getElem?_cons_succ]
   rw [List.getElem?_append_right (by rw [rowsO_len]; omega), rowsO_len, show d.length - d.length = 0 by omega]
   rfl
  have k7 : kids h (7) = List.range' 8 d.length := by simp [kids, g7, idsL_app, refsV_ids, idsL_nils, idsL, idsA]
  have ke0 : kids h (d.length + 8) = [] := kids_row ge0
  have leaf : ∀ i ∈ List.range' 8 d.length, ∃ r : List Int, h[i]? = some (.arr (ints r) 1 0) := by
   intro i hi
   rw [List.mem_range'_1] at hi
   obtain ⟨j, rfl⟩ : ∃ j, i = 8 + j := ⟨i - 8, by omega⟩
   exact ⟨d[j]'(by omega), gr j _ (List.getElem?_eq_getElem (by omega))⟩
  have hr : reach fuelR h [7, d.length + 8] [] = [7] ++ ([d.length + 8] ++ (List.range' 8 d.length ++ [])) := by
   refine reach_bfs ?_ ?_ ?_ ?_ ?_ ?_
   ·simp [k7]
   ·intro i hi
    rcases List.mem_append.1 hi with h1 | h1
    ·simp only [List.mem_cons, List.not_mem_nil, or_false] at h1
     rcases h1 with rfl
     ·exact ke0
    ·rcases List.mem_append.1 h1 with h2 | h2
     ·obtain ⟨r, hr⟩ := leaf i h2; exact kids_row hr
     ·cases h2
   ·intro q hq
    simp only [List.length_cons, List.length_nil] at hq
    have : q = 0 := by omega
    rcases this with rfl <;> simp [k7]
   ·rw [← List.append_assoc, ← List.append_assoc]
    rw [List.append_nil]
    exact nodup_front (by simp) (by intro i hi; simp at hi; omega)
   ·intro i hi
    simp only [List.cons_append, List.nil_append, List.mem_cons, List.mem_append, List.not_mem_nil, or_false] at hi
    rcases hi with rfl | rfl | hi
    ·exact ⟨_, g7, by simp⟩
    ·exact ⟨_, ge0, by simp⟩
    ·obtain ⟨r, hr⟩ := leaf i hi; exact ⟨_, hr, by simp⟩
   ·simp only [List.length_append, List.length_cons, List.length_nil, List.length_range', fuelR]; omega
  generalize hord : [7] ++ ([d.length + 8] ++ (List.range' 8 d.length ++ [])) = ord at hr
  have pk : ∀ i j, ord[j]? = some i → place ord i = some j := fun i j h1 => place_at (by rw [← hr]; exact reach_nodup fuelR h _ [] (by simp)) h1
  have p7 := pk (7) 0 (by rw [← hord]; rfl)
  have pe0 := pk (d.length + 8) 1 (by rw [← hord]; rfl)
  have pr : ∀ i, i < d.length → place ord (8 + i) = some (2 + i) := fun i hi => pk _ _ (by
   rw [← hord, show 2 + i = i + 1 + 1 by omega]
   simp only [List.cons_append, List.nil_append, List.getElem?_cons_succ]
   first | rw [List.getElem?_append_left (by simpa using hi), List.getElem?_range' hi] | rw [List.append_nil, List.getElem?_range' hi]
   simp <;> omega)
  have hpk : pack h ord = .vec (refsV 2 d ++ nilsA 0) 1 0 :: .arr cs 1 0 :: rowsO d := by
   have e1 : pack h ord = ([7, d.length + 8] : List Nat).map (fun i => mapO (place ord) (h.getD i default)) ++ ((List.range' 8 d.length).map (fun i => mapO (place ord) (h.getD i default)) ++ ([] : List Nat).map (fun i => mapO (place ord) (h.getD i default))) := by
    unfold pack
    conv => lhs; arg 2; rw [← hord]
    rw [← List.map_append, ← List.map_append]
    rfl
   have hrf : mapAs (place ord) (refsV 8 d) = refsV 2 d := refsV_map (c := 0) pr
   have hni : mapAs (place ord) (nilsA 0) = nilsA 0 := rfl
   rw [e1, map_rows gr]
   simp only [List.map_cons, List.map_nil, List.getD_eq_getElem?_getD, g7, ge0, Option.getD_some]
   simp only [mapO, mapAs, mapA, mapAs_app, hrf, hni, p7, pe0, List.cons_append, List.nil_append, List.append_nil]
  have hgr : ∀ i, i < d.length → genOf (O.vec (refsV 2 d ++ nilsA 0) 1 0 :: .arr cs 1 0 :: rowsO d) (2 + i) = some 0 := by
   intro i hi
   rw [show 2 + i = i + 1 + 1 by omega]
   simp only [genOf_succ]
   have := gen_rows (p := []) hi; rwa [List.append_nil] at this
  have hcm : calmH 0 (O.vec (refsV 2 d ++ nilsA 0) 1 0 :: .arr cs 1 0 :: rowsO d) = .vec (refsV 2 d ++ nilsA 0) 1 0 :: .arr cs 1 0 :: rowsO d := by
   have hrf : calmAs 0 (O.vec (refsV 2 d ++ nilsA 0) 1 0 :: .arr cs 1 0 :: rowsO d) (refsV 2 d) = refsV 2 d := calm_refs hgr
   have hni : ∀ h : H, calmAs 0 h (nilsA 0) = nilsA 0 := fun _ => rfl
   have gS : ∀ (o : O) (h : H) (i : Nat), genOf (o :: h) (i + 1) = genOf h i := fun _ _ _ => genOf_succ
   obtain ⟨hp, hq⟩ : ∃ hp : H, O.vec (refsV 2 d ++ nilsA 0) 1 0 :: .arr cs 1 0 :: rowsO d = hp := ⟨_, rfl⟩
   rw [hq] at hrf
   conv => lhs; rw [hq]
   unfold calmH
   rw [calmFrom0]
   have q0 : genOf hp 0 = some 0 := by rw [← hq]; rfl
   have q1 : genOf hp 1 = some 0 := by rw [← hq]; rfl
   conv => lhs; arg 2; rw [← hq]
   simp only [List.map_cons, List.map_append, List.map_nil, calmO, calmAs, calmA, calmSl, calmAs_app, hrf, hni, calm_rows, q0, q1, Nat.not_lt_zero, if_false, if_true]
  have hoo : ord_toG d.length = ord := by rw [← hord]; rfl
  unfold trim
  rw [hoo, hpk, hcm]
  have hz2 : calmAs 0 (O.vec (refsV 2 d ++ nilsA 0) 1 0 :: .arr cs 1 0 :: rowsO d) (mapAs (place ord) s) = mapAs (place ord) s := by
   exact calmAs_fix (gen_zero (by simp [z0O, z0As, z0A, z0As_app, z0As_refs, z0As_nils, z0O_rows])) _ (z0_map _ hz)
  have hmp : mapAs (place ord) s = mapAs (ren_toG d.length) s := by
   apply mapAs_ext
   rw [hids]
   intro i hi
   simp only [List.mem_cons, List.not_mem_nil, or_false] at hi
   rcases hi with rfl | rfl
   ·rw [p7, ren_toG_7]
   ·rw [pe0, ren_toG_e0 rfl]
  rw [hz2, hmp]
 ·rfl
end Ev
end Go.Proofs.Ytppdfjdfjfoddaa
end

/-!
  Copies of automata, laid in memory by the laws' own functions.
-/
section
set_option linter.unusedSimpArgs false
set_option linter.unusedVariables false
set_option maxRecDepth 8000
set_option pp.maxSteps 6000
set_option maxHeartbeats 4000000
namespace Go.Proofs.Ytppdfjdfjfoddaa
namespace Ev
theorem map_map_vec {b n : Nat} {rs : List (List Int)} (hn : n = rs.length + 1) : ((O.vec (refsV 1 rs ++ nilsA 0) 1 0 :: rowsO rs).map (mapO (back [] 0 n))).map (mapO (back [] b n)) = .vec (refsV (b + 1) rs ++ nilsA 0) 1 0 :: rowsO rs := by
 subst hn
 simp only [List.map_cons, rows_map]
 rw [map_vec (f := back [] 0 (rs.length + 1)) (b := 1) (d := 1) fun i hi => by rw [back_new (by omega), Nat.zero_add]]
 rw [map_vec (f := back [] b (rs.length + 1)) (b := 1) (d := b + 1) fun i hi => by rw [back_new (by omega)]; congr 1; omega]
theorem xvk {R : Type} {L n : Nat} {hq : H} {k : A → H → Option R} (hn : 4 ≤ n) (rs : List (List Int)) (hs : rowsShort rs) (hL : 2 ^ 60 ≤ L) : kCall env (evCall env L n) hq 58 [.d (.ivs rs.length (rowsD rs))] k = k (.sl hq.length 0 0 rs.length) (hq ++ (.vec (refsV (hq.length + 1) rs ++ nilsA 0) 1 0 :: rowsO rs)) := by
 rw [kCall_new rfl xgn (xvo hn rs hs hL), rowsO_len, map_map_vec rfl]
 simp only [mapA, back_new (b := 0) (n := rs.length + 1) (i := 0) (by omega), back_new (b := hq.length) (n := rs.length + 1) (i := 0) (by omega), Nat.add_zero]
theorem xs5 {L n : Nat} (hn : 5 ≤ n) (al : Int) (rs : List (List Int)) (ac : List Bool) (hs : rowsShort rs) (ha : ac.length ≤ 4294967296) (hL : 2 ^ 60 ≤ L) : evCall env L n 18 [.agg [.d (.int .i64 al), .d (.ivs rs.length (rowsD rs)), .d (.ivs ac.length (bools ac))]] [] = some (autA 0 al rs.length ac.length, autO 0 rs ac) := by
 have hrl := hs.1
 unfold autA autO
 obtain ⟨n, rfl⟩ : ∃ m, n = m + 1 := ⟨n - 1, by omega⟩
 rw [xs7]
 simp only [xl0, Try.f18, SLM, simprocAttr]
 simp -implicitDefEqProofs (maxSteps := 2000000) (disch := first | assumption | (refine Shut.mk ?_; kernel_rfl) | omega | (simp only [GT]; done) | (simp only [LN] <;> omega) | fail) only [↓DN, ↓kAsg, ↓kRet, UP, simprocAttr, ↓xvk, ↓xv6, LA, rowsO_len, ↓keep_toG, ↓trim_toG, z0As, z0A, eq_self, is_toG_eq, ren_toG_7, ren_toG_e0]
end Ev
end Go.Proofs.Ytppdfjdfjfoddaa
end

/-!
  Calls over memory of which just some blocks are known.
-/
section
set_option linter.unusedSimpArgs false
set_option linter.unusedVariables false
set_option maxRecDepth 8000
set_option pp.maxSteps 6000
set_option maxHeartbeats 4000000
namespace Go.Proofs.Ytppdfjdfjfoddaa
namespace Ev
section
variable {h : H} {a b c d : O}
theorem end3_get : (h ++ [a, b, c])[h.length + 1 + 1]? = some c := by
 rw [List.getElem?_append_right (by omega), show h.length + 1 + 1 - h.length = 2 by omega]
 rfl
theorem end3_set : (h ++ [a, b, c]).set (h.length + 1 + 1) d = h ++ [a, b, d] := by
 rw [List.set_append_right _ _ (by omega), show h.length + 1 + 1 - h.length = 2 by omega]
 rfl
theorem end3_len : (h ++ [a, b, c]).length = h.length + 3 := by simp
end
def maskOK (n : Nat) (bad : List (Nat × Nat)) (ops : List Oper) : Bool := (List.range n).all fun j => (List.range j).all fun i => ((masks ops []).getD j 0).testBit i || bad.contains (i, j)
theorem clash_by {ops : List Oper} {cs : List Foot} (n : Nat) (bad : List (Nat × Nat)) (hn : cs.length = n) (hm : maskOK n bad ops = true) (hb : ∀ p ∈ bad, clash (cs.getD p.1 {}) (cs.getD p.2 {}) = false) : clashFree ops cs = true := by
 unfold clashFree
 rw [hn]
 unfold maskOK at hm
 simp only [List.all_eq_true] at hm ⊢
 intro j hj i hi
 have := hm j hj i hi
 rcases Bool.or_eq_true_iff.1 this with h1 | h1
 ·rw [h1]; rfl
 ·have h2 := hb (i, j) (by simpa using h1)
  simp only at h2
  rw [h2]
  simp
theorem clash_ro {a b : Foot} (ha : a.ro = true) (hb : b.ro = true) : clash a b = false := by
 unfold clash
 rw [ha, hb]
 rfl
section
variable {L n : Nat} {h : H} {al : Int} {rs : List (List Int)} {ac : List Bool}
theorem wgt3 {a b : O} {cs : List A} (ha : kidsO a = []) (hb : kidsO b = []) : wgt (h ++ [a, b, .box cs]) = wgt h + (idsL cs).length := by
 rw [wgt_app]
 cases a <;> cases b <;> simp_all [wgt, kidsO]
theorem call_to (hn : 5 ≤ n) (hs : rowsShort rs) (ha : ac.length ≤ 4294967296) (hL : 2 ^ 60 ≤ L) : ∀ {R : Type} {k : A → H → Option R}, kCall env (evCall env L n) h 18 [.agg [.d (.int .i64 al), .d (.ivs rs.length (rowsD rs)), .d (.ivs ac.length (bools ac))]] k = k (autA h.length al rs.length ac.length) (h ++ autO h.length rs ac) := by
 intro R k
 have hne : autO 0 rs ac = .vec (refsV 2 rs ++ nilsA 0) 1 0 :: (.arr (bools ac) 1 0 :: rowsO rs) := rfl
 have he := xs5 hn al rs ac hs ha hL
 rw [hne] at he
 rw [kCall_new rfl x5s he]
 have hl : (O.arr (bools ac) 1 0 :: rowsO rs).length + 1 = rs.length + 2 := by simp [rowsO_len]
 rw [hl, ← hne, map_autO rfl]
 have h2 : (autO 0 rs ac).map (mapO (back [] h.length (rs.length + 2))) = autO h.length rs ac := map_autO rfl
 rw [h2]
 rw [map_autA (a := 0) (b := 0) (back_new (by omega)) (back_new (by omega)), map_autA (a := 0) (b := h.length) (back_new (by omega)) (back_new (by omega))]
theorem eq_mem {args : List A} (hn : 6 ≤ n) (hs : rowsShort rs) (ha : ac.length ≤ 4294967296) (hr : rdAs h args = some [autD al rs ac, autD al rs ac]) (hw : (idsL args).length + wgt h ≤ 1099511627776) (hL : 2 ^ 60 ≤ L) : ∀ {R : Type} {k : A → H → Option R}, kCall env (evCall env L n) h 21 args k = k (.d (.bool true)) h := by
 intro R k
 rw [kCall_read x6 hr hw]
 exact xjc hn al rs ac hs ha hL
theorem rd2 {a b x y : A} (ha : rdA h a = some x) (hb : rdA h b = some y) : rdAs h [a, b] = some [x, y] := by
 simp only [rdAs, ha, hb]
end
end Ev
end Go.Proofs.Ytppdfjdfjfoddaa
end

/-!
  Words: what the functions on words give.
-/
section
set_option linter.unusedSimpArgs false
set_option linter.unusedVariables false
set_option maxRecDepth 8000
namespace Go.Proofs.Ytppdfjdfjfoddaa
namespace Ev
def byteI (l : Int) : UInt8 := UInt8.ofNat (97 + l).toNat
theorem wrap_byte {l : Int} (h0 : 0 ≤ l) (h : l ≤ 5) : IntKind.u8.wrap (97 + l) = ((byteI l).toNat : Int) := by
 rw [u8_id (by omega) (by omega)]
 unfold byteI
 rw [UInt8.toNat_ofNat']
 omega
theorem xr2 {L n : Nat} (hn : 1 ≤ n) (l : Int) (h0 : 0 ≤ l) (h : l ≤ 5) : evCall env L n 50 [.d (.int .i64 l)] [] = some (.d (.int .u8 (byteI l).toNat), []) := by
 have e : IntKind.u8.wrap (97 + l) = ((byteI l).toNat : Int) := wrap_byte h0 h
 obtain ⟨n, rfl⟩ : ∃ m, n = m + 1 := ⟨n - 1, by omega⟩
 rw [xrj]
 simp only [xk0, Try.f50, SLM, simprocAttr]
 simp -implicitDefEqProofs (maxSteps := 2000000) (disch := first | assumption | (refine Shut.mk ?_; kernel_rfl) | omega | (simp only [GT]; done) | (simp only [LN] <;> omega) | fail) only [↓DN, ↓kAsg, ↓kRet, UP, simprocAttr, ↓conv_int_uint8, e]
theorem xbq {R : Type} {L n : Nat} {hq : H} {k : A → H → Option R} (hn : 1 ≤ n) (l : Int) (h0 : 0 ≤ l) (h : l ≤ 5) : kCall env (evCall env L n) hq 50 [.d (.int .i64 l)] k = k (.d (.int .u8 (byteI l).toNat)) hq :=
 kCall_still rfl (xr2 hn l h0 h) rfl (.inl rfl)
end Ev
end Go.Proofs.Ytppdfjdfjfoddaa
end

/-!
  The random source, and words that are drawn.
-/
section
set_option linter.unusedSimpArgs false
set_option linter.unusedVariables false
set_option maxRecDepth 8000
set_option pp.maxSteps 6000
set_option maxHeartbeats 4000000
namespace Go.Proofs.Ytppdfjdfjfoddaa
namespace Ev
theorem getD_mem {α : Type} {l : List α} {k : Nat} {d : α} (h : k < l.length) : l.getD k d ∈ l := by
 rw [List.getD_eq_getElem?_getD, List.getElem?_eq_getElem h]; exact List.getElem_mem h
def strsL (l : List (List UInt8)) : List D := l.map .str
theorem strsL_length {l : List (List UInt8)} : (strsL l).length = l.length := by simp [strsL]
theorem strsL_head {l : List (List UInt8)} {k : Nat} (h : k < l.length) : (((strsL l).drop k).map A.d).head? = some (.d (.str (l.getD k []))) := by
 rw [List.head?_map, List.head?_drop, strsL, List.getElem?_map, List.getD_eq_getElem?_getD, List.getElem?_eq_getElem h]
 rfl
end Ev
end Go.Proofs.Ytppdfjdfjfoddaa
end
