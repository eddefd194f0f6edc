/-
  Memory of some shapes at the end of a round. Written by a program.
-/
import Derived.Test.YtppdfjdfjfoddaaGc1
set_option linter.unusedSimpArgs false
set_option linter.unusedVariables false
set_option maxRecDepth 4000
namespace Go.Proofs.Ytppdfjdfjfoddaa
namespace Ev
def ord_wrA (n : Nat) : List Nat := [0, 4, n + 9, 2, 3, 5, 6] ++ (List.range' 7 n ++ [])
def ren_wrA (n i : Nat) : Option Nat := if i = 0 then some 0 else if i = 4 then some 1 else if i = n + 9 then some 2 else none
theorem ren_wrA_4 {n : Nat} : ren_wrA n 4 = some (1) := by unfold ren_wrA; repeat (first | rfl | rw [if_pos rfl] | rw [if_neg (by omega)])
theorem ren_wrA_e2 {n k : Nat} (h : k = n + 9) : ren_wrA n k = some (2) := by subst h; unfold ren_wrA; repeat (first | rfl | rw [if_pos rfl] | rw [if_neg (by omega)])
def is_wrA1 (n : Nat) (ids : List Nat) : Bool := decide (ids = [4, n + 9])
theorem is_wrA1_eq {n : Nat} {ke2 : Nat} (he2 : ke2 = n + 9) : is_wrA1 n [4, ke2] = true := by subst he2; simp [is_wrA1]
theorem keep_wrA1 {y1 y2 x0 x1 : D} {o1 : O} {k z : Nat} {cs : List D} {d : List (List Int)} (hl : d.length ≤ 4294967296) {ids : List Nat} : keepOrd 1 (.box [.d y1, .d y2] :: o1 :: .arr [] 0 0 :: .arr [] 0 0 :: .box [.d x0, .sl 2 0 0 0, .sl 3 0 0 0] :: .vec (refsV 7 d ++ nilsA 0) 1 0 :: .arr cs 1 0 :: (rowsO d ++ [.arr [] 0 0, .arr [] 0 0, .box [.d x1, .sl 5 0 0 k, .sl 6 0 0 z]])) ids = if is_wrA1 d.length ids = true then ord_wrA d.length else keepO 1 (.box [.d y1, .d y2] :: o1 :: .arr [] 0 0 :: .arr [] 0 0 :: .box [.d x0, .sl 2 0 0 0, .sl 3 0 0 0] :: .vec (refsV 7 d ++ nilsA 0) 1 0 :: .arr cs 1 0 :: (rowsO d ++ [.arr [] 0 0, .arr [] 0 0, .box [.d x1, .sl 5 0 0 k, .sl 6 0 0 z]])) ids := by
 split
 ·rename_i hc
  have hc : ids = [4, d.length + 9] := by simpa [is_wrA1] using hc
  subst hc
  rw [keep1_eq]
  obtain ⟨h, hh⟩ : ∃ h : H, O.box [.d y1, .d y2] :: o1 :: .arr [] 0 0 :: .arr [] 0 0 :: .box [.d x0, .sl 2 0 0 0, .sl 3 0 0 0] :: .vec (refsV 7 d ++ nilsA 0) 1 0 :: .arr cs 1 0 :: (rowsO d ++ [.arr [] 0 0, .arr [] 0 0, .box [.d x1, .sl 5 0 0 k, .sl 6 0 0 z]]) = h := ⟨_, rfl⟩
  conv => lhs; rw [hh]
  have g0 : h[0]? = some (.box [.d y1, .d y2]) := by rw [← hh]; rfl
  have g2 : h[2]? = some (.arr [] 0 0) := by rw [← hh]; rfl
  have g3 : h[3]? = some (.arr [] 0 0) := by rw [← hh]; rfl
  have g4 : h[4]? = some (.box [.d x0, .sl 2 0 0 0, .sl 3 0 0 0]) := by rw [← hh]; rfl
  have g5 : h[5]? = some (.vec (refsV 7 d ++ nilsA 0) 1 0) := by rw [← hh]; rfl
  have g6 : h[6]? = some (.arr cs 1 0) := by rw [← hh]; rfl
  have gr : ∀ (i : Nat) (r : List Int), d[i]? = some r → h[7 + i]? = some (.arr (ints r) 1 0) := by
   intro i r hr
   rw [← hh, show 7 + i = i + 1 + 1 + 1 + 1 + 1 + 1 + 1 by omega]
   simp only [List.getElem?_cons_succ]
   exact rows_in hr
  have ge0 : h[d.length + 7]? = some (.arr [] 0 0) := by
   rw [← hh, show d.length + 7 = d.length + 1 + 1 + 1 + 1 + 1 + 1 + 1 by omega]
   simp only [List.getElem?_cons_succ]
   rw [List.getElem?_append_right (by rw [rowsO_len]; omega), rowsO_len, show d.length - d.length = 0 by omega]
   rfl
  have ge1 : h[d.length + 8]? = some (.arr [] 0 0) := by
   rw [← hh, show d.length + 8 = d.length + 1 + 1 + 1 + 1 + 1 + 1 + 1 + 1 by omega]
   simp only [List.getElem?_cons_succ]
   rw [List.getElem?_append_right (by rw [rowsO_len]; omega), rowsO_len, show d.length + 1 - d.length = 1 by omega]
   rfl
  have ge2 : h[d.length + 9]? = some (.box [.d x1, .sl 5 0 0 k, .sl 6 0 0 z]) := by
   rw [← hh, show d.length + 9 = d.length + 2 + 1 + 1 + 1 + 1 + 1 + 1 + 1 by omega]
   simp only [List.getElem?_cons_succ]
   rw [List.getElem?_append_right (by rw [rowsO_len]; omega), rowsO_len, show d.length + 2 - d.length = 2 by omega]
   rfl
  have k0 : kids h (0) = [] := by simp [kids, g0, idsL, idsA]
  have k4 : kids h (4) = [2, 3] := by simp [kids, g4, idsL, idsA]
  have ke2 : kids h (d.length + 9) = [5, 6] := by simp [kids, ge2, idsL, idsA]
  have k2 : kids h (2) = [] := kids_row g2
  have k3 : kids h (3) = [] := kids_row g3
  have k5 : kids h (5) = List.range' 7 d.length := by simp [kids, g5, idsL_app, refsV_ids, idsL_nils, idsL, idsA]
  have k6 : kids h (6) = [] := kids_row g6
  have leaf : ∀ i ∈ List.range' 7 d.length, ∃ r : List Int, h[i]? = some (.arr (ints r) 1 0) := by
   intro i hi
   rw [List.mem_range'_1] at hi
   obtain ⟨j, rfl⟩ : ∃ j, i = 7 + j := ⟨i - 7, by omega⟩
   exact ⟨d[j]'(by omega), gr j _ (List.getElem?_eq_getElem (by omega))⟩
  have hr : reach (fuelR + 1) h [0, 4, d.length + 9] [] = [0, 4, d.length + 9, 2, 3, 5] ++ ([6] ++ (List.range' 7 d.length ++ [])) := by
   refine reach_bfs ?_ ?_ ?_ ?_ ?_ ?_
   ·simp [k0, k4, ke2, k2, k3, k5]
   ·intro i hi
    rcases List.mem_append.1 hi with h1 | h1
    ·simp only [List.mem_cons, List.not_mem_nil, or_false] at h1
     rcases h1 with rfl
     ·exact k6
    ·rcases List.mem_append.1 h1 with h2 | h2
     ·obtain ⟨r, hr⟩ := leaf i h2; exact kids_row hr
     ·cases h2
   ·intro q hq
    simp only [List.length_cons, List.length_nil] at hq
    have : q = 0 ∨ q = 1 ∨ q = 2 ∨ q = 3 ∨ q = 4 ∨ q = 5 := by omega
    rcases this with rfl | rfl | rfl | rfl | rfl | rfl <;> simp [k0, k4, ke2, k2, k3, k5]
   ·rw [← List.append_assoc, ← List.append_assoc]
    rw [List.append_nil]
    exact nodup_front (by simp) (by intro i hi; simp at hi; omega)
   ·intro i hi
    simp only [List.cons_append, List.nil_append, List.mem_cons, List.mem_append, List.not_mem_nil, or_false] at hi
    rcases hi with rfl | rfl | rfl | rfl | rfl | rfl | rfl | hi
    ·exact ⟨_, g0, by simp⟩
    ·exact ⟨_, g4, by simp⟩
    ·exact ⟨_, ge2, by simp⟩
    ·exact ⟨_, g2, by simp⟩
    ·exact ⟨_, g3, by simp⟩
    ·exact ⟨_, g5, by simp⟩
    ·exact ⟨_, g6, by simp⟩
    ·obtain ⟨r, hr⟩ := leaf i hi; exact ⟨_, hr, by simp⟩
   ·simp only [List.length_append, List.length_cons, List.length_nil, List.length_range', fuelR]; omega
  generalize hord : [0, 4, d.length + 9, 2, 3, 5] ++ ([6] ++ (List.range' 7 d.length ++ [])) = ord at hr
  have pk : ∀ i j, ord[j]? = some i → place ord i = some j := fun i j h1 => place_at (by rw [← hr]; exact reach_nodup (fuelR + 1) h _ [] (by simp)) h1
  have p0 := pk (0) 0 (by rw [← hord]; rfl)
  have p4 := pk (4) 1 (by rw [← hord]; rfl)
  have pe2 := pk (d.length + 9) 2 (by rw [← hord]; rfl)
  have p2 := pk (2) 3 (by rw [← hord]; rfl)
  have p3 := pk (3) 4 (by rw [← hord]; rfl)
  have p5 := pk (5) 5 (by rw [← hord]; rfl)
  have p6 := pk (6) 6 (by rw [← hord]; rfl)
  have pr : ∀ i, i < d.length → place ord (7 + i) = some (7 + i) := fun i hi => pk _ _ (by
   rw [← hord, show 7 + i = i + 1 + 1 + 1 + 1 + 1 + 1 + 1 by omega]
   simp only [List.cons_append, List.nil_append, List.getElem?_cons_succ]
   first | rw [List.getElem?_append_left (by simpa using hi), List.getElem?_range' hi] | rw [List.append_nil, List.getElem?_range' hi]
   simp <;> omega)
  have hpk : pack h ord = .box [.d y1, .d y2] :: .box [.d x0, .sl 3 0 0 0, .sl 4 0 0 0] :: .box [.d x1, .sl 5 0 0 k, .sl 6 0 0 z] :: .arr [] 0 0 :: .arr [] 0 0 :: .vec (refsV 7 d ++ nilsA 0) 1 0 :: .arr cs 1 0 :: rowsO d := by
   have e1 : pack h ord = ([0, 4, d.length + 9, 2, 3, 5, 6] : List Nat).map (fun i => mapO (place ord) (h.getD i default)) ++ ((List.range' 7 d.length).map (fun i => mapO (place ord) (h.getD i default)) ++ ([] : List Nat).map (fun i => mapO (place ord) (h.getD i default))) := by
    unfold pack
    conv => lhs; arg 2; rw [← hord]
    rw [← List.map_append, ← List.map_append]
    rfl
   have hrf : mapAs (place ord) (refsV 7 d) = refsV 7 d := refsV_map (c := 0) pr
   have hni : mapAs (place ord) (nilsA 0) = nilsA 0 := rfl
   rw [e1, map_rows gr]
   simp only [List.map_cons, List.map_nil, List.getD_eq_getElem?_getD, g0, g4, ge2, g2, g3, g5, g6, Option.getD_some]
   simp only [mapO, mapAs, mapA, mapAs_app, hrf, hni, p0, p4, pe2, p2, p3, p5, p6, List.cons_append, List.nil_append, List.append_nil]
  have hgr : ∀ i, i < d.length → genOf (O.box [.d y1, .d y2] :: .box [.d x0, .sl 3 0 0 0, .sl 4 0 0 0] :: .box [.d x1, .sl 5 0 0 k, .sl 6 0 0 z] :: .arr [] 0 0 :: .arr [] 0 0 :: .vec (refsV 7 d ++ nilsA 0) 1 0 :: .arr cs 1 0 :: rowsO d) (7 + i) = some 0 := by
   intro i hi
   rw [show 7 + i = i + 1 + 1 + 1 + 1 + 1 + 1 + 1 by omega]
   simp only [genOf_succ]
   have := gen_rows (p := []) hi; rwa [List.append_nil] at this
  have hcm : calmH 0 (O.box [.d y1, .d y2] :: .box [.d x0, .sl 3 0 0 0, .sl 4 0 0 0] :: .box [.d x1, .sl 5 0 0 k, .sl 6 0 0 z] :: .arr [] 0 0 :: .arr [] 0 0 :: .vec (refsV 7 d ++ nilsA 0) 1 0 :: .arr cs 1 0 :: rowsO d) = .box [.d y1, .d y2] :: .box [.d x0, .sl 3 0 0 0, .sl 4 0 0 0] :: .box [.d x1, .sl 5 0 0 k, .sl 6 0 0 z] :: .arr [] 0 0 :: .arr [] 0 0 :: .vec (refsV 7 d ++ nilsA 0) 1 0 :: .arr cs 1 0 :: rowsO d := by
   have hrf : calmAs 0 (O.box [.d y1, .d y2] :: .box [.d x0, .sl 3 0 0 0, .sl 4 0 0 0] :: .box [.d x1, .sl 5 0 0 k, .sl 6 0 0 z] :: .arr [] 0 0 :: .arr [] 0 0 :: .vec (refsV 7 d ++ nilsA 0) 1 0 :: .arr cs 1 0 :: rowsO d) (refsV 7 d) = refsV 7 d := calm_refs hgr
   have hni : ∀ h : H, calmAs 0 h (nilsA 0) = nilsA 0 := fun _ => rfl
   have gS : ∀ (o : O) (h : H) (i : Nat), genOf (o :: h) (i + 1) = genOf h i := fun _ _ _ => genOf_succ
   obtain ⟨hp, hq⟩ : ∃ hp : H, O.box [.d y1, .d y2] :: .box [.d x0, .sl 3 0 0 0, .sl 4 0 0 0] :: .box [.d x1, .sl 5 0 0 k, .sl 6 0 0 z] :: .arr [] 0 0 :: .arr [] 0 0 :: .vec (refsV 7 d ++ nilsA 0) 1 0 :: .arr cs 1 0 :: rowsO d = hp := ⟨_, rfl⟩
   rw [hq] at hrf
   conv => lhs; rw [hq]
   unfold calmH
   rw [calmFrom0]
   have q3 : genOf hp 3 = some 0 := by rw [← hq]; rfl
   have q4 : genOf hp 4 = some 0 := by rw [← hq]; rfl
   have q5 : genOf hp 5 = some 0 := by rw [← hq]; rfl
   have q6 : genOf hp 6 = some 0 := by rw [← hq]; rfl
   conv => lhs; arg 2; rw [← hq]
   simp only [List.map_cons, List.map_append, List.map_nil, calmO, calmAs, calmA, calmSl, calmAs_app, hrf, hni, calm_rows, q3, q4, q5, q6, Nat.not_lt_zero, if_false, if_true]
  rw [hr, ← hord]
  rfl
 ·rfl
theorem trim_wrA1 {y1 y2 x0 x1 : D} {o1 : O} {k z : Nat} {cs : List D} {d : List (List Int)} (hl : d.length ≤ 4294967296) {s : List A} : trim 1 (.box [.d y1, .d y2] :: o1 :: .arr [] 0 0 :: .arr [] 0 0 :: .box [.d x0, .sl 2 0 0 0, .sl 3 0 0 0] :: .vec (refsV 7 d ++ nilsA 0) 1 0 :: .arr cs 1 0 :: (rowsO d ++ [.arr [] 0 0, .arr [] 0 0, .box [.d x1, .sl 5 0 0 k, .sl 6 0 0 z]])) (ord_wrA d.length) s = if is_wrA1 d.length (idsL s) = true ∧ z0As s = true then (mapAs (ren_wrA d.length) s, .box [.d y1, .d y2] :: .box [.d x0, .sl 3 0 0 0, .sl 4 0 0 0] :: .box [.d x1, .sl 5 0 0 k, .sl 6 0 0 z] :: .arr [] 0 0 :: .arr [] 0 0 :: .vec (refsV 7 d ++ nilsA 0) 1 0 :: .arr cs 1 0 :: rowsO d) else trimO 1 (.box [.d y1, .d y2] :: o1 :: .arr [] 0 0 :: .arr [] 0 0 :: .box [.d x0, .sl 2 0 0 0, .sl 3 0 0 0] :: .vec (refsV 7 d ++ nilsA 0) 1 0 :: .arr cs 1 0 :: (rowsO d ++ [.arr [] 0 0, .arr [] 0 0, .box [.d x1, .sl 5 0 0 k, .sl 6 0 0 z]])) (ord_wrA d.length) s := by
 split
 ·rename_i hc
  obtain ⟨hids, hz⟩ := hc
  rw [show ord_wrA d.length = 0 :: (ord_wrA d.length).tail from rfl, trim_01, show (0 :: (ord_wrA d.length).tail) = ord_wrA d.length from rfl]
  have hids : idsL s = [4, d.length + 9] := by simpa [is_wrA1] using hids
  obtain ⟨h, hh⟩ : ∃ h : H, O.box [.d y1, .d y2] :: o1 :: .arr [] 0 0 :: .arr [] 0 0 :: .box [.d x0, .sl 2 0 0 0, .sl 3 0 0 0] :: .vec (refsV 7 d ++ nilsA 0) 1 0 :: .arr cs 1 0 :: (rowsO d ++ [.arr [] 0 0, .arr [] 0 0, .box [.d x1, .sl 5 0 0 k, .sl 6 0 0 z]]) = h := ⟨_, rfl⟩
  conv => lhs; rw [hh]
  have g0 : h[0]? = some (.box [.d y1, .d y2]) := by rw [← hh]; rfl
  have g2 : h[2]? = some (.arr [] 0 0) := by rw [← hh]; rfl
  have g3 : h[3]? = some (.arr [] 0 0) := by rw [← hh]; rfl
  have g4 : h[4]? = some (.box [.d x0, .sl 2 0 0 0, .sl 3 0 0 0]) := by rw [← hh]; rfl
  have g5 : h[5]? = some (.vec (refsV 7 d ++ nilsA 0) 1 0) := by rw [← hh]; rfl
  have g6 : h[6]? = some (.arr cs 1 0) := by rw [← hh]; rfl
  have gr : ∀ (i : Nat) (r : List Int), d[i]? = some r → h[7 + i]? = some (.arr (ints r) 1 0) := by
   intro i r hr
   rw [← hh, show 7 + i = i + 1 + 1 + 1 + 1 + 1 + 1 + 1 by omega]
   simp only [List.getElem?_cons_succ]
   exact rows_in hr
  have ge0 : h[d.length + 7]? = some (.arr [] 0 0) := by
   rw [← hh, show d.length + 7 = d.length + 1 + 1 + 1 + 1 + 1 + 1 + 1 by omega]
   simp only [List.getElem?_cons_succ]
   rw [List.getElem?_append_right (by rw [rowsO_len]; omega), rowsO_len, show d.length - d.length = 0 by omega]
   rfl
  have ge1 : h[d.length + 8]? = some (.arr [] 0 0) := by
   rw [← hh, show d.length + 8 = d.length + 1 + 1 + 1 + 1 + 1 + 1 + 1 + 1 by omega]
   simp only [List.getElem?_cons_succ]
   rw [List.getElem?_append_right (by rw [rowsO_len]; omega), rowsO_len, show d.length + 1 - d.length = 1 by omega]
   rfl
  have ge2 : h[d.length + 9]? = some (.box [.d x1, .sl 5 0 0 k, .sl 6 0 0 z]) := by
   rw [← hh, show d.length + 9 = d.length + 2 + 1 + 1 + 1 + 1 + 1 + 1 + 1 by omega]
   simp only [List.getElem?_cons_succ]
   rw [List.getElem?_append_right (by rw [rowsO_len]; omega), rowsO_len, show d.length + 2 - d.length = 2 by omega]
   rfl
  have k0 : kids h (0) = [] := by simp [kids, g0, idsL, idsA]
  have k4 : kids h (4) = [2, 3] := by simp [kids, g4, idsL, idsA]
  have ke2 : kids h (d.length + 9) = [5, 6] := by simp [kids, ge2, idsL, idsA]
  have k2 : kids h (2) = [] := kids_row g2
  have k3 : kids h (3) = [] := kids_row g3
  have k5 : kids h (5) = List.range' 7 d.length := by simp [kids, g5, idsL_app, refsV_ids, idsL_nils, idsL, idsA]
  have k6 : kids h (6) = [] := kids_row g6
  have leaf : ∀ i ∈ List.range' 7 d.length, ∃ r : List Int, h[i]? = some (.arr (ints r) 1 0) := by
   intro i hi
   rw [List.mem_range'_1] at hi
   obtain ⟨j, rfl⟩ : ∃ j, i = 7 + j := ⟨i - 7, by omega⟩
   exact ⟨d[j]'(by omega), gr j _ (List.getElem?_eq_getElem (by omega))⟩
  have hr : reach fuelR h [0, 4, d.length + 9] [] = [0, 4, d.length + 9, 2, 3, 5] ++ ([6] ++ (List.range' 7 d.length ++ [])) := by
   refine reach_bfs ?_ ?_ ?_ ?_ ?_ ?_
   ·simp [k0, k4, ke2, k2, k3, k5]
   ·intro i hi
    rcases List.mem_append.1 hi with h1 | h1
    ·simp only [List.mem_cons, List.not_mem_nil, or_false] at h1
     rcases h1 with rfl
     ·exact k6
    ·rcases List.mem_append.1 h1 with h2 | h2
     ·obtain ⟨r, hr⟩ := leaf i h2; exact kids_row hr
     ·cases h2
   ·intro q hq
    simp only [List.length_cons, List.length_nil] at hq
    have : q = 0 ∨ q = 1 ∨ q = 2 ∨ q = 3 ∨ q = 4 ∨ q = 5 := by omega
    rcases this with rfl | rfl | rfl | rfl | rfl | rfl <;> simp [k0, k4, ke2, k2, k3, k5]
   ·rw [← List.append_assoc, ← List.append_assoc]
    rw [List.append_nil]
    exact nodup_front (by simp) (by intro i hi; simp at hi; omega)
   ·intro i hi
    simp only [List.cons_append, List.nil_append, List.mem_cons, List.mem_append, List.not_mem_nil, or_false] at hi
    rcases hi with rfl | rfl | rfl | rfl | rfl | rfl | rfl | hi
    ·exact ⟨_, g0, by simp⟩
    ·exact ⟨_, g4, by simp⟩
    ·exact ⟨_, ge2, by simp⟩
    ·exact ⟨_, g2, by simp⟩
    ·exact ⟨_, g3, by simp⟩
    ·exact ⟨_, g5, by simp⟩
    ·exact ⟨_, g6, by simp⟩
    ·obtain ⟨r, hr⟩ := leaf i hi; exact ⟨_, hr, by simp⟩
   ·simp only [List.length_append, List.length_cons, List.length_nil, List.length_range', fuelR]; omega
  generalize hord : [0, 4, d.length + 9, 2, 3, 5] ++ ([6] ++ (List.range' 7 d.length ++ [])) = ord at hr
  have pk : ∀ i j, ord[j]? = some i → place ord i = some j := fun i j h1 => place_at (by rw [← hr]; exact reach_nodup fuelR h _ [] (by simp)) h1
  have p0 := pk (0) 0 (by rw [← hord]; rfl)
  have p4 := pk (4) 1 (by rw [← hord]; rfl)
  have pe2 := pk (d.length + 9) 2 (by rw [← hord]; rfl)
  have p2 := pk (2) 3 (by rw [← hord]; rfl)
  have p3 := pk (3) 4 (by rw [← hord]; rfl)
  have p5 := pk (5) 5 (by rw [← hord]; rfl)
  have p6 := pk (6) 6 (by rw [← hord]; rfl)
  have pr : ∀ i, i < d.length → place ord (7 + i) = some (7 + i) := fun i hi => pk _ _ (by
   rw [← hord, show 7 + i = i + 1 + 1 + 1 + 1 + 1 + 1 + 1 by omega]
   simp only [List.cons_append, List.nil_append, List.getElem?_cons_succ]
   first | rw [List.getElem?_append_left (by simpa using hi), List.getElem?_range' hi] | rw [List.append_nil, List.getElem?_range' hi]
   simp <;> omega)
  have hpk : pack h ord = .box [.d y1, .d y2] :: .box [.d x0, .sl 3 0 0 0, .sl 4 0 0 0] :: .box [.d x1, .sl 5 0 0 k, .sl 6 0 0 z] :: .arr [] 0 0 :: .arr [] 0 0 :: .vec (refsV 7 d ++ nilsA 0) 1 0 :: .arr cs 1 0 :: rowsO d := by
   have e1 : pack h ord = ([0, 4, d.length + 9, 2, 3, 5, 6] : List Nat).map (fun i => mapO (place ord) (h.getD i default)) ++ ((List.range' 7 d.length).map (fun i => mapO (place ord) (h.getD i default)) ++ ([] : List Nat).map (fun i => mapO (place ord) (h.getD i default))) := by
    unfold pack
    conv => lhs; arg 2; rw [← hord]
    rw [← List.map_append, ← List.map_append]
    rfl
   have hrf : mapAs (place ord) (refsV 7 d) = refsV 7 d := refsV_map (c := 0) pr
   have hni : mapAs (place ord) (nilsA 0) = nilsA 0 := rfl
   rw [e1, map_rows gr]
   simp only [List.map_cons, List.map_nil, List.getD_eq_getElem?_getD, g0, g4, ge2, g2, g3, g5, g6, Option.getD_some]
   simp only [mapO, mapAs, mapA, mapAs_app, hrf, hni, p0, p4, pe2, p2, p3, p5, p6, List.cons_append, List.nil_append, List.append_nil]
  have hgr : ∀ i, i < d.length → genOf (O.box [.d y1, .d y2] :: .box [.d x0, .sl 3 0 0 0, .sl 4 0 0 0] :: .box [.d x1, .sl 5 0 0 k, .sl 6 0 0 z] :: .arr [] 0 0 :: .arr [] 0 0 :: .vec (refsV 7 d ++ nilsA 0) 1 0 :: .arr cs 1 0 :: rowsO d) (7 + i) = some 0 := by
   intro i hi
   rw [show 7 + i = i + 1 + 1 + 1 + 1 + 1 + 1 + 1 by omega]
   simp only [genOf_succ]
   have := gen_rows (p := []) hi; rwa [List.append_nil] at this
  have hcm : calmH 0 (O.box [.d y1, .d y2] :: .box [.d x0, .sl 3 0 0 0, .sl 4 0 0 0] :: .box [.d x1, .sl 5 0 0 k, .sl 6 0 0 z] :: .arr [] 0 0 :: .arr [] 0 0 :: .vec (refsV 7 d ++ nilsA 0) 1 0 :: .arr cs 1 0 :: rowsO d) = .box [.d y1, .d y2] :: .box [.d x0, .sl 3 0 0 0, .sl 4 0 0 0] :: .box [.d x1, .sl 5 0 0 k, .sl 6 0 0 z] :: .arr [] 0 0 :: .arr [] 0 0 :: .vec (refsV 7 d ++ nilsA 0) 1 0 :: .arr cs 1 0 :: rowsO d := by
   have hrf : calmAs 0 (O.box [.d y1, .d y2] :: .box [.d x0, .sl 3 0 0 0, .sl 4 0 0 0] :: .box [.d x1, .sl 5 0 0 k, .sl 6 0 0 z] :: .arr [] 0 0 :: .arr [] 0 0 :: .vec (refsV 7 d ++ nilsA 0) 1 0 :: .arr cs 1 0 :: rowsO d) (refsV 7 d) = refsV 7 d := calm_refs hgr
   have hni : ∀ h : H, calmAs 0 h (nilsA 0) = nilsA 0 := fun _ => rfl
   have gS : ∀ (o : O) (h : H) (i : Nat), genOf (o :: h) (i + 1) = genOf h i := fun _ _ _ => genOf_succ
   obtain ⟨hp, hq⟩ : ∃ hp : H, O.box [.d y1, .d y2] :: .box [.d x0, .sl 3 0 0 0, .sl 4 0 0 0] :: .box [.d x1, .sl 5 0 0 k, .sl 6 0 0 z] :: .arr [] 0 0 :: .arr [] 0 0 :: .vec (refsV 7 d ++ nilsA 0) 1 0 :: .arr cs 1 0 :: rowsO d = hp := ⟨_, rfl⟩
   rw [hq] at hrf
   conv => lhs; rw [hq]
   unfold calmH
   rw [calmFrom0]
   have q3 : genOf hp 3 = some 0 := by rw [← hq]; rfl
   have q4 : genOf hp 4 = some 0 := by rw [← hq]; rfl
   have q5 : genOf hp 5 = some 0 := by rw [← hq]; rfl
   have q6 : genOf hp 6 = some 0 := by rw [← hq]; rfl
   conv => lhs; arg 2; rw [← hq]
   simp only [List.map_cons, List.map_append, List.map_nil, calmO, calmAs, calmA, calmSl, calmAs_app, hrf, hni, calm_rows, q3, q4, q5, q6, Nat.not_lt_zero, if_false, if_true]
  have hoo : ord_wrA d.length = ord := by rw [← hord]; rfl
  unfold trim
  rw [hoo, hpk, hcm]
  have hz2 : calmAs 0 (O.box [.d y1, .d y2] :: .box [.d x0, .sl 3 0 0 0, .sl 4 0 0 0] :: .box [.d x1, .sl 5 0 0 k, .sl 6 0 0 z] :: .arr [] 0 0 :: .arr [] 0 0 :: .vec (refsV 7 d ++ nilsA 0) 1 0 :: .arr cs 1 0 :: rowsO d) (mapAs (place ord) s) = mapAs (place ord) s := by
   exact calmAs_fix (gen_zero (by simp [z0O, z0As, z0A, z0As_app, z0As_refs, z0As_nils, z0O_rows])) _ (z0_map _ hz)
  have hmp : mapAs (place ord) s = mapAs (ren_wrA d.length) s := by
   apply mapAs_ext
   rw [hids]
   intro i hi
   simp only [List.mem_cons, List.not_mem_nil, or_false] at hi
   rcases hi with rfl | rfl
   ·rw [p4, ren_wrA_4]
   ·rw [pe2, ren_wrA_e2 rfl]
  rw [hz2, hmp]
 ·rfl
theorem gc_wrA1 {m : List Bool} {s : List A} {y1 y2 x0 x1 : D} {o1 : O} {k z : Nat} {cs : List D} {d : List (List Int)} (hl : d.length ≤ 4294967296) : gc 1 m s (.box [.d y1, .d y2] :: o1 :: .arr [] 0 0 :: .arr [] 0 0 :: .box [.d x0, .sl 2 0 0 0, .sl 3 0 0 0] :: .vec (refsV 7 d ++ nilsA 0) 1 0 :: .arr cs 1 0 :: (rowsO d ++ [.arr [] 0 0, .arr [] 0 0, .box [.d x1, .sl 5 0 0 k, .sl 6 0 0 z]])) = match box (tidy m s) with
  | .mk s1 => if is_wrA1 d.length (idsL s1) = true ∧ z0As s1 = true then (mapAs (ren_wrA d.length) s1, .box [.d y1, .d y2] :: .box [.d x0, .sl 3 0 0 0, .sl 4 0 0 0] :: .box [.d x1, .sl 5 0 0 k, .sl 6 0 0 z] :: .arr [] 0 0 :: .arr [] 0 0 :: .vec (refsV 7 d ++ nilsA 0) 1 0 :: .arr cs 1 0 :: rowsO d) else gcO 1 m s (.box [.d y1, .d y2] :: o1 :: .arr [] 0 0 :: .arr [] 0 0 :: .box [.d x0, .sl 2 0 0 0, .sl 3 0 0 0] :: .vec (refsV 7 d ++ nilsA 0) 1 0 :: .arr cs 1 0 :: (rowsO d ++ [.arr [] 0 0, .arr [] 0 0, .box [.d x1, .sl 5 0 0 k, .sl 6 0 0 z]]))
  | .no => ([], []) := by
 simp only [box]
 split
 ·rename_i hid
  unfold gc
  rw [keep_wrA1 hl, if_pos hid.1, trim_wrA1 hl, if_pos hid]
 ·rfl
theorem gc_wrE10 {m : List Bool} {s : List A} {y1 y2 x0 x1 : D} {k z : Nat} {r : List Int} {cs : List D} {d : List (List Int)} {p : H} (hl : d.length ≤ 4294967296) : gc 1 m s (.box [.d y1, .d y2] :: .box [.d x0, .sl 3 0 0 0, .sl 4 0 0 0] :: .box [.d x1, .sl 5 1 0 k, .sl 6 1 0 z] :: .arr [] 0 0 :: .arr [] 0 0 :: .vec (refsV 7 d ++ [.sl (d.length + 7) 1 0 r.length]) 1 1 :: .arr cs 1 1 :: (rowsO d ++ .arr (ints r) 1 1 :: p)) = match box (tidy m s) with
  | .mk s1 => if idsL s1 = [1, 2] then (calmAs 0 (.box [.d y1, .d y2] :: .box [.d x0, .sl 3 0 0 0, .sl 4 0 0 0] :: .box [.d x1, .sl 5 1 0 k, .sl 6 1 0 z] :: .arr [] 0 0 :: .arr [] 0 0 :: .vec (refsV 7 d ++ [.sl (d.length + 7) 1 0 r.length]) 1 1 :: .arr cs 1 1 :: (rowsO d ++ [.arr (ints r) 1 1])) (s1), .box [.d y1, .d y2] :: .box [.d x0, .sl 3 0 0 0, .sl 4 0 0 0] :: .box [.d x1, .sl 5 0 0 k, .sl 6 0 0 z] :: .arr [] 0 0 :: .arr [] 0 0 :: .vec (refsV 7 d ++ [.sl (d.length + 7) 0 0 r.length]) 1 0 :: .arr cs 1 0 :: (rowsO d ++ [.arr (ints r) 1 0])) else gcO 1 m s (.box [.d y1, .d y2] :: .box [.d x0, .sl 3 0 0 0, .sl 4 0 0 0] :: .box [.d x1, .sl 5 1 0 k, .sl 6 1 0 z] :: .arr [] 0 0 :: .arr [] 0 0 :: .vec (refsV 7 d ++ [.sl (d.length + 7) 1 0 r.length]) 1 1 :: .arr cs 1 1 :: (rowsO d ++ .arr (ints r) 1 1 :: p))
  | .no => ([], []) := by
 simp only [box]
 split
 ·rename_i hc
  have hb := hc
  have hids : idsL (tidy m s) = [1, 2] := by exact hb
  obtain ⟨h, hh⟩ : ∃ h : H, O.box [.d y1, .d y2] :: .box [.d x0, .sl 3 0 0 0, .sl 4 0 0 0] :: .box [.d x1, .sl 5 1 0 k, .sl 6 1 0 z] :: .arr [] 0 0 :: .arr [] 0 0 :: .vec (refsV 7 d ++ [.sl (d.length + 7) 1 0 r.length]) 1 1 :: .arr cs 1 1 :: (rowsO d ++ .arr (ints r) 1 1 :: p) = h := ⟨_, rfl⟩
  conv => lhs; rw [hh]
  have g0 : h[0]? = some (.box [.d y1, .d y2]) := by rw [← hh]; rfl
  have g1 : h[1]? = some (.box [.d x0, .sl 3 0 0 0, .sl 4 0 0 0]) := by rw [← hh]; rfl
  have g2 : h[2]? = some (.box [.d x1, .sl 5 1 0 k, .sl 6 1 0 z]) := by rw [← hh]; rfl
  have g3 : h[3]? = some (.arr [] 0 0) := by rw [← hh]; rfl
  have g4 : h[4]? = some (.arr [] 0 0) := by rw [← hh]; rfl
  have g5 : h[5]? = some (.vec (refsV 7 d ++ [.sl (d.length + 7) 1 0 r.length]) 1 1) := by rw [← hh]; rfl
  have g6 : h[6]? = some (.arr cs 1 1) := by rw [← hh]; rfl
  have gr : ∀ (i : Nat) (r : List Int), d[i]? = some r → h[7 + i]? = some (.arr (ints r) 1 0) := by
   intro i r hr
   rw [← hh, show 7 + i = i + 1 + 1 + 1 + 1 + 1 + 1 + 1 by omega]
   simp only [List.getElem?_cons_succ]
   exact rows_in hr
  have ge0 : h[d.length + 7]? = some (.arr (ints r) 1 1) := by
   rw [← hh, show d.length + 7 = d.length + 1 + 1 + 1 + 1 + 1 + 1 + 1 by omega]
   simp only [List.getElem?_cons_succ]
   rw [List.getElem?_append_right (by rw [rowsO_len]; omega), rowsO_len, show d.length - d.length = 0 by omega]
   rfl
  have k0 : kids h (0) = [] := by simp [kids, g0, idsL, idsA]
  have k1 : kids h (1) = [3, 4] := by simp [kids, g1, idsL, idsA]
  have k2 : kids h (2) = [5, 6] := by simp [kids, g2, idsL, idsA]
  have k3 : kids h (3) = [] := kids_row g3
  have k4 : kids h (4) = [] := kids_row g4
  have k5 : kids h (5) = List.range' 7 d.length ++ [d.length + 7] := by simp [kids, g5, idsL_app, refsV_ids, idsL_nils, idsL, idsA]
  have k6 : kids h (6) = [] := kids_row g6
  have ke0 : kids h (d.length + 7) = [] := kids_row ge0
  have leaf : ∀ i ∈ List.range' 7 d.length, ∃ r : List Int, h[i]? = some (.arr (ints r) 1 0) := by
   intro i hi
   rw [List.mem_range'_1] at hi
   obtain ⟨j, rfl⟩ : ∃ j, i = 7 + j := ⟨i - 7, by omega⟩
   exact ⟨d[j]'(by omega), gr j _ (List.getElem?_eq_getElem (by omega))⟩
  have hr : reach (fuelR + 1) h [0, 1, 2] [] = [0, 1, 2, 3, 4, 5] ++ ([6] ++ (List.range' 7 d.length ++ [d.length + 7])) := by
   refine reach_bfs ?_ ?_ ?_ ?_ ?_ ?_
   ·simp [k0, k1, k2, k3, k4, k5]
   ·intro i hi
    rcases List.mem_append.1 hi with h1 | h1
    ·simp only [List.mem_cons, List.not_mem_nil, or_false] at h1
     rcases h1 with rfl
     ·exact k6
    ·rcases List.mem_append.1 h1 with h2 | h2
     ·obtain ⟨r, hr⟩ := leaf i h2; exact kids_row hr
     ·simp only [List.mem_cons, List.not_mem_nil, or_false] at h2
      rcases h2 with rfl
      ·exact ke0
   ·intro q hq
    simp only [List.length_cons, List.length_nil] at hq
    have : q = 0 ∨ q = 1 ∨ q = 2 ∨ q = 3 ∨ q = 4 ∨ q = 5 := by omega
    rcases this with rfl | rfl | rfl | rfl | rfl | rfl <;> simp [k0, k1, k2, k3, k4, k5]
   ·rw [← List.append_assoc, ← List.append_assoc]
    rw [List.nodup_append]
    refine ⟨nodup_front (by simp) (by intro i hi; simp at hi; omega), by simp, fun i hi j hj e => ?_⟩
    simp only [List.cons_append, List.nil_append, List.mem_append, List.mem_cons, List.not_mem_nil, or_false, List.mem_range'_1] at hi hj
    omega
   ·intro i hi
    simp only [List.cons_append, List.nil_append, List.mem_cons, List.mem_append, List.not_mem_nil, or_false] at hi
    rcases hi with rfl | rfl | rfl | rfl | rfl | rfl | rfl | hi | rfl
    ·exact ⟨_, g0, by simp⟩
    ·exact ⟨_, g1, by simp⟩
    ·exact ⟨_, g2, by simp⟩
    ·exact ⟨_, g3, by simp⟩
    ·exact ⟨_, g4, by simp⟩
    ·exact ⟨_, g5, by simp⟩
    ·exact ⟨_, g6, by simp⟩
    ·obtain ⟨r, hr⟩ := leaf i hi; exact ⟨_, hr, by simp⟩
    ·exact ⟨_, ge0, by simp⟩
   ·simp only [List.length_append, List.length_cons, List.length_nil, List.length_range', fuelR]; omega
  generalize hord : [0, 1, 2, 3, 4, 5] ++ ([6] ++ (List.range' 7 d.length ++ [d.length + 7])) = ord at hr
  have pk : ∀ i j, ord[j]? = some i → place ord i = some j := fun i j h1 => place_at (by rw [← hr]; exact reach_nodup (fuelR + 1) h _ [] (by simp)) h1
  have p0 := pk (0) 0 (by rw [← hord]; rfl)
  have p1 := pk (1) 1 (by rw [← hord]; rfl)
  have p2 := pk (2) 2 (by rw [← hord]; rfl)
  have p3 := pk (3) 3 (by rw [← hord]; rfl)
  have p4 := pk (4) 4 (by rw [← hord]; rfl)
  have p5 := pk (5) 5 (by rw [← hord]; rfl)
  have p6 := pk (6) 6 (by rw [← hord]; rfl)
  have pr : ∀ i, i < d.length → place ord (7 + i) = some (7 + i) := fun i hi => pk _ _ (by
   rw [← hord, show 7 + i = i + 1 + 1 + 1 + 1 + 1 + 1 + 1 by omega]
   simp only [List.cons_append, List.nil_append, List.getElem?_cons_succ]
   first | rw [List.getElem?_append_left (by simpa using hi), List.getElem?_range' hi] | rw [List.append_nil, List.getElem?_range' hi]
   simp <;> omega)
  have pe0 := pk (d.length + 7) (d.length + 7) (by
   rw [← hord, show d.length + 7 = d.length + 1 + 1 + 1 + 1 + 1 + 1 + 1 by omega]
   simp only [List.cons_append, List.nil_append, List.getElem?_cons_succ]
   rw [List.getElem?_append_right (by simp), List.length_range', show d.length - d.length = 0 by omega]
   rfl)
  have hpk : pack h ord = .box [.d y1, .d y2] :: .box [.d x0, .sl 3 0 0 0, .sl 4 0 0 0] :: .box [.d x1, .sl 5 1 0 k, .sl 6 1 0 z] :: .arr [] 0 0 :: .arr [] 0 0 :: .vec (refsV 7 d ++ [.sl (d.length + 7) 1 0 r.length]) 1 1 :: .arr cs 1 1 :: (rowsO d ++ [.arr (ints r) 1 1]) := by
   have e1 : pack h ord = ([0, 1, 2, 3, 4, 5, 6] : List Nat).map (fun i => mapO (place ord) (h.getD i default)) ++ ((List.range' 7 d.length).map (fun i => mapO (place ord) (h.getD i default)) ++ ([d.length + 7] : List Nat).map (fun i => mapO (place ord) (h.getD i default))) := by
    unfold pack
    conv => lhs; arg 2; rw [← hord]
    rw [← List.map_append, ← List.map_append]
    rfl
   have hrf : mapAs (place ord) (refsV 7 d) = refsV 7 d := refsV_map (c := 0) pr
   have hni : mapAs (place ord) (nilsA 0) = nilsA 0 := rfl
   rw [e1, map_rows gr]
   simp only [List.map_cons, List.map_nil, List.getD_eq_getElem?_getD, g0, g1, g2, g3, g4, g5, g6, ge0, Option.getD_some]
   simp only [mapO, mapAs, mapA, mapAs_app, hrf, hni, p0, p1, p2, p3, p4, p5, p6, pe0, List.cons_append, List.nil_append, List.append_nil]
  have hgr : ∀ i, i < d.length → genOf (O.box [.d y1, .d y2] :: .box [.d x0, .sl 3 0 0 0, .sl 4 0 0 0] :: .box [.d x1, .sl 5 1 0 k, .sl 6 1 0 z] :: .arr [] 0 0 :: .arr [] 0 0 :: .vec (refsV 7 d ++ [.sl (d.length + 7) 1 0 r.length]) 1 1 :: .arr cs 1 1 :: (rowsO d ++ [.arr (ints r) 1 1])) (7 + i) = some 0 := by
   intro i hi
   rw [show 7 + i = i + 1 + 1 + 1 + 1 + 1 + 1 + 1 by omega]
   simp only [genOf_succ]
   exact gen_rows hi
  have hge0 : genOf (O.box [.d y1, .d y2] :: .box [.d x0, .sl 3 0 0 0, .sl 4 0 0 0] :: .box [.d x1, .sl 5 1 0 k, .sl 6 1 0 z] :: .arr [] 0 0 :: .arr [] 0 0 :: .vec (refsV 7 d ++ [.sl (d.length + 7) 1 0 r.length]) 1 1 :: .arr cs 1 1 :: (rowsO d ++ [.arr (ints r) 1 1])) (d.length + 7) = some 1 := by
   rw [show d.length + 7 = d.length + 1 + 1 + 1 + 1 + 1 + 1 + 1 by omega]
   simp only [genOf_succ]
   unfold genOf
   rw [List.getElem?_append_right (by rw [rowsO_len]; omega), rowsO_len, show d.length - d.length = 0 by omega]
   rfl
  have hcm : calmH 0 (O.box [.d y1, .d y2] :: .box [.d x0, .sl 3 0 0 0, .sl 4 0 0 0] :: .box [.d x1, .sl 5 1 0 k, .sl 6 1 0 z] :: .arr [] 0 0 :: .arr [] 0 0 :: .vec (refsV 7 d ++ [.sl (d.length + 7) 1 0 r.length]) 1 1 :: .arr cs 1 1 :: (rowsO d ++ [.arr (ints r) 1 1])) = .box [.d y1, .d y2] :: .box [.d x0, .sl 3 0 0 0, .sl 4 0 0 0] :: .box [.d x1, .sl 5 0 0 k, .sl 6 0 0 z] :: .arr [] 0 0 :: .arr [] 0 0 :: .vec (refsV 7 d ++ [.sl (d.length + 7) 0 0 r.length]) 1 0 :: .arr cs 1 0 :: (rowsO d ++ [.arr (ints r) 1 0]) := by
   have hrf : calmAs 0 (O.box [.d y1, .d y2] :: .box [.d x0, .sl 3 0 0 0, .sl 4 0 0 0] :: .box [.d x1, .sl 5 1 0 k, .sl 6 1 0 z] :: .arr [] 0 0 :: .arr [] 0 0 :: .vec (refsV 7 d ++ [.sl (d.length + 7) 1 0 r.length]) 1 1 :: .arr cs 1 1 :: (rowsO d ++ [.arr (ints r) 1 1])) (refsV 7 d) = refsV 7 d := calm_refs hgr
   have hni : ∀ h : H, calmAs 0 h (nilsA 0) = nilsA 0 := fun _ => rfl
   have gS : ∀ (o : O) (h : H) (i : Nat), genOf (o :: h) (i + 1) = genOf h i := fun _ _ _ => genOf_succ
   obtain ⟨hp, hq⟩ : ∃ hp : H, O.box [.d y1, .d y2] :: .box [.d x0, .sl 3 0 0 0, .sl 4 0 0 0] :: .box [.d x1, .sl 5 1 0 k, .sl 6 1 0 z] :: .arr [] 0 0 :: .arr [] 0 0 :: .vec (refsV 7 d ++ [.sl (d.length + 7) 1 0 r.length]) 1 1 :: .arr cs 1 1 :: (rowsO d ++ [.arr (ints r) 1 1]) = hp := ⟨_, rfl⟩
   rw [hq] at hrf hge0
   conv => lhs; rw [hq]
   unfold calmH
   rw [calmFrom0]
   have q3 : genOf hp 3 = some 0 := by rw [← hq]; rfl
   have q4 : genOf hp 4 = some 0 := by rw [← hq]; rfl
   have q5 : genOf hp 5 = some 1 := by rw [← hq]; rfl
   have q6 : genOf hp 6 = some 1 := by rw [← hq]; rfl
   conv => lhs; arg 2; rw [← hq]
   simp only [List.map_cons, List.map_append, List.map_nil, calmO, calmAs, calmA, calmSl, calmAs_app, hrf, hni, calm_rows, q3, q4, q5, q6, hge0, Nat.not_lt_zero, if_false, if_true]
  rw [gc_at1 hh hids hr, hpk, hcm]
  have hmp : mapAs (place ord) (tidy m s) = tidy m s := by
   apply mapAs_fix
   rw [hids]
   intro i hi
   simp only [List.mem_cons, List.not_mem_nil, or_false] at hi
   rcases hi with rfl | rfl
   ·exact p1
   ·exact p2
  rw [hmp]
 ·rfl
end Ev
end Go.Proofs.Ytppdfjdfjfoddaa
