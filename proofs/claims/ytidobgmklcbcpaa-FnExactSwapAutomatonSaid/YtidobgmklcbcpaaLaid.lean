/-
  Memory in which rows are laid one after the other: rounds of loops.
-/
import Derived.Test.YtidobgmklcbcpaaAutM
set_option linter.unusedSimpArgs false
set_option linter.unusedVariables false
namespace Go.Proofs.Ytidobgmklcbcpaa
namespace Ev

theorem gc_at {m : List Bool} {s : List A} {h : H} {ord : List Nat} (hr : reach fuelR h (idsL (tidy m s)) [] = ord) : gc 0 m s h = (calmAs 0 (pack h ord) (mapAs (place ord) (tidy m s)), calmH 0 (pack h ord)) := by
  unfold gc trim
  rw [keepOrd_zero]
  unfold fuelR at hr
  rw [hr]

theorem calmFrom0 {h : H} : ∀ (os : H) (i : Nat), calmFrom 0 h i os = os.map (calmO 0 h 0)
  | [], _ => rfl
  | o :: os, i => by
    simp only [calmFrom, List.map_cons, calmFrom0 os (i + 1)]
    cases o <;> simp [calmO]

theorem calm_rows {h : H} {rs : List (List Int)} : (rowsO rs).map (calmO 0 h 0) = rowsO rs := by
  simp [rowsO, calmO]

theorem calmAs_app {nf : Nat} {h : H} : ∀ (xs ys : List A), calmAs nf h (xs ++ ys) = calmAs nf h xs ++ calmAs nf h ys
  | [], ys => by simp [calmAs]
  | x :: xs, ys => by simp [calmAs, calmAs_app xs ys]

theorem calm_refs {h : H} : ∀ {rs : List (List Int)} {b : Nat}, (∀ i, i < rs.length → genOf h (b + i) = some 0) → calmAs 0 h (refsV b rs) = refsV b rs
  | [], b, _ => by simp [refsV, calmAs]
  | r :: rs, b, hh => by
    have h0 := hh 0 (by simp)
    simp only [Nat.add_zero] at h0
    simp only [refsV, calmAs, calmA, calmSl, Nat.not_lt_zero, if_false, h0, if_true]
    rw [calm_refs (rs := rs) (b := b + 1) fun i hi => by
      rw [show b + 1 + i = b + (i + 1) by omega]
      exact hh (i + 1) (by simp; omega)]

theorem gen_rows {rs : List (List Int)} {p : H} {i : Nat} (h : i < rs.length) : genOf (rowsO rs ++ p) i = some 0 := by
  unfold genOf
  rw [List.getElem?_append_left (by rw [rowsO_len]; exact h), rowsO_at h]

theorem genOf_succ {o : O} {h : H} {i : Nat} : genOf (o :: h) (i + 1) = genOf h i := by
  unfold genOf
  rw [List.getElem?_cons_succ]

theorem map_rows {f : Nat → Option Nat} {h : H} {b : Nat} {rs : List (List Int)} (hh : ∀ (i : Nat) (r : List Int), rs[i]? = some r → h[b + i]? = some (.arr (ints r) 1 0)) : (List.range' b rs.length).map (fun i => mapO f (h.getD i default)) = rowsO rs := pack_rows hh

theorem rows_in {rs : List (List Int)} {p : H} {i : Nat} {r : List Int} (h : rs[i]? = some r) : (rowsO rs ++ p)[i]? = some (.arr (ints r) 1 0) := by
  rw [List.getElem?_append_left (by rw [rowsO_len]; exact lt_of_get h)]
  exact rowsO_get h

theorem refs_takeN {b k : Nat} {rs : List (List Int)} (h : k = rs.length) : (refsV b rs ++ nilsA 0).take k = refsV b rs := by
  have hn : nilsA 0 = [] := rfl
  rw [hn, List.append_nil, List.take_of_length_le (by rw [refsV_len]; omega)]

/-! ### an automaton under construction: a result, a variable, rows -/

section
variable {x0 x1 : D} {k z : Nat} {cs cr : List D} {d : List (List Int)} {p : H}

/-- Who is referred to: the result, the variable, a row that lies behind the others. -/
def isB (n : Nat) (ids : List Nat) : Bool := decide (ids = [0, 1, n + 6])
def renB (n i : Nat) : Option Nat := if i = n + 6 then some 2 else if i = 0 then some 0 else if i = 1 then some 1 else none

theorem isB_eq {n k : Nat} (h : k = n + 6) : isB n [0, 1, k] = true := by subst h; simp [isB]
theorem renB_0 {n : Nat} : renB n 0 = some 0 := by unfold renB; rw [if_neg (by omega), if_pos rfl]
theorem renB_1 {n : Nat} : renB n 1 = some 1 := by unfold renB; rw [if_neg (by omega), if_neg (by omega), if_pos rfl]
theorem renB_k {n k : Nat} (h : k = n + 6) : renB n k = some 2 := by unfold renB; rw [if_pos h]

theorem kids_row {h : H} {i : Nat} {r : List D} {e g : Nat} (hr : h[i]? = some (.arr r e g)) : kids h i = [] := by simp only [kids, hr]

mutual
theorem mapA_ext {f g : Nat → Option Nat} : ∀ a : A, (∀ i ∈ idsA a, f i = g i) → mapA f a = mapA g a
  | .d x, _ => by simp only [mapA]
  | .sl id gen off len, hi => by simp only [mapA, hi id (by simp [idsA])]
  | .ptr id gen off, hi => by simp only [mapA, hi id (by simp [idsA])]
  | .clo q caps, hi => by simp only [mapA]; rw [mapAs_ext caps (by simpa only [idsA] using hi)]
  | .agg cs, hi => by simp only [mapA]; rw [mapAs_ext cs (by simpa only [idsA] using hi)]
  | .tup cs, hi => by simp only [mapA]; rw [mapAs_ext cs (by simpa only [idsA] using hi)]
  | .junk, _ => by simp only [mapA]
theorem mapAs_ext {f g : Nat → Option Nat} : ∀ xs : List A, (∀ i ∈ idsL xs, f i = g i) → mapAs f xs = mapAs g xs
  | [], _ => by simp only [mapAs]
  | a :: xs, hi => by
    simp only [idsL, List.mem_append] at hi
    simp only [mapAs]
    rw [mapA_ext a fun i h => hi i (.inl h), mapAs_ext xs fun i h => hi i (.inr h)]
end

mutual
theorem z0_mapA {f : Nat → Option Nat} : ∀ a : A, z0A a = true → z0A (mapA f a) = true
  | .d x, _ => by simp only [mapA, z0A]
  | .sl id gen off len, hz => by simp only [mapA]; cases f id <;> first | rfl | exact hz
  | .ptr id gen off, hz => by simp only [mapA]; cases f id <;> first | rfl | exact hz
  | .clo q caps, hz => by simp only [mapA, z0A] at hz ⊢; exact z0_map caps hz
  | .agg cs, hz => by simp only [mapA, z0A] at hz ⊢; exact z0_map cs hz
  | .tup cs, hz => by simp only [mapA, z0A] at hz ⊢; exact z0_map cs hz
  | .junk, _ => by simp only [mapA, z0A]
theorem z0_map {f : Nat → Option Nat} : ∀ xs : List A, z0As xs = true → z0As (mapAs f xs) = true
  | [], _ => by simp only [mapAs, z0As]
  | a :: xs, hz => by
    simp only [z0As, Bool.and_eq_true] at hz
    simp only [mapAs, z0As, Bool.and_eq_true]
    exact ⟨z0_mapA a hz.1, z0_map xs hz.2⟩
end

theorem nodup_front {L0 : List Nat} {b n : Nat} (h0 : L0.Nodup) (hlt : ∀ i ∈ L0, ¬ (b ≤ i ∧ i < b + n)) : (L0 ++ List.range' b n).Nodup := by
  rw [List.nodup_append]
  refine ⟨h0, List.nodup_range', fun i hi j hj e => ?_⟩
  rw [List.mem_range'_1] at hj
  subst e
  exact hlt _ hi hj

/-- Ages that are all the first stay so. -/
theorem gc_z {m : List Bool} {s : List A} {h : H} {ord : List Nat} {h2 : H} (hr : reach fuelR h (idsL (tidy m s)) [] = ord) (hp : pack h ord = h2) (hz : h2.all z0O = true) (hs : z0As (tidy m s) = true) : gc 0 m s h = (mapAs (place ord) (tidy m s), h2) := by
  rw [gc_at hr, hp, calmH_fix hz, calmAs_fix (gen_zero hz) _ (z0_map _ hs)]

theorem lt6 {k : Nat} (h : k < 6) : k = 0 ∨ k = 1 ∨ k = 2 ∨ k = 3 ∨ k = 4 ∨ k = 5 := by omega

/-- A row is begun. -/
theorem gc_rowB {m : List Bool} {s : List A} (hl : d.length ≤ 4294967296) : gc 0 m s (.box [.d x0, .sl 2 0 0 0, .sl 3 0 0 0] :: .box [.d x1, .sl 4 0 0 k, .sl 5 0 0 z] :: .arr [] 0 0 :: .arr [] 0 0 :: .vec (refsV 6 d ++ nilsA 0) 1 0 :: .arr cs 1 0 :: (rowsO d ++ .arr [] 1 0 :: p)) = match box (tidy m s) with
    | .mk s1 => if isB d.length (idsL s1) = true ∧ z0As s1 = true then (mapAs (renB d.length) s1, .box [.d x0, .sl 3 0 0 0, .sl 4 0 0 0] :: .box [.d x1, .sl 5 0 0 k, .sl 6 0 0 z] :: .arr [] 1 0 :: .arr [] 0 0 :: .arr [] 0 0 :: .vec (refsV 7 d ++ nilsA 0) 1 0 :: .arr cs 1 0 :: rowsO d) else gcO 0 m s (.box [.d x0, .sl 2 0 0 0, .sl 3 0 0 0] :: .box [.d x1, .sl 4 0 0 k, .sl 5 0 0 z] :: .arr [] 0 0 :: .arr [] 0 0 :: .vec (refsV 6 d ++ nilsA 0) 1 0 :: .arr cs 1 0 :: (rowsO d ++ .arr [] 1 0 :: p))
    | .no => ([], []) := by
  simp only [box]
  split
  · rename_i hc
    obtain ⟨hb, hz⟩ := hc
    have hids : idsL (tidy m s) = [0, 1, d.length + 6] := by simpa [isB] using hb
    generalize hh : (O.box [.d x0, .sl 2 0 0 0, .sl 3 0 0 0] :: .box [.d x1, .sl 4 0 0 k, .sl 5 0 0 z] :: .arr [] 0 0 :: .arr [] 0 0 :: .vec (refsV 6 d ++ nilsA 0) 1 0 :: .arr cs 1 0 :: (rowsO d ++ .arr [] 1 0 :: p)) = h
    have g0 : h[0]? = some (.box [.d x0, .sl 2 0 0 0, .sl 3 0 0 0]) := by rw [← hh]; rfl
    have g1 : h[1]? = some (.box [.d x1, .sl 4 0 0 k, .sl 5 0 0 z]) := by rw [← hh]; rfl
    have g2 : h[2]? = some (.arr [] 0 0) := by rw [← hh]; rfl
    have g3 : h[3]? = some (.arr [] 0 0) := by rw [← hh]; rfl
    have g4 : h[4]? = some (.vec (refsV 6 d ++ nilsA 0) 1 0) := by rw [← hh]; rfl
    have g5 : h[5]? = some (.arr cs 1 0) := by rw [← hh]; rfl
    have gr : ∀ (i : Nat) (r : List Int), d[i]? = some r → h[6 + i]? = some (.arr (ints r) 1 0) := by
      intro i r hr
      rw [← hh, show 6 + i = i + 1 + 1 + 1 + 1 + 1 + 1 by omega]
      simp only [List.getElem?_cons_succ]
      exact rows_in hr
    have ge : h[d.length + 6]? = some (.arr [] 1 0) := by
      rw [← hh, show d.length + 6 = d.length + 1 + 1 + 1 + 1 + 1 + 1 by omega]
      simp only [List.getElem?_cons_succ]
      exact rows_end rfl
    have k0 : kids h 0 = [2, 3] := by simp [kids, g0, idsL, idsA]
    have k1 : kids h 1 = [4, 5] := by simp [kids, g1, idsL, idsA]
    have k4 : kids h 4 = List.range' 6 d.length := by simp only [kids, g4, idsL_app, refsV_ids, idsL_nils, List.append_nil]
    have ke : kids h (d.length + 6) = [] := kids_row ge
    have k2 := kids_row g2
    have k3 := kids_row g3
    have k5 := kids_row g5
    have leaf : ∀ i ∈ List.range' 6 d.length, ∃ r : List Int, h[i]? = some (.arr (ints r) 1 0) := by
      intro i hi
      rw [List.mem_range'_1] at hi
      obtain ⟨j, rfl⟩ : ∃ j, i = 6 + j := ⟨i - 6, by omega⟩
      exact ⟨d[j]'(by omega), gr j _ (List.getElem?_eq_getElem (by omega))⟩
    have hr : reach fuelR h (idsL (tidy m s)) [] = [0, 1, d.length + 6, 2, 3, 4] ++ ([5] ++ List.range' 6 d.length) := by
      rw [hids]
      refine reach_bfs ?_ ?_ ?_ ?_ ?_ ?_
      · simp [k0, k1, k2, k3, k4, ke]
      · intro i hi
        rcases List.mem_append.1 hi with h1 | h1
        · simp at h1; subst h1; exact k5
        · obtain ⟨r, hr⟩ := leaf i h1; exact kids_row hr
      · intro q hq
        simp only [List.length_cons, List.length_nil] at hq
        rcases lt6 (by omega : q < 6) with rfl | rfl | rfl | rfl | rfl | rfl <;> simp [k0, k1, ke, k2, k3]
      · rw [← List.append_assoc]
        refine nodup_front ?_ ?_
        · simp
        · intro i hi
          simp at hi
          omega
      · intro i hi
        simp only [List.cons_append, List.nil_append, List.mem_cons] at hi
        rcases hi with rfl | rfl | rfl | rfl | rfl | rfl | rfl | hi
        · exact ⟨_, g0, by simp⟩
        · exact ⟨_, g1, by simp⟩
        · exact ⟨_, ge, by simp⟩
        · exact ⟨_, g2, by simp⟩
        · exact ⟨_, g3, by simp⟩
        · exact ⟨_, g4, by simp⟩
        · exact ⟨_, g5, by simp⟩
        · obtain ⟨r, hr⟩ := leaf i hi
          exact ⟨_, hr, by simp⟩
      · simp only [List.length_append, List.length_cons, List.length_nil, List.length_range', fuelR]; omega
    generalize hord : [0, 1, d.length + 6, 2, 3, 4] ++ ([5] ++ List.range' 6 d.length) = ord at hr
    have pk : ∀ i j, ord[j]? = some i → place ord i = some j := fun i j h1 => place_at (by rw [← hr]; exact reach_nodup fuelR h _ [] (by simp)) h1
    have p0 := pk 0 0 (by rw [← hord]; rfl)
    have p1 := pk 1 1 (by rw [← hord]; rfl)
    have pe := pk (d.length + 6) 2 (by rw [← hord]; rfl)
    have p2 := pk 2 3 (by rw [← hord]; rfl)
    have p3 := pk 3 4 (by rw [← hord]; rfl)
    have p4 := pk 4 5 (by rw [← hord]; rfl)
    have p5 := pk 5 6 (by rw [← hord]; rfl)
    have pr : ∀ i, i < d.length → place ord (6 + i) = some (7 + i) := fun i hi => pk _ _ (by
      rw [← hord, show 7 + i = i + 1 + 1 + 1 + 1 + 1 + 1 + 1 by omega]
      simp only [List.cons_append, List.nil_append, List.getElem?_cons_succ]
      rw [List.getElem?_range' hi]
      simp)
    have hpk : pack h ord = .box [.d x0, .sl 3 0 0 0, .sl 4 0 0 0] :: .box [.d x1, .sl 5 0 0 k, .sl 6 0 0 z] :: .arr [] 1 0 :: .arr [] 0 0 :: .arr [] 0 0 :: .vec (refsV 7 d ++ nilsA 0) 1 0 :: .arr cs 1 0 :: rowsO d := by
      have e1 : pack h ord = ([0, 1, d.length + 6, 2, 3, 4, 5] : List Nat).map (fun i => mapO (place ord) (h.getD i default)) ++ (List.range' 6 d.length).map (fun i => mapO (place ord) (h.getD i default)) := by
        unfold pack
        conv => lhs; arg 2; rw [← hord]
        rw [← List.map_append]
        rfl
      rw [e1, map_rows gr]
      simp only [List.map_cons, List.map_nil, List.getD_eq_getElem?_getD, g0, g1, g2, g3, g4, g5, ge, Option.getD_some, map_vec (f := place ord) (b := 6) (d := 7) pr]
      simp only [mapO, mapAs, mapA, p2, p3, p4, p5, List.cons_append, List.nil_append]
    rw [gc_z hr hpk (by simp [z0O, z0As, z0A, z0As_app, z0As_refs, z0As_nils, z0O_rows]) hz]
    congr 1
    apply mapAs_ext
    rw [hids]
    intro i hi
    simp at hi
    rcases hi with rfl | rfl | rfl
    · rw [p0, renB_0]
    · rw [p1, renB_1]
    · rw [pe, renB_k rfl]
  · rfl

end

end Ev
end Go.Proofs.Ytidobgmklcbcpaa
