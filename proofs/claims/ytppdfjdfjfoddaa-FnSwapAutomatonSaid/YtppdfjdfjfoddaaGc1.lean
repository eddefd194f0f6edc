/-
  The exact laws' own functions, at automata: sizes, marks, what is held, copies.
-/
import Derived.Test.YtppdfjdfjfoddaaBlock
section
set_option linter.unusedSimpArgs false
set_option linter.unusedVariables false
set_option maxRecDepth 8000
set_option pp.maxSteps 6000
set_option maxHeartbeats 4000000
namespace Go.Proofs.Ytppdfjdfjfoddaa
namespace Ev
end Ev
end Go.Proofs.Ytppdfjdfjfoddaa
end

/-!
  Marks on automata in memory: functions that write into what they are handed.
-/
section
set_option linter.unusedSimpArgs false
set_option linter.unusedVariables false
set_option maxRecDepth 8000
set_option pp.maxSteps 6000
set_option maxHeartbeats 4000000
namespace Go.Proofs.Ytppdfjdfjfoddaa
namespace Ev
section
variable {h h2 : H} {nf : Nat} (hn : nf = h.length) (hk : ∀ o ∈ h, ∀ j ∈ kidsO o, j < nf)
include hn hk
end
theorem refs_head {b k : Nat} : ∀ {rs : List (List Int)} {b k : Nat}, k < rs.length → ((refsV b rs ++ nilsA 0).drop k).head? = some (.sl (b + k) 0 0 (rs.getD k []).length)
 | [], b, k, h => by simp at h
 | r :: rs, b, 0, h => by simp [refsV]
 | r :: rs, b, k + 1, h => by
  simp only [refsV, List.cons_append, List.drop_succ_cons]
  rw [refs_head (b := b) (k := k) (by simpa using h)]
  simp only [List.getD_cons_succ]
  congr 2
  omega
theorem rowsO_at {d : List (List Int)} {k : Nat} (h : k < d.length) : (rowsO d)[k]? = some (.arr (ints (d.getD k [])) 1 0) := by
 rw [List.getD_eq_getElem?_getD, List.getElem?_eq_getElem h]
 exact rowsO_get (List.getElem?_eq_getElem h)
theorem rowsO_set {d : List (List Int)} {k : Nat} {r : List Int} : (rowsO d).set k (.arr (ints r) 1 0) = rowsO (d.set k r) := by
 unfold rowsO
 rw [List.map_set]
 rfl
end Ev
end Go.Proofs.Ytppdfjdfjfoddaa
end

/-!
  Memory in which rows are laid one after the other: rounds of loops.
-/
section
set_option linter.unusedSimpArgs false
set_option linter.unusedVariables false
namespace Go.Proofs.Ytppdfjdfjfoddaa
namespace Ev
theorem gc_at {m : List Bool} {s : List A} {h : H} {ord : List Nat} (hr : reach fuelR h (idsL (tidy m s)) [] = ord) : gc 0 m s h = (calmAs 0 (pack h ord) (mapAs (place ord) (tidy m s)), calmH 0 (pack h ord)) := by
 unfold gc trim
 rw [keepOrd_zero]
 unfold fuelR at hr
 rw [hr]
theorem calmFrom0 {h : H} : ∀ (os : H) (i : Nat), calmFrom 0 h i os = os.map (calmO 0 h 0)
 | [], _ => rfl
 | o :: os, i => by
  simp only [calmFrom, List.map_cons, calmFrom0 os (i + 1)]
  cases o <;> simp [calmO]
theorem calm_rows {h : H} {rs : List (List Int)} : (rowsO rs).map (calmO 0 h 0) = rowsO rs := by
 simp [rowsO, calmO]
theorem calmAs_app {nf : Nat} {h : H} : ∀ (xs ys : List A), calmAs nf h (xs ++ ys) = calmAs nf h xs ++ calmAs nf h ys
 | [], ys => by simp [calmAs]
 | x :: xs, ys => by simp [calmAs, calmAs_app xs ys]
theorem calm_refs {h : H} : ∀ {rs : List (List Int)} {b : Nat}, (∀ i, i < rs.length → genOf h (b + i) = some 0) → calmAs 0 h (refsV b rs) = refsV b rs
 | [], b, _ => by simp [refsV, calmAs]
 | r :: rs, b, hh => by
  have h0 := hh 0 (by simp)
  simp only [Nat.add_zero] at h0
  simp only [refsV, calmAs, calmA, calmSl, Nat.not_lt_zero, if_false, h0, if_true]
  rw [calm_refs (rs := rs) (b := b + 1) fun i hi => by
   rw [show b + 1 + i = b + (i + 1) by omega]
   exact hh (i + 1) (by simp; omega)]
theorem gen_rows {rs : List (List Int)} {p : H} {i : Nat} (h : i < rs.length) : genOf (rowsO rs ++ p) i = some 0 := by
 unfold genOf
 rw [List.getElem?_append_left (by rw [rowsO_len]; exact h), rowsO_at h]
theorem genOf_succ {o : O} {h : H} {i : Nat} : genOf (o :: h) (i + 1) = genOf h i := by
 unfold genOf
 rw [List.getElem?_cons_succ]
theorem map_rows {f : Nat → Option Nat} {h : H} {b : Nat} {rs : List (List Int)} (hh : ∀ (i : Nat) (r : List Int), rs[i]? = some r → h[b + i]? = some (.arr (ints r) 1 0)) : (List.range' b rs.length).map (fun i => mapO f (h.getD i default)) = rowsO rs := pack_rows hh
theorem rows_in {rs : List (List Int)} {p : H} {i : Nat} {r : List Int} (h : rs[i]? = some r) : (rowsO rs ++ p)[i]? = some (.arr (ints r) 1 0) := by
 rw [List.getElem?_append_left (by rw [rowsO_len]; exact lt_of_get h)]
 exact rowsO_get h
theorem refs_takeN {b k : Nat} {rs : List (List Int)} (h : k = rs.length) : (refsV b rs ++ nilsA 0).take k = refsV b rs := by
 have hn : nilsA 0 = [] := rfl
 rw [hn, List.append_nil, List.take_of_length_le (by rw [refsV_len]; omega)]
section
variable {x0 x1 : D} {k z : Nat} {cs cr : List D} {d : List (List Int)} {p : H}
theorem kids_row {h : H} {i : Nat} {r : List D} {e g : Nat} (hr : h[i]? = some (.arr r e g)) : kids h i = [] := by simp only [kids, hr]
mutual
theorem mapA_ext {f g : Nat → Option Nat} : ∀ a : A, (∀ i ∈ idsA a, f i = g i) → mapA f a = mapA g a
 | .d x, _ => by simp only [mapA]
 | .sl id gen off len, hi => by simp only [mapA, hi id (by simp [idsA])]
 | .ptr id gen off, hi => by simp only [mapA, hi id (by simp [idsA])]
 | .mp id, hi => by simp only [mapA, hi id (by simp [idsA])]
 | .clo q caps, hi => by simp only [mapA]; rw [mapAs_ext caps (by simpa only [idsA] using hi)]
 | .agg cs, hi => by simp only [mapA]; rw [mapAs_ext cs (by simpa only [idsA] using hi)]
 | .tup cs, hi => by simp only [mapA]; rw [mapAs_ext cs (by simpa only [idsA] using hi)]
 | .junk, _ => by simp only [mapA]
theorem mapAs_ext {f g : Nat → Option Nat} : ∀ xs : List A, (∀ i ∈ idsL xs, f i = g i) → mapAs f xs = mapAs g xs
 | [], _ => by simp only [mapAs]
 | a :: xs, hi => by
  simp only [idsL, List.mem_append] at hi
  simp only [mapAs]
  rw [mapA_ext a fun i h => hi i (.inl h), mapAs_ext xs fun i h => hi i (.inr h)]
end
mutual
theorem z0_mapA {f : Nat → Option Nat} : ∀ a : A, z0A a = true → z0A (mapA f a) = true
 | .d x, _ => by simp only [mapA, z0A]
 | .sl id gen off len, hz => by simp only [mapA]; cases f id <;> first | rfl | exact hz
 | .ptr id gen off, hz => by simp only [mapA]; cases f id <;> first | rfl | exact hz
 | .mp id, hz => by simp only [mapA]; cases f id <;> first | rfl | exact hz
 | .clo q caps, hz => by simp only [mapA, z0A] at hz ⊢; exact z0_map caps hz
 | .agg cs, hz => by simp only [mapA, z0A] at hz ⊢; exact z0_map cs hz
 | .tup cs, hz => by simp only [mapA, z0A] at hz ⊢; exact z0_map cs hz
 | .junk, _ => by simp only [mapA, z0A]
theorem z0_map {f : Nat → Option Nat} : ∀ xs : List A, z0As xs = true → z0As (mapAs f xs) = true
 | [], _ => by simp only [mapAs, z0As]
 | a :: xs, hz => by
  simp only [z0As, Bool.and_eq_true] at hz
  simp only [mapAs, z0As, Bool.and_eq_true]
  exact ⟨z0_mapA a hz.1, z0_map xs hz.2⟩
end
theorem nodup_front {L0 : List Nat} {b n : Nat} (h0 : L0.Nodup) (hlt : ∀ i ∈ L0, ¬ (b ≤ i ∧ i < b + n)) : (L0 ++ List.range' b n).Nodup := by
 rw [List.nodup_append]
 refine ⟨h0, List.nodup_range', fun i hi j hj e => ?_⟩
 rw [List.mem_range'_1] at hj
 subst e
 exact hlt _ hi hj
end
end Ev
end Go.Proofs.Ytppdfjdfjfoddaa
end

/-!
  The end of a round in a function that draws: the source of chance lies ahead of all else.
-/
section
set_option linter.unusedSimpArgs false
set_option linter.unusedVariables false
set_option maxRecDepth 8000
set_option maxHeartbeats 4000000
namespace Go.Proofs.Ytppdfjdfjfoddaa
namespace Ev
mutual
theorem calmA_01 {p : H} (h0 : genOf p 0 = none) : ∀ a : A, calmA 1 p a = calmA 0 p a
 | .d x => by simp only [calmA]
 | .sl id gen off len => by
  simp only [calmA, calmSl, Nat.not_lt_zero, if_false]
  by_cases hi : id < 1
  ·obtain rfl : id = 0 := by omega
   simp [h0]
  ·rw [if_neg hi]
 | .ptr id gen off => by
  simp only [calmA, calmPt, Nat.not_lt_zero, if_false]
  by_cases hi : id < 1
  ·obtain rfl : id = 0 := by omega
   simp [h0]
  ·rw [if_neg hi]
 | .mp id => by simp only [calmA]
 | .clo g cs => by simp only [calmA]; rw [calmAs_01 h0 cs]
 | .agg cs => by simp only [calmA]; rw [calmAs_01 h0 cs]
 | .tup cs => by simp only [calmA]; rw [calmAs_01 h0 cs]
 | .junk => by simp only [calmA]
theorem calmAs_01 {p : H} (h0 : genOf p 0 = none) : ∀ xs : List A, calmAs 1 p xs = calmAs 0 p xs
 | [] => by simp only [calmAs]
 | x :: xs => by simp only [calmAs]; rw [calmA_01 h0 x, calmAs_01 h0 xs]
end
theorem calmO_01 {p : H} (h0 : genOf p 0 = none) {i : Nat} (hi : 1 ≤ i) (o : O) : calmO 1 p i o = calmO 0 p i o := by
 cases o <;> simp only [calmO, Nat.not_lt_zero, if_false, calmAs_01 h0, if_neg (show ¬ i < 1 by omega)]
theorem calmFrom_01 {p : H} (h0 : genOf p 0 = none) : ∀ (os : H) (i : Nat), 1 ≤ i → calmFrom 1 p i os = calmFrom 0 p i os
 | [], i, _ => rfl
 | o :: os, i, hi => by simp only [calmFrom]; rw [calmO_01 h0 hi, calmFrom_01 h0 os (i + 1) (by omega)]
theorem trim_01 {x y : D} {t : H} {l : List Nat} {s : List A} : trim 1 (.box [.d x, .d y] :: t) (0 :: l) s = trim 0 (.box [.d x, .d y] :: t) (0 :: l) s := by
 have hp : pack (.box [.d x, .d y] :: t) (0 :: l) = .box [.d x, .d y] :: l.map fun i => mapO (place (0 :: l)) ((O.box [.d x, .d y] :: t).getD i default) := by
  simp [pack, mapO, mapAs, mapA]
 have h0 : genOf (pack (.box [.d x, .d y] :: t) (0 :: l)) 0 = none := by rw [hp]; rfl
 unfold trim
 rw [calmAs_01 h0]
 congr 1
 unfold calmH
 generalize hq : pack (.box [.d x, .d y] :: t) (0 :: l) = p at *
 obtain ⟨os, hos⟩ : ∃ os, p = .box [.d x, .d y] :: os := ⟨_, hp⟩
 have key : ∀ w : H, w = .box [.d x, .d y] :: os → calmFrom 1 p 0 w = calmFrom 0 p 0 w := by
  intro w hw
  subst hw
  simp only [calmFrom]
  rw [calmFrom_01 h0 _ (0 + 1) (Nat.le_refl _)]
  simp only [calmO, calmAs, calmA]
 exact key p hos
theorem reach_01 {x y : D} {t : H} {n : Nat} {l : List Nat} : reach (n + 1) (.box [.d x, .d y] :: t) (0 :: l) [0] = reach n (.box [.d x, .d y] :: t) l [0] := by
 simp [reach]
theorem reach_00 {x y : D} {t : H} {n : Nat} {l : List Nat} : reach (n + 1) (.box [.d x, .d y] :: t) (0 :: l) [] = reach n (.box [.d x, .d y] :: t) l [0] := by
 simp [reach, idsL, idsA]
theorem reach_ahead : ∀ (n : Nat) (h : H) (todo acc : List Nat), ∃ q, reach n h todo acc = acc ++ q
 | 0, h, todo, acc => ⟨[], by simp [reach]⟩
 | n + 1, h, [], acc => ⟨[], by simp [reach]⟩
 | n + 1, h, i :: todo, acc => by
  unfold reach
  split
  ·exact reach_ahead n h todo acc
  ·split
   ·obtain ⟨q, hq⟩ := reach_ahead n h (todo ++ idsL _) (acc ++ [i]); exact ⟨i :: q, by rw [hq]; simp⟩
   ·obtain ⟨q, hq⟩ := reach_ahead n h (todo ++ idsL _) (acc ++ [i]); exact ⟨i :: q, by rw [hq]; simp⟩
   ·exact reach_ahead n h todo acc
   ·obtain ⟨q, hq⟩ := reach_ahead n h todo (acc ++ [i]); exact ⟨i :: q, by rw [hq]; simp⟩
   ·exact reach_ahead n h todo acc
theorem keep_01 {x y : D} {t : H} {l : List Nat} : keepOrd 1 (.box [.d x, .d y] :: t) (0 :: l) = keepOrd 0 (.box [.d x, .d y] :: t) (0 :: l) := by
 rw [keepOrd_eq, keepOrd_eq]
 have e1 : boxIds (List.take 1 (O.box [.d x, .d y] :: t)) ++ 0 :: l = 0 :: l := by simp [boxIds, idsL, idsA]
 have e2 : boxIds (List.take 0 (O.box [.d x, .d y] :: t)) ++ 0 :: l = 0 :: l := by simp [boxIds]
 have e3 : List.range 1 = [0] := rfl
 have e4 : List.range 0 = ([] : List Nat) := rfl
 rw [e1, e2, e3, e4, show (1099511627776 : Nat) = 1099511627775 + 1 from rfl, reach_01, reach_00]
theorem keep1_eq {x y : D} {t : H} {l : List Nat} : keepOrd 1 (.box [.d x, .d y] :: t) l = reach (fuelR + 1) (.box [.d x, .d y] :: t) (0 :: l) [] := by
 rw [keepOrd_eq, reach_00]
 have e1 : boxIds (List.take 1 (O.box [.d x, .d y] :: t)) ++ l = l := by simp [boxIds, idsL, idsA]
 have e3 : List.range 1 = [0] := rfl
 rw [e1, e3]
 rfl
theorem gc_01 {m : List Bool} {s : List A} {x y : D} {t : H} {l : List Nat} (hid : idsL (tidy m s) = 0 :: l) : gc 1 m s (.box [.d x, .d y] :: t) = gc 0 m s (.box [.d x, .d y] :: t) := by
 unfold gc
 rw [hid, keep_01]
 obtain ⟨q, hq⟩ := reach_ahead 1099511627775 (.box [.d x, .d y] :: t) l [0]
 have : keepOrd 0 (.box [.d x, .d y] :: t) (0 :: l) = 0 :: q := by
  rw [keepOrd_eq]
  have e2 : boxIds (List.take 0 (O.box [.d x, .d y] :: t)) ++ 0 :: l = 0 :: l := by simp [boxIds]
  have e4 : List.range 0 = ([] : List Nat) := rfl
  rw [e2, e4, show (1099511627776 : Nat) = 1099511627775 + 1 from rfl, reach_00, hq]
  rfl
 rw [this, trim_01]
theorem gc_at1 {m : List Bool} {s : List A} {x y : D} {t h : H} {l ord : List Nat} (hh : O.box [.d x, .d y] :: t = h) (hi : idsL (tidy m s) = l) (hr : reach (fuelR + 1) h (0 :: l) [] = ord) : gc 1 m s h = (calmAs 0 (pack h ord) (mapAs (place ord) (tidy m s)), calmH 0 (pack h ord)) := by
 subst hh
 unfold gc
 rw [hi, keep1_eq, hr]
 obtain ⟨q, hq⟩ := reach_ahead fuelR (.box [.d x, .d y] :: t) l [0]
 have e : ord = 0 :: q := by
  rw [← hr, reach_00, hq]
  rfl
 rw [e, trim_01]
 rfl
end Ev
end Go.Proofs.Ytppdfjdfjfoddaa
end
