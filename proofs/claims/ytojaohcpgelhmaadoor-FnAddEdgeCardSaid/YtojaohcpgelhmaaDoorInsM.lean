/-
  slices.Insert of one edge, at the machine.
-/
import Derived.Test.YtojaohcpgelhmaaDoorPrimD
import Derived.Shelf.Spec.SlicesInsertGrow
set_option linter.unusedSimpArgs false
set_option linter.unusedVariables false
set_option maxRecDepth 1000000
set_option maxHeartbeats 4000000
namespace Go.Proofs.YtojaohcpgelhmaaDoor
namespace Ev
open Go.RowKit Go.Lib

/-- A copy of elements of any size. -/
theorem run_copyS {P : Program} (w : World) (dT sT ty elem : TypeId) (sz b o dLen dCap : Nat) (a : Addr) (sLen sCap : Nat) (cs : List Value)
    (hu : P.underlying dT = some (.slice elem)) (hs : (P.info? elem).map (·.size) = some sz) (hn : cs.length = Nat.min sLen dLen * sz)
    (hsrc : ∀ j v, cs[j]? = some v → w.cell? (a.add j) = some v) (hc : ∀ j, j < cs.length → (w.cell? ⟨b, o + j, none⟩).isSome = true) (hf : ∀ j, j < cs.length → w.frozen? ⟨b, o + j, none⟩ = false) (h1 : ∀ v ∈ cs, v.oneCell' = true) :
    (Builtin.copy_ #[dT, sT] ty #[.slice (some ⟨b, o, none⟩) dLen dCap, .slice (some a) sLen sCap]).run P w = .ok (goInt (Nat.min sLen dLen)) (w.setCells b o cs) := by
  have hst := run_storeCells_cells (P := P) b o cs 0 w (by simpa using hc) (by simpa using hf) h1
  cases hq : P.info? elem with
  | none => simp [hq] at hs
  | some i =>
    have hi : i.size = sz := by simpa [hq] using hs
    have hfc := run_firstCells_some (P := P) w sz (Nat.min sLen dLen) a sLen sCap cs hn hsrc
    simp [Builtin.copy_, run_underlying hu, Builtin.lenOf, sizeOf, typeInfo, hq, hi, hfc, hst]

theorem insert_shift (b n c i vb vc : Nat) (C CV : Array Value) (E EV : TypeId) (fz fzV : Nat × Nat) (w : World) (hb : w.heap[b]? = some (.cells C E fz)) (hbv : w.heap[vb]? = some (.cells CV EV fzV)) (hu : Unfrozen C fz) (huv : Clear 3 CV fzV) (hne : vb ≠ b) (hi : i < n) (hroom : n + 1 ≤ c) (hC : c * 3 ≤ C.size) (hm : n + 1 ≤ 4294967296) (hV : 3 ≤ CV.size) (hone : ∀ k v, k < n * 3 → C[k]? = some v → v.oneCell' = true) (honeV : ∀ k v, k < 3 → CV[k]? = some v → v.oneCell' = true) :
    Calls Tryd.prog 48 #[.slice (some ⟨b, 0, none⟩) n c, .int .i64 i, .slice (some ⟨vb, 0, none⟩) 1 vc] w fun e w' => e = .returned (.slice (some ⟨b, 0, none⟩) (n + 1) c) ∧ ∃ C', C'.size = C.size ∧ (∀ k, k < (n + 1) * 3 → C'[k]? = if k < i * 3 then C[k]? else if k < (i + 1) * 3 then CV[k - i * 3]? else C[k - 3]?) ∧ w' = putBlk w.drew b (.cells C' E fz) := by
  have hlt : b < w.heap.size := (Array.getElem?_eq_some_iff.1 hb).1
  have hu0 := Tryd.underlying23
  have hce : Tryd.prog.cellsOf 38 = 3 := by kernel_rfl
  obtain ⟨i0, hi0⟩ := info_of_pos (P := Tryd.prog) (e := 38) (by rw [hce]; omega)
  have hi1 : i0.size = 3 := by rw [← hce]; simp [Program.cellsOf, hi0]
  have hsz : (Tryd.prog.info? 38).map (·.size) = some 3 := by rw [hi0]; simp [hi1]
  have hso : ∀ w, (sizeOf 38).run Tryd.prog w = .ok 3 w := fun w => by simp [sizeOf, typeInfo, hi0, hi1]
  have hcell : ∀ (w1 : World) (b : Nat) (C1 : Array Value) (E : TypeId) (fz : Nat × Nat) (k : Nat), w1.heap[b]? = some (.cells C1 E fz) → w1.cell? ⟨b, k, none⟩ = C1[k]? := fun w1 b C1 E fz k h1 => by rw [cell?_eq, cellAt_eq h1]
  have hfro : ∀ (w1 : World) (C1 : Array Value) (k : Nat), w1.heap[b]? = some (.cells C1 E fz) → C1.size = C.size → k < C.size → w1.frozen? ⟨b, k, none⟩ = false := by
    intro w1 C1 k h1 hs hk
    have h2 := hu k hk
    simp only [World.frozen?, h1]
    by_cases h3 : fz.1 ≤ k <;> by_cases h4 : k < fz.2 <;> simp [h3, h4]
    exact h2 ⟨h3, h4⟩
  have hfa : w.frozen? ⟨vb, 0, none⟩ = false := by
    have h2 := huv.1 0 (by omega)
    simp only [World.frozen?, hbv]
    by_cases h3 : fzV.1 ≤ 0 <;> by_cases h4 : 0 < fzV.2 <;> simp_all
  have hfe : w.frozen? ⟨vb, CV.size, none⟩ = false := by
    have h2 := huv.2 (by omega)
    simp only [World.frozen?, hbv]
    by_cases h3 : fzV.1 ≤ CV.size <;> by_cases h4 : CV.size < fzV.2 <;> simp_all
  have hsa : w.shape? vb = some (EV, CV.size) := by simp [World.shape?, hbv]
  have hsb : w.shape? b = some (E, C.size) := by simp [World.shape?, hb]
  have hov : ∀ o lb cb, (callFunc 71 #[.slice (some ⟨vb, 0, none⟩) 1 vc, .slice (some ⟨b, o, none⟩) lb cb]).run Tryd.prog w = .ok (.value (.bool false)) w := fun o lb cb => by
    rw [run_callFunc_extern Tryd.func71 (by kernel_rfl) (by kernel_rfl) (by kernel_rfl) (e := Extern.SlicesOverlaps.overlaps #[23, 23] #[4]) (by kernel_rfl),
      Lib.run_overlaps_apart w 23 4 38 hu0 3 hso ⟨vb, 0, none⟩ ⟨b, o, none⟩ 1 vc lb cb hne EV E CV.size C.size hsa hsb (by omega) hfa hfe]
    rfl
  obtain ⟨mv, hmv⟩ : ∃ mv, mv = (C.toList.drop (i * 3)).take ((n - i) * 3) := ⟨_, rfl⟩
  have hml : mv.length = (n - i) * 3 := by rw [hmv, List.length_take, List.length_drop, Array.length_toList]; omega
  have hmg : ∀ t, t < (n - i) * 3 → mv[t]? = C[i * 3 + t]? := by
    intro t ht
    rw [hmv, List.getElem?_take, if_pos ht, List.getElem?_drop, Array.getElem?_toList]
  obtain ⟨nv, hnv⟩ : ∃ nv, nv = CV.toList.take 3 := ⟨_, rfl⟩
  have hnl : nv.length = 3 := by rw [hnv, List.length_take, Array.length_toList]; omega
  have hng : ∀ t, t < 3 → nv[t]? = CV[t]? := by
    intro t ht
    rw [hnv, List.getElem?_take, if_pos ht, Array.getElem?_toList]
  have hbd : w.drew.heap[b]? = some (.cells C E fz) := hb
  have hbvd : w.drew.heap[vb]? = some (.cells CV EV fzV) := hbv
  have h1m : ∀ u ∈ mv, u.oneCell' = true := by
    intro u hmem
    obtain ⟨t, ht⟩ := List.getElem?_of_mem hmem
    have htl : t < (n - i) * 3 := by
      have := (List.getElem?_eq_some_iff.1 ht).1
      rwa [hml] at this
    rw [hmg t htl] at ht
    exact hone _ u (by omega) ht
  have h1n : ∀ u ∈ nv, u.oneCell' = true := by
    intro u hmem
    obtain ⟨t, ht⟩ := List.getElem?_of_mem hmem
    have htl : t < 3 := by
      have := (List.getElem?_eq_some_iff.1 ht).1
      rwa [hnl] at this
    rw [hng t htl] at ht
    exact honeV _ u htl ht
  obtain ⟨W1, hW1⟩ : ∃ W1, W1 = w.drew.setCells b ((i + 1) * 3) mv := ⟨_, rfl⟩
  have hW1' : W1 = putBlk w.drew b (.cells (over C ((i + 1) * 3) mv) E fz) := by rw [hW1]; exact setCells_over mv _ _ C hbd (by rw [hml]; omega)
  have hb1 : W1.heap[b]? = some (.cells (over C ((i + 1) * 3) mv) E fz) := by rw [hW1']; exact putBlk_get (w := w.drew) hlt
  have hbv1 : W1.heap[vb]? = some (.cells CV EV fzV) := by rw [hW1', putBlk_other (w := w.drew) hne]; exact hbvd
  have hcp1 : ∀ ty dc sc, (Builtin.copy_ #[23, 23] ty #[.slice (some ⟨b, (i + 1) * 3, none⟩) (n - i) dc, .slice (some ⟨b, i * 3, none⟩) (n + 1 - i) sc]).run Tryd.prog w.drew = .ok (goInt (Nat.min (n + 1 - i) (n - i))) W1 := fun ty dc sc => by
    rw [hW1]
    refine run_copyS w.drew _ _ ty 38 3 b ((i + 1) * 3) (n - i) dc ⟨b, i * 3, none⟩ (n + 1 - i) sc mv hu0 hsz ?_ ?_ ?_ ?_ h1m
    · rw [hml]; simp only [Nat.min_def]; split <;> omega
    · intro j v hj
      have htl : j < (n - i) * 3 := by
        have := (List.getElem?_eq_some_iff.1 hj).1
        rwa [hml] at this
      rw [Addr.add_lit, hcell _ _ _ _ _ _ hbd, ← hmg j htl]; exact hj
    · intro j hj; rw [hml] at hj; rw [hcell _ _ _ _ _ _ hbd, Array.getElem?_eq_getElem (by omega)]; rfl
    · intro j hj; rw [hml] at hj; exact hfro _ _ _ hbd rfl (by omega)
  have hcp2 : ∀ ty dc, (Builtin.copy_ #[23, 23] ty #[.slice (some ⟨b, i * 3, none⟩) (n + 1 - i) dc, .slice (some ⟨vb, 0, none⟩) 1 vc]).run Tryd.prog W1 = .ok (goInt (Nat.min 1 (n + 1 - i))) (W1.setCells b (i * 3) nv) := fun ty dc => by
    refine run_copyS W1 _ _ ty 38 3 b (i * 3) (n + 1 - i) dc ⟨vb, 0, none⟩ 1 vc nv hu0 hsz ?_ ?_ ?_ ?_ h1n
    · rw [hnl]; simp only [Nat.min_def]; split <;> omega
    · intro j v hj
      have htl : j < 3 := by
        have := (List.getElem?_eq_some_iff.1 hj).1
        rwa [hnl] at this
      rw [Addr.add_lit, hcell _ _ _ _ _ _ hbv1, Nat.zero_add, ← hng j htl]; exact hj
    · intro j hj; rw [hnl] at hj; rw [hcell _ _ _ _ _ _ hb1, Array.getElem?_eq_getElem (by rw [over_size]; omega)]; rfl
    · intro j hj; rw [hnl] at hj; exact hfro _ _ _ hb1 (over_size _ _ _) (by omega)
  have hfin : ∃ C', C'.size = C.size ∧ (∀ k, k < (n + 1) * 3 → C'[k]? = if k < i * 3 then C[k]? else if k < (i + 1) * 3 then CV[k - i * 3]? else C[k - 3]?) ∧ W1.setCells b (i * 3) nv = putBlk w.drew b (.cells C' E fz) := by
    refine ⟨over (over C ((i + 1) * 3) mv) (i * 3) nv, by rw [over_size, over_size], fun k hk => ?_, ?_⟩
    · rw [over_get _ _ _ _ (by rw [over_size, hnl]; omega), hnl]
      by_cases h1 : k < i * 3
      · rw [if_neg (by omega), over_get _ _ _ _ (by rw [hml]; omega), if_neg (by omega), if_pos h1]
      · rw [if_neg h1]
        by_cases h2 : k < (i + 1) * 3
        · rw [if_pos (by omega), if_pos h2, hng _ (by omega)]
        · rw [if_neg (by omega), if_neg h2, over_get _ _ _ _ (by rw [hml]; omega), if_pos (by rw [hml]; omega), hmg _ (by omega)]
          congr 1; omega
    · rw [setCells_over nv _ W1 _ hb1 (by rw [over_size, hnl]; omega), hW1', putBlk_put]
  obtain ⟨C', k1, k2, k3⟩ := hfin
  have K3 : Aside (W1.setCells b (i * 3) nv = putBlk w.drew b (.cells C' E fz)) := k3
  have K2 : Aside (∀ k, k < (n + 1) * 3 → C'[k]? = if k < i * 3 then C[k]? else if k < (i + 1) * 3 then CV[k - i * 3]? else C[k - 3]?) := k2
  have mixed : Tryd.prog.follows Departure.mixedOrders = true := by kernel_rfl
  have hz2 : ¬ ((i : Int) = (n : Int)) := by omega
  have hw1 : IntKind.i64.wrap ((i : Int) + 1) = (i : Int) + 1 := by rw [IntKind.wrap_i64]; omega
  have hw2 : IntKind.i64.wrap ((n : Int) + 1) = (n : Int) + 1 := by rw [IntKind.wrap_i64]; omega
  have hg1 : ¬ ((c : Int) < (n : Int) + 1) := by omega
  have q1 : (0 : Int) ≤ (i : Int) + 1 := by omega
  have q2 : ((i : Int) + 1).toNat = i + 1 := by omega
  have q3 : (i : Int) ≤ (n : Int) + 1 := by omega
  have q4 : (0 : Int) ≤ (n : Int) + 1 := by omega
  have q5 : ((n : Int) + 1).toNat = n + 1 := by omega
  have q6 : ¬ (c = i + 1) := by omega
  have q7 : ¬ (c = i) := by omega
  have q8 : (n : Int) + 1 ≤ (c : Int) := by omega
  have q9 : (i : Int) + 1 ≤ (n : Int) + 1 := by omega
  clear hW1 hW1' hb1 hbv1 hb hbv hbd hbvd hmg hng hcell hfro hone honeV hmv hnv k2 k3 hu huv hfa hfe hsa hsb
  go_enter Tryd.func48, Tryd.ntmps48
  go_wp2_with (simp only [hov])
  go_region_law_o (refine step_copy_runI rfl _ _ 23 23 rfl _ _ (by simp [Act.eval, Act.put]) (by simp [Act.eval, Act.put]) (hcp1 _ _ _) ?_)
  go_wp2_with (at_builtin; refine wpList_copy_runI _ rfl _ _ 23 23 rfl _ _ rfl rfl (hcp2 _ _) ?_)
  go_ret
  exact ⟨rfl, C', k1, K2.out, K3.out⟩

theorem alloc_put (w : World) (o o' : Obj) : putBlk (w.alloc o) w.heap.size o' = w.alloc o' := by
  have : (w.heap.push o).setIfInBounds w.heap.size o' = w.heap.push o' := by
    apply Array.ext_getElem?
    intro j
    rw [Array.getElem?_setIfInBounds, Array.getElem?_push, Array.getElem?_push]
    by_cases h : w.heap.size = j
    · subst h; simp
    · rw [if_neg h, if_neg (Ne.symm h)]; simp [Ne.symm h]
  simp only [putBlk, World.alloc, this]

theorem insert_grow (b n i vb vc : Nat) (C CV : Array Value) (E EV : TypeId) (fz fzV : Nat × Nat) (w : World) (hb : w.heap[b]? = some (.cells C E fz)) (hbv : w.heap[vb]? = some (.cells CV EV fzV)) (hi : i < n) (hC : n * 3 ≤ C.size) (hm : n + 1 ≤ 4294967296) (hV : 3 ≤ CV.size) (hone : ∀ k v, k < n * 3 → C[k]? = some v → v.oneCell' = true) (honeV : ∀ k v, k < 3 → CV[k]? = some v → v.oneCell' = true) :
    Calls Tryd.prog 48 #[.slice (some ⟨b, 0, none⟩) n n, .int .i64 i, .slice (some ⟨vb, 0, none⟩) 1 vc] w fun e w' => ∃ G C', n + 1 ≤ G ∧ e = .returned (.slice (some ⟨w.heap.size, 0, none⟩) (n + 1) G) ∧ C'.size = G * 3 ∧ (∀ k, k < (n + 1) * 3 → C'[k]? = if k < i * 3 then C[k]? else if k < (i + 1) * 3 then CV[k - i * 3]? else C[k - 3]?) ∧ w' = w.drew.drew.alloc (.cells C' 38) := by
  have hlt : b < w.heap.size := (Array.getElem?_eq_some_iff.1 hb).1
  have hltv : vb < w.heap.size := (Array.getElem?_eq_some_iff.1 hbv).1
  have hu0 := Tryd.underlying23
  have hui := Tryd.underlying3
  have hce : Tryd.prog.cellsOf 38 = 3 := by kernel_rfl
  have hby : Tryd.prog.bytesOf 38 = 24 := by kernel_rfl
  obtain ⟨i0, z, zv, hi0, hz, hzv, hrun, hzr, hzs, hzl, _, hpos, hb0, hb1, hzone⟩ := elem_ok (P := Tryd.prog) (e := 38) (by kernel_rfl)
  have hi1 : i0.size = 3 := by rw [← hce]; simp [Program.cellsOf, hi0]
  have hi2 : i0.bytes = 24 := by rw [← hby]; simp [Program.bytesOf, hi0]
  rw [hce] at hzs
  have hsz : (Tryd.prog.info? 38).map (·.size) = some 3 := by rw [hi0]; simp [hi1]
  have hcell : ∀ (w1 : World) (b : Nat) (C1 : Array Value) (E : TypeId) (fz : Nat × Nat) (k : Nat), w1.heap[b]? = some (.cells C1 E fz) → w1.cell? ⟨b, k, none⟩ = C1[k]? := fun w1 b C1 E fz k h1 => by rw [cell?_eq, cellAt_eq h1]
  obtain ⟨ov, hov⟩ : ∃ ov, ov = C.toList.take (i * 3) := ⟨_, rfl⟩
  have hol : ov.length = i * 3 := by rw [hov, List.length_take, Array.length_toList]; omega
  have hog : ∀ t, t < i * 3 → ov[t]? = C[t]? := by
    intro t ht
    rw [hov, List.getElem?_take, if_pos ht, Array.getElem?_toList]
  obtain ⟨mv, hmv⟩ : ∃ mv, mv = (C.toList.drop (i * 3)).take ((n - i) * 3) := ⟨_, rfl⟩
  have hml : mv.length = (n - i) * 3 := by rw [hmv, List.length_take, List.length_drop, Array.length_toList]; omega
  have hmg : ∀ t, t < (n - i) * 3 → mv[t]? = C[i * 3 + t]? := by
    intro t ht
    rw [hmv, List.getElem?_take, if_pos ht, List.getElem?_drop, Array.getElem?_toList]
  obtain ⟨nv, hnv⟩ : ∃ nv, nv = CV.toList.take 3 := ⟨_, rfl⟩
  have hnl : nv.length = 3 := by rw [hnv, List.length_take, Array.length_toList]; omega
  have hng : ∀ t, t < 3 → nv[t]? = CV[t]? := by
    intro t ht
    rw [hnv, List.getElem?_take, if_pos ht, Array.getElem?_toList]
  have h1m : ∀ u ∈ mv, u.oneCell' = true := by
    intro u hmem
    obtain ⟨t, ht⟩ := List.getElem?_of_mem hmem
    have htl : t < (n - i) * 3 := by
      have := (List.getElem?_eq_some_iff.1 ht).1
      rwa [hml] at this
    rw [hmg t htl] at ht
    exact hone _ u (by omega) ht
  have h1n : ∀ u ∈ nv, u.oneCell' = true := by
    intro u hmem
    obtain ⟨t, ht⟩ := List.getElem?_of_mem hmem
    have htl : t < 3 := by
      have := (List.getElem?_eq_some_iff.1 ht).1
      rwa [hnl] at this
    rw [hng t htl] at ht
    exact honeV _ u htl ht
  have hold : (Builtin.firstCells i0.size i (.slice (some ⟨b, 0, none⟩) i n)).run Tryd.prog w.drew = .ok ov.toArray w.drew := by
    rw [hi1]
    refine run_firstCells_some w.drew 3 i ⟨b, 0, none⟩ i n ov hol (fun j v hj => ?_)
    have htl : j < i * 3 := by
      have := (List.getElem?_eq_some_iff.1 hj).1
      rwa [hol] at this
    rw [Addr.add_lit, Nat.zero_add, hcell w.drew _ _ _ _ _ hb, ← hog j htl]; exact hj
  have hik : i + (n + 1 - i) = n + 1 := by omega
  have hkk : (n : Int) + 1 - (i : Int) = ((n + 1 - i : Nat) : Int) := by omega
  have hrz : ∀ ty, (Builtin.append_ #[23, 3] ty #[.slice (some ⟨b, 0, none⟩) i n, .int .i64 ((n : Int) + 1 - (i : Int))]).run Tryd.prog w =
      .ok (.slice (some ⟨w.heap.size, 0, none⟩) (n + 1) (grownCap w (n + 1) n 38)) (w.drew.alloc (.cells (ov.toArray ++ Builtin.zeroCells zv.cells (n + 1 - i) ++ Builtin.zeroCells zv.cells (grownCap w (n + 1) n 38 - (n + 1))) 38)) := fun ty => by
    have h := Lib.run_append_grow_zeros w 23 3 ty 38 i0 zv .i64 .i64 hu0 hui hi0 hzv (some ⟨b, 0, none⟩) i n ov hold (n + 1 - i) (by omega) (by omega) (by omega) (by omega) (by rw [hi2]; omega) (by rw [hi2, hik]; exact growslice_fits (by omega) (by omega))
    rw [hik] at h
    rw [hkk]
    exact h
  obtain ⟨G, hG⟩ : ∃ G, G = grownCap w (n + 1) n 38 := ⟨_, rfl⟩
  have hGn : n + 1 ≤ G := by rw [hG]; exact grownCap_ge w _ _ _
  have hG63 : G ≤ 9223372036854775807 := by
    have := grownCap_le_maxLen w (n + 1) n 38 (by unfold maxLen; omega)
    rw [← hG] at this
    unfold maxLen at this
    omega
  obtain ⟨ROW, hROW⟩ : ∃ ROW : Array Value, ROW = ov.toArray ++ Builtin.zeroCells zv.cells (n + 1 - i) ++ Builtin.zeroCells zv.cells (G - (n + 1)) := ⟨_, rfl⟩
  rw [← hG] at hrz
  rw [← hROW] at hrz
  have hRl : ROW.size = G * 3 := by
    rw [hROW, ← Array.length_toList]
    simp only [Array.toList_append, List.length_append, zeroCells_toList, hol]
    simp [hzs]
    omega
  have hRo : ∀ t, t < i * 3 → ROW[t]? = C[t]? := by
    intro t ht
    rw [hROW, ← hog t ht, Array.append_assoc, Array.getElem?_append_left (by simpa using (by omega : t < ov.length))]
    simp
  obtain ⟨W1, hW1⟩ : ∃ W1, W1 = w.drew.alloc (.cells ROW 38) := ⟨_, rfl⟩
  rw [← hW1] at hrz
  obtain ⟨W2, hW2⟩ : ∃ W2, W2 = W1.setCells w.heap.size (i * 3) nv := ⟨_, rfl⟩
  have hN1 : W1.heap[w.heap.size]? = some (.cells ROW 38 (0, 0)) := by rw [hW1]; exact drewAlloc_new w _
  have hW2' : W2 = w.drew.alloc (.cells (over ROW (i * 3) nv) 38) := by
    rw [hW2, setCells_over nv _ W1 _ hN1 (by rw [hnl, hRl]; omega), hW1]
    exact alloc_put w.drew _ _
  have hN2 : W2.heap[w.heap.size]? = some (.cells (over ROW (i * 3) nv) 38 (0, 0)) := by rw [hW2']; exact drewAlloc_new w _
  have hold1 : ∀ (o : Obj) (k : Nat), k < w.heap.size → (w.drew.alloc o).heap[k]? = w.heap[k]? := by
    intro o k hk
    show (w.heap.push o)[k]? = _
    rw [Array.getElem?_push, if_neg (by omega)]
  have hfro : ∀ (W : World) (C1 : Array Value) (k : Nat), W.heap[w.heap.size]? = some (.cells C1 38 (0, 0)) → W.frozen? ⟨w.heap.size, k, none⟩ = false := by
    intro W C1 k h1
    simp [World.frozen?, h1]
  have hcpA : ∀ ty dc, (Builtin.copy_ #[23, 23] ty #[.slice (some ⟨w.heap.size, i * 3, none⟩) (n + 1 - i) dc, .slice (some ⟨vb, 0, none⟩) 1 vc]).run Tryd.prog W1 = .ok (goInt (Nat.min 1 (n + 1 - i))) W2 := fun ty dc => by
    rw [hW2]
    refine run_copyS W1 _ _ ty 38 3 w.heap.size (i * 3) (n + 1 - i) dc ⟨vb, 0, none⟩ 1 vc nv hu0 hsz ?_ ?_ ?_ ?_ h1n
    · rw [hnl]; simp only [Nat.min_def]; split <;> omega
    · intro j v hj
      have htl : j < 3 := by
        have := (List.getElem?_eq_some_iff.1 hj).1
        rwa [hnl] at this
      rw [Addr.add_lit, hcell W1 vb CV EV fzV _ (by rw [hW1, hold1 _ _ hltv]; exact hbv), Nat.zero_add, ← hng j htl]; exact hj
    · intro j hj; rw [hnl] at hj; rw [hcell _ _ _ _ _ _ hN1, Array.getElem?_eq_getElem (by omega)]; rfl
    · intro j hj; exact hfro _ _ _ hN1
  have hcpB : ∀ ty dc sc, (Builtin.copy_ #[23, 23] ty #[.slice (some ⟨w.heap.size, (i + 1) * 3, none⟩) (n - i) dc, .slice (some ⟨b, i * 3, none⟩) (n - i) sc]).run Tryd.prog W2.drew = .ok (goInt (Nat.min (n - i) (n - i))) (W2.drew.setCells w.heap.size ((i + 1) * 3) mv) := fun ty dc sc => by
    refine run_copyS W2.drew _ _ ty 38 3 w.heap.size ((i + 1) * 3) (n - i) dc ⟨b, i * 3, none⟩ (n - i) sc mv hu0 hsz ?_ ?_ ?_ ?_ h1m
    · rw [hml]; simp only [Nat.min_def]; split <;> omega
    · intro j v hj
      have htl : j < (n - i) * 3 := by
        have := (List.getElem?_eq_some_iff.1 hj).1
        rwa [hml] at this
      rw [Addr.add_lit, hcell W2.drew b C E fz _ (by show W2.heap[b]? = _; rw [hW2', hold1 _ _ hlt]; exact hb), ← hmg j htl]; exact hj
    · intro j hj; rw [hml] at hj; rw [hcell W2.drew _ _ _ _ _ hN2, Array.getElem?_eq_getElem (by rw [over_size]; omega)]; rfl
    · intro j hj; exact hfro W2.drew _ _ hN2
  have hfin : ∃ C', C'.size = G * 3 ∧ (∀ k, k < (n + 1) * 3 → C'[k]? = if k < i * 3 then C[k]? else if k < (i + 1) * 3 then CV[k - i * 3]? else C[k - 3]?) ∧ W2.drew.setCells w.heap.size ((i + 1) * 3) mv = w.drew.drew.alloc (.cells C' 38) := by
    refine ⟨over (over ROW (i * 3) nv) ((i + 1) * 3) mv, by rw [over_size, over_size, hRl], fun k hk => ?_, ?_⟩
    · rw [over_get _ _ _ _ (by rw [over_size, hml]; omega), hml]
      by_cases h1 : k < i * 3
      · rw [if_neg (by omega), over_get _ _ _ _ (by rw [hnl]; omega), if_neg (by omega), if_pos h1, hRo k h1]
      · rw [if_neg h1]
        by_cases h2 : k < (i + 1) * 3
        · rw [if_neg (by omega), if_pos h2, over_get _ _ _ _ (by rw [hnl]; omega), if_pos (by rw [hnl]; omega), hng _ (by omega)]
        · rw [if_pos (by omega), if_neg h2, hmg _ (by omega)]
          congr 1; omega
    · rw [setCells_over mv _ W2.drew _ hN2 (by rw [over_size, hml]; omega), hW2']
      exact alloc_put w.drew.drew _ _
  obtain ⟨C', k1, k2, k3⟩ := hfin
  have K3 : Aside (W2.drew.setCells w.heap.size ((i + 1) * 3) mv = w.drew.drew.alloc (.cells C' 38)) := k3
  have K2 : Aside (∀ k, k < (n + 1) * 3 → C'[k]? = if k < i * 3 then C[k]? else if k < (i + 1) * 3 then CV[k - i * 3]? else C[k - 3]?) := k2
  have mixed : Tryd.prog.follows Departure.mixedOrders = true := by kernel_rfl
  have hz2 : ¬ ((i : Int) = (n : Int)) := by omega
  have hz3 : (n : Int) < (n : Int) + 1 := by omega
  have hw1 : IntKind.i64.wrap ((i : Int) + 1) = (i : Int) + 1 := by rw [IntKind.wrap_i64]; omega
  have hw2 : IntKind.i64.wrap ((n : Int) + 1) = (n : Int) + 1 := by rw [IntKind.wrap_i64]; omega
  have hw3 : IntKind.i64.wrap ((n : Int) + 1 - (i : Int)) = (n : Int) + 1 - (i : Int) := by rw [IntKind.wrap_i64]; omega
  have q1 : (0 : Int) ≤ (i : Int) + 1 := by omega
  have q2 : ((i : Int) + 1).toNat = i + 1 := by omega
  have q3 : (i : Int) ≤ (n : Int) + 1 := by omega
  have q4 : ¬ (G = i) := by omega
  have q5 : ¬ (G = i + 1) := by omega
  have q6 : ¬ (n = i) := by omega
  have q7 : (i : Int) ≤ (n : Int) := by omega
  have q8 : i ≤ n := by omega
  have q9 : (i : Int) + 1 ≤ (n : Int) + 1 := by omega
  clear hW1 hW2 hW2' hN1 hN2 hb hbv hmg hng hcell hfro hone honeV hmv hnv k2 k3 hog hov hold hRo hRl hROW hG hkk hik hold1 hzr hzs hzone hrun
  go_enter Tryd.func48, Tryd.ntmps48
  go_wp2_with (first
    | (at_builtin; refine Lib.wpList_append_run _ rfl _ _ _ _ rfl _ _ rfl rfl _ _ (hrz _) ?_)
    | (at_builtin; refine wpList_copy_runI _ rfl _ _ 23 23 rfl _ _ rfl rfl (hcpA _ _) ?_))
  go_region_law_o (refine step_copy_runI rfl _ _ 23 23 rfl _ _ (by simp [Act.eval, Act.put]) (by simp [Act.eval, Act.put]) (hcpB _ _ _) ?_)
  go_wp2
  go_ret
  exact ⟨G, C', hGn, rfl, k1, K2.out, K3.out⟩

end Ev
end Go.Proofs.YtojaohcpgelhmaaDoor
