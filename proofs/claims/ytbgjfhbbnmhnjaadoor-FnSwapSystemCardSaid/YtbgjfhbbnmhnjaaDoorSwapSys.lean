/-
  Systems with exchanged letters: plain laws.
-/
import Derived.Test.YtbgjfhbbnmhnjaaDoorStates
import Derived.Test.YtbgjfhbbnmhnjaaDoorSwapS
import Derived.Test.YtbgjfhbbnmhnjaaDoorFnExactAddEdge
import Derived.Test.YtbgjfhbbnmhnjaaDoorWords
namespace Go.Proofs.YtbgjfhbbnmhnjaaDoor
namespace Ev

theorem leE_strict {a b : Edge} (h : leE a b = true) (hne : a ≠ b) : beforeE a b = true := by
  unfold leE at h
  cases hb : beforeE a b with
  | true => rfl
  | false =>
    have h2 : beforeE b a = false := by simpa using h
    exact absurd (beforeE_total hb h2) hne

theorem swapE_swapE (x y : Int) (e : Edge) : swapE x y (swapE x y e) = e := by
  unfold swapE
  simp only [swapI_swapI]

theorem sorted_nodup {l : List Edge} (h : SortedE l) : l.Nodup := by
  refine List.Pairwise.imp ?_ h
  intro a b hab e
  subst e
  rw [beforeE_irrefl] at hab; cases hab

theorem swap_sorted {l : List Edge} {x y : Int} (h : SortedE l) : SortedE (sortE (l.map (swapE x y))) := by
  have hn : (l.map (swapE x y)).Nodup := by
    refine List.pairwise_map.2 ((sorted_nodup h).imp fun {a b} hne hab => hne ?_)
    have := congrArg (swapE x y) hab
    simpa only [swapE_swapE] using this
  have hn2 : (sortE (l.map (swapE x y))).Nodup := (sortE_perm _).nodup_iff.2 hn
  exact List.Pairwise.imp₂ (fun a b hab hne => leE_strict hab hne) (sortE_sorted _) hn2

theorem isLet_swap {l x y : Int} (hl : isLet l = true) (hx : isLet x = true) (hy : isLet y = true) : isLet (swapI l x y) = true := by
  unfold swapI
  split
  · exact hy
  · split
    · exact hx
    · exact hl

theorem swap_valid {al st x y : Int} {l : List Edge} (h : sysOK ⟨al, st, l⟩ = true) (hx : isLet x = true) (hy : isLet y = true) : sysOK ⟨swapAlpha al x y, st, sortE (l.map (swapE x y))⟩ = true := by
  have h' := h
  unfold sysOK at h'
  simp only [Bool.and_eq_true, decide_eq_true_eq] at h'
  refine sysOK_of (swapAlpha_alpha h'.1.1.1 hx hy) h'.1.1.2 h'.1.2 (fun e he => ?_) (swap_sorted (sysOK_sorted h))
  obtain ⟨e0, he0, rfl⟩ := List.mem_map.1 ((sortE_perm _).mem_iff.1 he)
  have h1 := sysOK_edge h he0
  unfold edgeOK at h1 ⊢
  simp only [Bool.and_eq_true, decide_eq_true_eq] at h1 ⊢
  have hl : isLet e0.lt = true := by unfold isLet; simp; omega
  have hl2 := isLet_swap hl hx hy
  have hl3 := hl2
  unfold isLet at hl3
  simp only [decide_eq_true_eq] at hl3
  refine ⟨⟨⟨⟨⟨⟨h1.1.1.1.1.1.1, h1.1.1.1.1.1.2⟩, h1.1.1.1.1.2⟩, h1.1.1.1.2⟩, ?_⟩, ?_⟩, ?_⟩
  · exact hl3.1
  · exact hl3.2
  · show bitAt (swapAlpha al x y) (swapI e0.lt x y) = true
    rw [swapAlpha_bit h'.1.1.1 hx hy hl2, swapI_swapI]
    exact h1.2

theorem swap_back {al st x y : Int} {l : List Edge} (h : sysOK ⟨al, st, l⟩ = true) (hx : isLet x = true) (hy : isLet y = true) : swapS ⟨swapAlpha al x y, st, sortE (l.map (swapE x y))⟩ x y = some ⟨al, st, l⟩ := by
  have h' := h
  unfold sysOK at h'
  simp only [Bool.and_eq_true, decide_eq_true_eq] at h'
  unfold swapS
  rw [swap_valid h hx hy, hx, hy]
  simp only [Bool.and_self, if_true]
  rw [swapAlpha_twice h'.1.1.1 hx hy]
  congr 2
  refine sorted_unique (sortE_sorted _) ((sysOK_sorted h).imp leE_of_before) ?_
  refine (sortE_perm _).trans (((sortE_perm _).map _).trans ?_)
  rw [List.map_map]
  have : (swapE x y ∘ swapE x y) = id := by funext e; exact swapE_swapE x y e
  rw [this, List.map_id]

/-- The table of the exchanged system. -/
theorem swap_mv {al st x y : Int} {l : List Edge} (h : sysOK ⟨al, st, l⟩ = true) (hx : isLet x = true) (hy : isLet y = true) {c : Int} (hc : isLet c = true) (k : Nat) :
    mvAt (sortE (l.map (swapE x y))).reverse (k * 6 + (swapI c x y).toNat) = mvAt l.reverse (k * 6 + c.toNat) := by
  have hv := sys_bounds h
  have hc' := hc
  unfold isLet at hc'
  simp only [decide_eq_true_eq] at hc'
  have hs := isLet_swap hc hx hy
  unfold isLet at hs
  simp only [decide_eq_true_eq] at hs
  apply Nat.eq_of_testBit_eq
  intro j
  rw [Bool.eq_iff_iff, mvAt_bit, mvAt_bit]
  constructor
  · rintro ⟨e, he, h1, h2⟩
    obtain ⟨e0, he0, rfl⟩ := List.mem_map.1 ((sortE_perm _).mem_iff.1 (List.mem_reverse.1 he))
    have b := hv e0 he0
    have hl : isLet e0.lt = true := by unfold isLet; simp; omega
    have hb := isLet_swap hl hx hy
    unfold isLet at hb
    simp only [decide_eq_true_eq] at hb
    refine ⟨e0, List.mem_reverse.2 he0, ?_, h2⟩
    have h1 : e0.fr.toNat * 6 + (swapI e0.lt x y).toNat = k * 6 + (swapI c x y).toNat := h1
    have h3 : swapI e0.lt x y = swapI c x y := by omega
    have h4 : e0.lt = c := by
      have := congrArg (fun z => swapI z x y) h3
      simpa only [swapI_swapI] using this
    rw [h4]
    omega
  · rintro ⟨e, he, h1, h2⟩
    have he := List.mem_reverse.1 he
    have b := hv e he
    refine ⟨swapE x y e, List.mem_reverse.2 ((sortE_perm _).mem_iff.2 (List.mem_map_of_mem he)), ?_, h2⟩
    have h3 : e.lt = c := by omega
    show e.fr.toNat * 6 + (swapI e.lt x y).toNat = _
    rw [h3]
    omega

theorem saGo_same {l l' : List Edge} {w w' : List UInt8} (hl : w'.length = w.length) (hs : ∀ i, i < w.length → ∀ s, stepL l' (w'.getD i 0) s = stepL l (w.getD i 0) s) : ∀ (j i s : Nat), saGo l' w' j i s = saGo l w j i s
  | 0, i, s => rfl
  | j + 1, i, s => by
    unfold saGo
    rw [hl]
    split
    · rename_i h
      rw [hs i h.1, saGo_same hl hs j]
    · rfl

theorem swap_states {al st x y : Int} {l : List Edge} {w : List UInt8} (h : sysOK ⟨al, st, l⟩ = true) (hx : isLet x = true) (hy : isLet y = true) (hw : wordIn al w = true) :
    statesAfter ⟨swapAlpha al x y, st, sortE (l.map (swapE x y))⟩ (swapWord w x y) = statesAfter ⟨al, st, l⟩ w := by
  have h' := h
  unfold sysOK at h'
  simp only [Bool.and_eq_true, decide_eq_true_eq] at h'
  have ha := h'.1.1.1
  have hw' := hw
  unfold wordIn at hw'
  simp only [Bool.and_eq_true, decide_eq_true_eq] at hw'
  have hin : ∀ b ∈ w, okB b = true ∧ bitAt al (ltr b) = true := by
    intro b hb
    have := List.all_eq_true.1 hw'.2 b hb
    unfold inB at this
    simpa only [Bool.and_eq_true] using this
  have hok : wordOK w = true := by
    unfold wordOK
    simp only [Bool.and_eq_true, decide_eq_true_eq, List.all_eq_true]
    exact ⟨hw'.1.2, fun b hb => (hin b hb).1⟩
  have hm := swapWord_map hok hx hy
  have hin2 : wordIn (swapAlpha al x y) (swapWord w x y) = true := by
    rw [hm]
    unfold wordIn
    simp only [Bool.and_eq_true, decide_eq_true_eq, List.length_map, List.all_eq_true, List.mem_map]
    refine ⟨⟨swapAlpha_alpha ha hx hy, hw'.1.2⟩, ?_⟩
    rintro b ⟨b0, hb0, rfl⟩
    obtain ⟨h1, h2⟩ := hin b0 hb0
    unfold inB
    rw [swapB_ok h1 hx hy, swapB_ltr h1 hx hy, swapAlpha_bit ha hx hy (isLet_swap h1 hx hy), swapI_swapI, h2]
    rfl
  unfold statesAfter
  rw [swap_valid h hx hy, h, hw, hin2]
  simp only [Bool.and_self, if_true]
  rw [hm, List.length_map]
  rw [saGo_same (l := l.reverse) (w := w) (by rw [List.length_map])]
  intro i hi s
  have hg : (w.map (swapB x y)).getD i 0 = swapB x y (w.getD i 0) := by
    simp [List.getD_eq_getElem?_getD, hi]
  have hb : w.getD i 0 ∈ w := by rw [List.getD_eq_getElem?_getD, List.getElem?_eq_getElem hi]; exact List.getElem_mem hi
  rw [hg]
  unfold stepL
  rw [swapB_ltr (hin _ hb).1 hx hy]
  have : (fun k => mvAt (sortE (l.map (swapE x y))).reverse (k * 6 + (swapI (ltr (w.getD i 0)) x y).toNat)) = fun k => mvAt l.reverse (k * 6 + (ltr (w.getD i 0)).toNat) := by
    funext k
    exact swap_mv h hx hy (hin _ hb).1 k
  rw [this]

end Ev
end Go.Proofs.YtbgjfhbbnmhnjaaDoor
