/-
  Adding an edge: both put it at the same place.
-/
import Derived.Test.YtojaohcpgelhmaaDoorAdd
import Derived.Test.YtojaohcpgelhmaaDoorDropS
section
set_option linter.unusedSimpArgs false
set_option linter.unusedVariables false
namespace Go.Proofs.YtojaohcpgelhmaaDoor
namespace Ev

theorem bsE_posE {l : List Edge} (h : SortedE l) (e : Edge) : bsE l e = posE e l := by
  have hs := bsE_spec h e
  have h1 := bsE_le (l := l) (e := e)
  have h2 := posE_le e l
  rcases Nat.lt_trichotomy (bsE l e) (posE e l) with hlt | heq | hgt
  · have a := posE_before e l (bsE l e) hlt
    have b := hs.2 (bsE l e) (Nat.le_refl _) (by omega)
    rw [a] at b; cases b
  · exact heq
  · have a := posE_at e l (by omega)
    have b := hs.1 (posE e l) hgt
    rw [a] at b; cases b

theorem leE_of_before {a b : Edge} (h : beforeE a b = true) : leE a b = true := by
  unfold leE
  unfold beforeE at h ⊢
  by_cases h1 : a.fr = b.fr
  · by_cases h2 : a.lt = b.lt
    · simp only [h1, h2, if_true, decide_eq_true_eq] at h ⊢
      simp; omega
    · have h2' : ¬ b.lt = a.lt := fun e => h2 e.symm
      simp only [h1, h2, h2', if_true, if_false, decide_eq_true_eq] at h ⊢
      simp; omega
  · have h1' : ¬ b.fr = a.fr := fun e => h1 e.symm
    simp only [h1, h1', if_false, decide_eq_true_eq] at h ⊢
    simp; omega

theorem putE_sort {l : List Edge} (h : SortedE l) (e : Edge) : putE l (bsE l e) e = sortE (l ++ [e]) := by
  have e1 : putE l (bsE l e) e = insE e l := by rw [bsE_posE h]; rfl
  rw [e1]
  have hl : l.Pairwise fun a b => leE a b = true := h.imp leE_of_before
  refine sorted_unique (insE_sorted e l hl) (sortE_sorted _) ?_
  exact (insE_perm e l).trans ((List.perm_append_singleton e l).symm.trans (sortE_perm _).symm)

theorem sysOK_of {s : Sys} (h1 : isAlpha s.al = true) (h2 : 1 ≤ s.st) (h3 : s.st ≤ 16) (he : ∀ e ∈ s.es, edgeOK s.al s.st e = true) (hs : SortedE s.es) : sysOK s = true := by
  unfold sysOK
  simp only [Bool.and_eq_true, decide_eq_true_eq]
  refine ⟨⟨⟨h1, h2⟩, h3⟩, ?_⟩
  rw [Option.isNone_iff_eq_none, seek_none]
  intro k _ hk
  have hk' : k < s.es.length := by omega
  unfold badAt
  have a := he (s.es.getD k default) (by rw [List.getD_eq_getElem?_getD, List.getElem?_eq_getElem hk']; exact List.getElem_mem hk')
  rw [a]
  by_cases h0 : 0 < k
  · have b := sorted_get hs (i := k - 1) (j := k) (by omega) hk'
    rw [b]; simp
  · simp [h0]

theorem put_sorted {l : List Edge} (h : SortedE l) {e : Edge} (hh : hitE l e = false) : SortedE (putE l (bsE l e) e) := by
  have hs := bsE_spec h e
  have hn := hit_none h hh
  unfold idxE at hn
  rw [seek_none] at hn
  unfold putE SortedE
  rw [List.pairwise_append, List.pairwise_cons]
  have ha : ∀ x ∈ l.take (bsE l e), beforeE x e = true := by
    intro x hx
    obtain ⟨k, hk⟩ := List.getElem?_of_mem hx
    rw [List.getElem?_take] at hk
    split at hk
    · rename_i hlt
      have := hs.1 k hlt
      rwa [List.getD_eq_getElem?_getD, hk] at this
    · cases hk
  have hb : ∀ y ∈ l.drop (bsE l e), beforeE e y = true := by
    intro y hy
    obtain ⟨k, hk⟩ := List.getElem?_of_mem hy
    rw [List.getElem?_drop] at hk
    have hl := (List.getElem?_eq_some_iff.1 hk).1
    have a := hs.2 (bsE l e + k) (by omega) hl
    rw [List.getD_eq_getElem?_getD, hk] at a
    have b := hn (bsE l e + k) (by omega) (by omega)
    rw [List.getD_eq_getElem?_getD, hk] at b
    cases hc : beforeE e y with
    | true => rfl
    | false =>
      have := beforeE_total a hc
      simp only [Option.getD_some] at this b
      rw [this] at b; simp at b
  exact ⟨h.sublist (List.take_sublist _ _), ⟨hb, h.sublist (List.drop_sublist _ _)⟩, fun x hx y hy => by
    rcases List.mem_cons.1 hy with rfl | hy
    · exact ha x hx
    · exact beforeE_trans (ha x hx) (hb y hy)⟩

theorem sysOK_put {al st : Int} {l : List Edge} {e : Edge} (h : sysOK ⟨al, st, l⟩ = true) (hh : hitE l e = false) : sysOK ⟨al, st, putE l (bsE l e) e⟩ = edgeOK al st e := by
  have hs : SortedE l := sysOK_sorted h
  have hm : e ∈ putE l (bsE l e) e := by unfold putE; simp
  cases hq : edgeOK al st e with
  | false =>
    cases hp : sysOK ⟨al, st, putE l (bsE l e) e⟩ with
    | false => rfl
    | true => have := sysOK_edge hp hm; rw [hq] at this; cases this
  | true =>
    have h' := h
    unfold sysOK at h'
    simp only [Bool.and_eq_true, decide_eq_true_eq] at h'
    refine sysOK_of h'.1.1.1 h'.1.1.2 h'.1.2 (fun x hx => ?_) (put_sorted hs hh)
    have hx : x ∈ l.take (bsE l e) ++ e :: l.drop (bsE l e) := hx
    rcases List.mem_append.1 hx with hx | hx
    · exact sysOK_edge h (List.mem_of_mem_take hx)
    · rcases List.mem_cons.1 hx with rfl | hx
      · exact hq
      · exact sysOK_edge h (List.mem_of_mem_drop hx)

/-- Both add alike. -/
theorem add_same (s : Sys) (e : Edge) : addI s e = addS s e := by
  obtain ⟨al, st, l⟩ := s
  unfold addI addS
  cases h1 : sysOK ⟨al, st, l⟩ with
  | false => simp
  | true =>
    have hs : SortedE l := sysOK_sorted h1
    cases h2 : hitE l e with
    | true => simp [hit_some hs h2, h2]
    | false =>
      have h3 := sysOK_put h1 h2
      rw [putE_sort hs] at h3
      simp only [hit_none hs h2, h2, putE_sort hs, h3]
      simp

end Ev
end Go.Proofs.YtojaohcpgelhmaaDoor
end

/-!
  The law: the program's DropEdge and the reference's answer the same, and share no memory.
-/
section
set_option linter.unusedSimpArgs false
set_option linter.unusedVariables false
set_option maxRecDepth 8000
set_option pp.maxSteps 6000
set_option maxHeartbeats 4000000
namespace Go.Proofs.YtojaohcpgelhmaaDoor
namespace Ev

end Ev
end Go.Proofs.YtojaohcpgelhmaaDoor
end

/-!
  The law: the program's AddEdge and the reference's answer the same, and share no memory.
-/
section
set_option linter.unusedSimpArgs false
set_option linter.unusedVariables false
set_option maxRecDepth 8000
set_option pp.maxSteps 6000
set_option maxHeartbeats 4000000
namespace Go.Proofs.YtojaohcpgelhmaaDoor
namespace Ev

theorem clean_edgesA : ∀ l : List Edge, (edgesD l).all cleanD = true
  | [] => rfl
  | e :: l => by rw [edgesD_cons]; simp [cleanD, clean_edgesA l]

theorem kc_i_AddEdge {R : Type} {L n id : Nat} {hq : H} {k : A → H → Option R} (hn : 7 ≤ n) (al st a b c : Int) (l : List Edge) (hi : hq[id]? = some (.arr (edgesD l) 3 0)) (hl : l.length ≤ 4294967290) (hL : 2 ^ 60 ≤ L) :
    kCall env (evCall env L n) hq 15 [.agg [.d (.int .i64 al), .d (.int .i64 st), .sl id 0 0 l.length], .agg [.d (.int .i64 a), .d (.int .i64 b), .d (.int .i64 c)]] k
    = k (.tup [.agg [.d (.int .i64 (oS (addS ⟨al, st, l⟩ ⟨a, b, c⟩)).al), .d (.int .i64 (oS (addS ⟨al, st, l⟩ ⟨a, b, c⟩)).st), .sl hq.length 0 0 (oS (addS ⟨al, st, l⟩ ⟨a, b, c⟩)).es.length], .d (.bool (addS ⟨al, st, l⟩ ⟨a, b, c⟩).isSome)]) (hq ++ [.arr (edgesD (oS (addS ⟨al, st, l⟩ ⟨a, b, c⟩)).es) (oZ (addS ⟨al, st, l⟩ ⟨a, b, c⟩)) 0]) := by
  rw [kCall_lay1 hi (by simp [idsL, idsA]) mode_i_AddEdge (frz_sys rfl) (ev_i_AddEdge hn al st a b c l hl hL _ (add_same _ _)) (by simp only [cleanA, cleanAs, cleanD, cleanO, clean_edgesA, Bool.and_self])]
  simp [mapA, mapAs, back, mapO]

end Ev
end Go.Proofs.YtojaohcpgelhmaaDoor
end
