/-
  The exact laws' own functions, at edges and systems: copies, comparisons, marks.
-/
import Derived.Test.YtojaohcpgelhmaaDoorEdges
section
set_option linter.unusedSimpArgs false
set_option linter.unusedVariables false
set_option maxRecDepth 8000
set_option pp.maxSteps 6000
set_option maxHeartbeats 4000000
namespace Go.Proofs.YtojaohcpgelhmaaDoor
namespace Ev

theorem edges_set0 {l : List Edge} {k : Nat} {v : Int} (h : k < l.length) : setRun (edgesD l) (k * 3) [.int .i64 v] = edgesD (l.set k ⟨v, (l.getD k default).lt, (l.getD k default).to⟩) := by
  unfold setRun
  rw [edgesD_takek, List.length_singleton, ← List.drop_drop, edges_drop h, List.set_eq_take_append_cons_drop, if_pos h, ← edgesD_app, edgesD_cons]
  simp
theorem edges_set1 {l : List Edge} {k : Nat} {v : Int} (h : k < l.length) : setRun (edgesD l) (k * 3 + 1) [.int .i64 v] = edgesD (l.set k ⟨(l.getD k default).fr, v, (l.getD k default).to⟩) := by
  have e : (edgesD l).take (k * 3 + 1) = edgesD (l.take k) ++ [.int .i64 (l.getD k default).fr] := by
    rw [List.take_add, edgesD_takek, edges_drop h]; rfl
  unfold setRun
  rw [e, List.length_singleton, Nat.add_assoc, ← List.drop_drop, edges_drop h, List.set_eq_take_append_cons_drop, if_pos h, ← edgesD_app, edgesD_cons]
  simp
theorem edges_set2 {l : List Edge} {k : Nat} {v : Int} (h : k < l.length) : setRun (edgesD l) (k * 3 + 2) [.int .i64 v] = edgesD (l.set k ⟨(l.getD k default).fr, (l.getD k default).lt, v⟩) := by
  have e : (edgesD l).take (k * 3 + 2) = edgesD (l.take k) ++ [.int .i64 (l.getD k default).fr, .int .i64 (l.getD k default).lt] := by
    rw [List.take_add, edgesD_takek, edges_drop h]; rfl
  unfold setRun
  rw [e, List.length_singleton, Nat.add_assoc, ← List.drop_drop, edges_drop h, List.set_eq_take_append_cons_drop, if_pos h, ← edgesD_app, edgesD_cons]
  simp

end Ev
end Go.Proofs.YtojaohcpgelhmaaDoor
end

/-!
  Binary search, sorted edges: plain laws.
-/
section
set_option linter.unusedSimpArgs false
set_option linter.unusedVariables false
namespace Go.Proofs.YtojaohcpgelhmaaDoor
namespace Ev

/-- Where the search ends. -/
def bsF (p : Nat → Bool) : Nat → Nat → Nat → Nat
  | 0, i, _ => i
  | k + 1, i, j => if i < j then (if p ((i + j) / 2) = true then bsF p k ((i + j) / 2 + 1) j else bsF p k i ((i + j) / 2)) else i

theorem bsF_bounds {p : Nat → Bool} : ∀ {k i j : Nat}, i ≤ j → i ≤ bsF p k i j ∧ bsF p k i j ≤ j
  | 0, i, j, h => ⟨Nat.le_refl _, h⟩
  | k + 1, i, j, h => by
    simp only [bsF]
    by_cases h1 : i < j
    · rw [if_pos h1]
      by_cases h2 : p ((i + j) / 2) = true
      · rw [if_pos h2]
        have := bsF_bounds (p := p) (k := k) (i := (i + j) / 2 + 1) (j := j) (by omega)
        omega
      · rw [if_neg h2]
        have := bsF_bounds (p := p) (k := k) (i := i) (j := (i + j) / 2) (by omega)
        omega
    · rw [if_neg h1]; omega

theorem bsF_spec {p : Nat → Bool} (hm : ∀ a b, a ≤ b → p b = true → p a = true) : ∀ {k i j : Nat}, i ≤ j → j - i ≤ k → (∀ h, i ≤ h → h < bsF p k i j → p h = true) ∧ (∀ h, bsF p k i j ≤ h → h < j → p h = false)
  | 0, i, j, h, hk => by simp only [bsF]; exact ⟨fun h' _ _ => by omega, fun h' _ _ => by omega⟩
  | k + 1, i, j, h, hk => by
    simp only [bsF]
    by_cases h1 : i < j
    · rw [if_pos h1]
      by_cases h2 : p ((i + j) / 2) = true
      · rw [if_pos h2]
        obtain ⟨a, b⟩ := bsF_spec hm (k := k) (i := (i + j) / 2 + 1) (j := j) (by omega) (by omega)
        refine ⟨fun h' h3 h4 => ?_, b⟩
        by_cases h5 : h' ≤ (i + j) / 2
        · exact hm _ _ h5 h2
        · exact a h' (by omega) h4
      · rw [if_neg h2]
        obtain ⟨a, b⟩ := bsF_spec hm (k := k) (i := i) (j := (i + j) / 2) (by omega) (by omega)
        refine ⟨a, fun h' h3 h4 => ?_⟩
        by_cases h5 : h' < (i + j) / 2
        · exact b h' h3 h5
        · cases hp : p h' with
          | false => rfl
          | true => exact absurd (hm _ _ (by omega) hp) h2
    · rw [if_neg h1]; exact ⟨fun h' _ _ => by omega, fun h' _ _ => by omega⟩

/-! ### the order of edges -/

theorem beforeE_irrefl {e : Edge} : beforeE e e = false := by simp [beforeE]
theorem beforeE_trans {e f g : Edge} (h1 : beforeE e f = true) (h2 : beforeE f g = true) : beforeE e g = true := by
  unfold beforeE at *
  split at h1 <;> split at h2 <;> (try split at h1) <;> (try split at h2) <;> simp only [decide_eq_true_eq] at h1 h2 <;> (split <;> (try split) <;> simp only [decide_eq_true_eq] <;> omega)
theorem beforeE_total {e f : Edge} (h1 : beforeE e f = false) (h2 : beforeE f e = false) : e = f := by
  obtain ⟨a, b, c⟩ := e
  obtain ⟨a', b', c'⟩ := f
  simp only [beforeE] at h1 h2
  have : a = a' ∧ b = b' ∧ c = c' := by
    split at h1 <;> split at h2 <;> (try split at h1) <;> (try split at h2) <;> simp only [decide_eq_false_iff_not] at h1 h2 <;> refine ⟨?_, ?_, ?_⟩ <;> omega
  obtain ⟨rfl, rfl, rfl⟩ := this
  rfl
theorem beforeE_asymm {e f : Edge} (h : beforeE e f = true) : beforeE f e = false := by
  cases h2 : beforeE f e with
  | false => rfl
  | true => have := beforeE_trans h h2; rw [beforeE_irrefl] at this; cases this

theorem cmpE_lt {e f : Edge} : decide (cmpE e f < 0) = beforeE e f := by
  have h := beforeE_cmp (e := e) (f := f)
  by_cases h1 : 0 ≤ cmpE e f
  · have h2 : ¬ cmpE e f < 0 := by omega
    simp only [h1, decide_true] at h
    simp only [h2, decide_false]
    cases hb : beforeE e f <;> simp_all
  · have h2 : cmpE e f < 0 := by omega
    simp only [h1, decide_false] at h
    simp only [h2, decide_true]
    cases hb : beforeE e f <;> simp_all

theorem cmpI_zero {a b : Int} : cmpI a b = 0 ↔ a = b := by
  unfold cmpI
  split
  · constructor <;> intro h <;> omega
  · split
    · constructor <;> intro h <;> omega
    · constructor <;> intro h <;> omega

theorem cmpE_zero {e f : Edge} : cmpE e f = 0 ↔ e = f := by
  obtain ⟨a, b, c⟩ := e
  obtain ⟨a', b', c'⟩ := f
  simp only [cmpE, firstNZ, Edge.mk.injEq]
  by_cases h1 : cmpI a a' = 0
  · rw [if_pos h1]
    by_cases h2 : cmpI b b' = 0
    · rw [if_pos h2]
      by_cases h3 : cmpI c c' = 0
      · rw [if_pos h3]; simp [cmpI_zero.1 h1, cmpI_zero.1 h2, cmpI_zero.1 h3]
      · rw [if_neg h3]
        constructor
        · intro h; exact absurd h h3
        · intro h; exact absurd (cmpI_zero.2 h.2.2) h3
    · rw [if_neg h2]
      constructor
      · intro h; exact absurd h h2
      · intro h; exact absurd (cmpI_zero.2 h.2.1) h2
  · rw [if_neg h1]
    constructor
    · intro h; exact absurd h h1
    · intro h; exact absurd (cmpI_zero.2 h.1) h1

/-- Strictly ascending. -/
def SortedE (l : List Edge) : Prop := l.Pairwise fun a b => beforeE a b = true

theorem sortedE_of {l : List Edge} (h : ∀ i, 0 < i → i < l.length → beforeE (l.getD (i - 1) default) (l.getD i default) = true) : SortedE l := by
  unfold SortedE
  induction l with
  | nil => exact List.Pairwise.nil
  | cons e l ih =>
    have hl := ih fun i h1 h2 => by
      have := h (i + 1) (by omega) (by simp; omega)
      obtain ⟨j, rfl⟩ : ∃ j, i = j + 1 := ⟨i - 1, by omega⟩
      simpa using this
    refine List.Pairwise.cons ?_ hl
    cases l with
    | nil => intro x hx; cases hx
    | cons f l =>
      have h1 := h 1 (by omega) (by simp)
      simp only [Nat.sub_self, List.getD_cons_zero, List.getD_cons_succ] at h1
      intro x hx
      rcases List.mem_cons.1 hx with rfl | hx
      · exact h1
      · exact beforeE_trans h1 ((List.pairwise_cons.1 hl).1 x hx)

theorem sysOK_sorted {s : Sys} (h : sysOK s = true) : SortedE s.es := by
  unfold sysOK at h
  simp only [Bool.and_eq_true] at h
  have h4 := h.2
  rw [Option.isNone_iff_eq_none, seek_none] at h4
  refine sortedE_of fun i h1 h2 => ?_
  have := h4 i (by omega) (by omega)
  unfold badAt at this
  simp only [Bool.or_eq_false_iff, Bool.and_eq_false_imp, decide_eq_true_eq, Bool.not_eq_false'] at this
  exact this.2 h1

theorem sysOK_edge {s : Sys} (h : sysOK s = true) {e : Edge} (he : e ∈ s.es) : edgeOK s.al s.st e = true := by
  unfold sysOK at h
  simp only [Bool.and_eq_true] at h
  have h4 := h.2
  rw [Option.isNone_iff_eq_none, seek_none] at h4
  obtain ⟨i, hi⟩ := List.getElem?_of_mem he
  have hl := (List.getElem?_eq_some_iff.1 hi).1
  have := h4 i (by omega) (by omega)
  unfold badAt at this
  simp only [Bool.or_eq_false_iff, Bool.not_eq_false'] at this
  have h5 := this.1
  rw [List.getD_eq_getElem?_getD, hi] at h5
  exact h5

/-! ### where an edge is -/

/-- The search for an edge. -/
def bsE (l : List Edge) (e : Edge) : Nat := bsF (fun h => beforeE (l.getD h default) e) l.length 0 l.length
def hitE (l : List Edge) (e : Edge) : Bool := decide (bsE l e < l.length) && decide (l.getD (bsE l e) default = e)

theorem bsE_le {l : List Edge} {e : Edge} : bsE l e ≤ l.length := (bsF_bounds (Nat.zero_le _)).2

theorem sorted_get {l : List Edge} (h : SortedE l) {i j : Nat} (hij : i < j) (hj : j < l.length) : beforeE (l.getD i default) (l.getD j default) = true := by
  have hi : i < l.length := by omega
  rw [List.getD_eq_getElem?_getD, List.getElem?_eq_getElem hi, List.getD_eq_getElem?_getD, List.getElem?_eq_getElem hj]
  exact List.pairwise_iff_getElem.1 h i j hi hj hij

theorem bsE_spec {l : List Edge} (h : SortedE l) (e : Edge) : (∀ k, k < bsE l e → beforeE (l.getD k default) e = true) ∧ (∀ k, bsE l e ≤ k → k < l.length → beforeE (l.getD k default) e = false) := by
  have key := bsF_spec (p := fun k => decide (k < l.length) && beforeE (l.getD k default) e) (k := l.length) (i := 0) (j := l.length) (by
    intro a b hab hb
    simp only [Bool.and_eq_true, decide_eq_true_eq] at hb ⊢
    refine ⟨by omega, ?_⟩
    rcases Nat.lt_or_ge a b with h1 | h1
    · exact beforeE_trans (sorted_get h h1 hb.1) hb.2
    · obtain rfl : a = b := by omega
      exact hb.2) (Nat.zero_le _) (by omega)
  have same : ∀ (k i j : Nat), j ≤ l.length → bsF (fun k => decide (k < l.length) && beforeE (l.getD k default) e) k i j = bsF (fun h => beforeE (l.getD h default) e) k i j := by
    intro k
    induction k with
    | zero => intro i j _; rfl
    | succ k ih =>
      intro i j hj
      simp only [bsF]
      by_cases h1 : i < j
      · have h2 : (i + j) / 2 < l.length := by omega
        simp only [h1, h2, decide_true, Bool.true_and, if_true]
        rw [ih _ _ hj, ih _ _ (by omega)]
      · simp only [h1, if_false]
  rw [same _ _ _ (Nat.le_refl _)] at key
  refine ⟨fun k hk => ?_, fun k h1 h2 => ?_⟩
  · have := key.1 k (Nat.zero_le _) hk
    simp only [Bool.and_eq_true, decide_eq_true_eq] at this
    exact this.2
  · have := key.2 k h1 h2
    simpa [h2] using this

/-- The first index of an edge. -/
def idxE (l : List Edge) (e : Edge) : Option Nat := seek (fun k => decide (l.getD k default = e)) l.length 0

theorem hit_some {l : List Edge} (h : SortedE l) {e : Edge} (hh : hitE l e = true) : idxE l e = some (bsE l e) := by
  unfold hitE at hh
  simp only [Bool.and_eq_true, decide_eq_true_eq] at hh
  obtain ⟨h1, h2⟩ := hh
  unfold idxE
  cases hs : seek (fun k => decide (l.getD k default = e)) l.length 0 with
  | none =>
    rw [seek_none] at hs
    have := hs (bsE l e) (by omega) (by omega)
    simp only [h2, decide_true, Bool.true_eq_false] at this
  | some r =>
    obtain ⟨_, a1, a2, a3⟩ := seek_some hs
    simp only [decide_eq_true_eq] at a2
    congr 1
    rcases Nat.lt_trichotomy r (bsE l e) with h3 | h3 | h3
    · have := sorted_get h h3 h1
      rw [a2, h2, beforeE_irrefl] at this; cases this
    · exact h3
    · have := sorted_get h h3 (by omega)
      rw [a2, h2, beforeE_irrefl] at this; cases this

theorem hit_none {l : List Edge} (h : SortedE l) {e : Edge} (hh : hitE l e = false) : idxE l e = none := by
  unfold idxE
  rw [seek_none]
  intro k _ hk
  have hk : k < l.length := by omega
  simp only [decide_eq_false_iff_not]
  intro he
  obtain ⟨h1, h2⟩ := bsE_spec h e
  rcases Nat.lt_trichotomy k (bsE l e) with h3 | h3 | h3
  · have := h1 k h3
    rw [he, beforeE_irrefl] at this; cases this
  · subst h3
    unfold hitE at hh
    simp only [hk, he, decide_true, Bool.and_self] at hh
    cases hh
  · have h4 := h2 (bsE l e) (Nat.le_refl _) (by omega)
    have h5 := sorted_get h h3 hk
    rw [he] at h5
    rw [h5] at h4; cases h4

end Ev
end Go.Proofs.YtojaohcpgelhmaaDoor
end

/-!
  impl.SystemValid.
-/
section
set_option linter.unusedSimpArgs false
set_option linter.unusedVariables false
set_option maxRecDepth 8000
set_option pp.maxSteps 6000
set_option maxHeartbeats 4000000
namespace Go.Proofs.YtojaohcpgelhmaaDoor
namespace Ev

theorem edgeOK_eq {al st : Int} {e : Edge} : edgeOK al st e = (decide (0 ≤ e.fr) && (decide (e.fr < st) && (decide (0 ≤ e.to) && (decide (e.to < st) && (!decide (6 ≤ e.lt) && (decide (0 ≤ e.lt) && bitAt al e.lt)))))) := by
  have : decide (e.lt < 6) = !decide (6 ≤ e.lt) := by by_cases h : e.lt < 6 <;> simp [h] <;> omega
  unfold edgeOK
  rw [this]
  cases decide (0 ≤ e.fr) <;> cases decide (e.fr < st) <;> cases decide (0 ≤ e.to) <;> cases decide (e.to < st) <;> cases decide (0 ≤ e.lt) <;> cases decide (6 ≤ e.lt) <;> rfl

theorem good_cases {al st : Int} {l : List Edge} {i : Nat} (h : badAt al st l i = false) : 0 ≤ (l.getD i default).fr ∧ (l.getD i default).fr < st ∧ 0 ≤ (l.getD i default).to ∧ (l.getD i default).to < st ∧ ¬ 6 ≤ (l.getD i default).lt ∧ 0 ≤ (l.getD i default).lt ∧ bitAt al (l.getD i default).lt = true ∧ (0 < i → ¬ 0 ≤ cmpE (l.getD (i - 1) default) (l.getD i default)) := by
  have hc := beforeE_cmp (e := l.getD (i - 1) default) (f := l.getD i default)
  unfold badAt at h
  rw [edgeOK_eq] at h
  simp only [Bool.or_eq_false_iff, Bool.not_eq_false', Bool.and_eq_true, decide_eq_true_eq, Bool.not_eq_true', decide_eq_false_iff_not, Bool.and_eq_false_imp] at h
  obtain ⟨⟨h1, h2, h3, h4, h5, h6, h7⟩, h8⟩ := h
  refine ⟨h1, h2, h3, h4, h5, h6, h7, fun hz => ?_⟩
  rw [h8 hz] at hc
  simpa using hc

theorem bad_cases {al st : Int} {l : List Edge} {i : Nat} (h : badAt al st l i = true) : ¬ 0 ≤ (l.getD i default).fr ∨ 0 ≤ (l.getD i default).fr ∧ (¬ (l.getD i default).fr < st ∨ (l.getD i default).fr < st ∧ (¬ 0 ≤ (l.getD i default).to ∨ 0 ≤ (l.getD i default).to ∧ (¬ (l.getD i default).to < st ∨ (l.getD i default).to < st ∧ (6 ≤ (l.getD i default).lt ∨ ¬ 6 ≤ (l.getD i default).lt ∧ (¬ 0 ≤ (l.getD i default).lt ∨ 0 ≤ (l.getD i default).lt ∧ (bitAt al (l.getD i default).lt = false ∨ bitAt al (l.getD i default).lt = true ∧ 0 < i ∧ 0 ≤ cmpE (l.getD (i - 1) default) (l.getD i default))))))) := by
  have hc := beforeE_cmp (e := l.getD (i - 1) default) (f := l.getD i default)
  unfold badAt at h
  rw [edgeOK_eq] at h
  by_cases h1 : 0 ≤ (l.getD i default).fr
  · refine .inr ⟨h1, ?_⟩
    by_cases h2 : (l.getD i default).fr < st
    · refine .inr ⟨h2, ?_⟩
      by_cases h3 : 0 ≤ (l.getD i default).to
      · refine .inr ⟨h3, ?_⟩
        by_cases h4 : (l.getD i default).to < st
        · refine .inr ⟨h4, ?_⟩
          by_cases h5 : 6 ≤ (l.getD i default).lt
          · exact .inl h5
          · refine .inr ⟨h5, ?_⟩
            by_cases h6 : 0 ≤ (l.getD i default).lt
            · refine .inr ⟨h6, ?_⟩
              cases h7 : bitAt al (l.getD i default).lt with
              | false => exact .inl rfl
              | true =>
                simp only [h1, h2, h3, h4, h5, h6, h7, decide_true, decide_false, Bool.not_false, Bool.and_self, Bool.not_true, Bool.false_or, Bool.and_eq_true, decide_eq_true_eq] at h
                rw [h.2] at hc
                exact .inr ⟨rfl, h.1, by simpa using hc⟩
            · exact .inl h6
        · exact .inl h4
      · exact .inl h3
    · exact .inl h2
  · exact .inl h1

theorem loop_i_SystemValid {R : Type} {L n : Nat} (hL : 2 ^ 60 ≤ L) (hn : 5 ≤ n) {al st : Int} {l : List Edge} (hl : l.length ≤ 4294967296) {k : Exit → List A → H → Option R} : ∀ (j : Nat) (i : Int) (m : Nat) (h0 : 0 ≤ i) (hi : i + j = l.length) (hm : j < m),
    kLoop env (evCall env L n) L 0 [] (false :: true :: true :: false :: false :: false :: false :: false :: false :: false :: false :: false :: false :: false :: false :: false :: false :: false :: false :: false :: true :: true :: true :: false :: false :: false :: false :: false :: false :: false :: false :: false :: false :: false :: false :: false :: false :: false :: false :: false :: false :: false :: false :: false :: false :: false :: false :: false :: false :: false :: false :: false :: false :: false :: false :: false :: false :: false :: false :: false :: false :: false :: false :: false :: false :: false :: false :: false :: []) (lp_i_SystemValid 0) (true :: false :: false :: true :: true :: true :: true :: true :: true :: true :: true :: true :: true :: true :: true :: true :: true :: true :: true :: true :: false :: false :: false :: true :: true :: true :: true :: true :: true :: true :: true :: true :: true :: true :: true :: true :: true :: true :: true :: true :: true :: true :: true :: true :: true :: true :: true :: true :: true :: true :: true :: true :: true :: true :: true :: true :: true :: true :: true :: true :: true :: true :: true :: true :: true :: true :: true :: true :: []) m (.junk :: .ptr 0 0 0 :: .d (.bool false) :: .junk :: .junk :: .junk :: .junk :: .junk :: .junk :: .junk :: .junk :: .junk :: .junk :: .junk :: .junk :: .junk :: .junk :: .junk :: .junk :: .junk :: .d (.ivs l.length (edgesD l)) :: .d (.int .i64 (l.length)) :: .d (.int .i64 i) :: .junk :: .junk :: .junk :: .junk :: .junk :: .junk :: .junk :: .junk :: .junk :: .junk :: .junk :: .junk :: .junk :: .junk :: .junk :: .junk :: .junk :: .junk :: .junk :: .junk :: .junk :: .junk :: .junk :: .junk :: .junk :: .junk :: .junk :: .junk :: .junk :: .junk :: .junk :: .junk :: .junk :: .junk :: .junk :: .junk :: .junk :: .junk :: .junk :: .junk :: .junk :: .junk :: .junk :: .junk :: .junk :: []) [.box [.d (.int .i64 al), .d (.int .i64 st), .d (.ivs l.length (edgesD l))]] k
    = match seek (badAt al st l) j i.toNat with
      | none => k (.exit 0) (.junk :: .ptr 0 0 0 :: .d (.bool false) :: .junk :: .junk :: .junk :: .junk :: .junk :: .junk :: .junk :: .junk :: .junk :: .junk :: .junk :: .junk :: .junk :: .junk :: .junk :: .junk :: .junk :: .d (.ivs l.length (edgesD l)) :: .d (.int .i64 (l.length)) :: .d (.int .i64 (l.length)) :: .junk :: .junk :: .junk :: .junk :: .junk :: .junk :: .junk :: .junk :: .junk :: .junk :: .junk :: .junk :: .junk :: .junk :: .junk :: .junk :: .junk :: .junk :: .junk :: .junk :: .junk :: .junk :: .junk :: .junk :: .junk :: .junk :: .junk :: .junk :: .junk :: .junk :: .junk :: .junk :: .junk :: .junk :: .junk :: .junk :: .junk :: .junk :: .junk :: .junk :: .junk :: .junk :: .junk :: .junk :: .junk :: []) [.box [.d (.int .i64 al), .d (.int .i64 st), .d (.ivs l.length (edgesD l))]]
      | some r => k .ret (.junk :: .ptr 0 0 0 :: .d (.bool false) :: .junk :: .junk :: .junk :: .junk :: .junk :: .junk :: .junk :: .junk :: .junk :: .junk :: .junk :: .junk :: .junk :: .junk :: .junk :: .junk :: .junk :: .d (.ivs l.length (edgesD l)) :: .d (.int .i64 (l.length)) :: .d (.int .i64 r) :: .junk :: .junk :: .junk :: .junk :: .junk :: .junk :: .junk :: .junk :: .junk :: .junk :: .junk :: .junk :: .junk :: .junk :: .junk :: .junk :: .junk :: .junk :: .junk :: .junk :: .junk :: .junk :: .junk :: .junk :: .junk :: .junk :: .junk :: .junk :: .junk :: .junk :: .junk :: .junk :: .junk :: .junk :: .junk :: .junk :: .junk :: .junk :: .junk :: .junk :: .junk :: .junk :: .junk :: .junk :: .junk :: []) [.box [.d (.int .i64 al), .d (.int .i64 st), .d (.ivs l.length (edgesD l))]] := by
  intro j
  induction j with
  | zero =>
    intro i m h0 hi hm
    obtain ⟨m, rfl⟩ : ∃ q, m = q + 1 := ⟨m - 1, by omega⟩
    obtain rfl : i = l.length := by omega
    rw [step_i_SystemValid_0]
    simp only [S_i_SystemValid_0, Tryd.f13, SLM, simprocAttr]
    simp -implicitDefEqProofs (maxSteps := 2000000) (disch := first | assumption | (refine Shut.mk ?_; kernel_rfl) | omega | (simp only [GT]; done) | (simp only [LN] <;> omega) | fail) only [↓WD, ↓kAsg, ↓kRet, ↓clash_free, ↓WDD, ↓kOpD_callv, WK, UN, TY, LB, MD, i64_id, simprocAttr, ↓CV, ↓kc_i_isAlphabet, ↓kc_i_isState, ↓kc_i_has, ↓kc_i_compareEdges, ↓kl_i_isState, ↓kv_i_isState_1, LE, Int.lt_irrefl]
    rfl
  | succ j ih =>
    intro i m h0 hi hm
    obtain ⟨m, rfl⟩ : ∃ q, m = q + 1 := ⟨m - 1, by omega⟩
    have hc : i < l.length := by omega
    have hk : i.toNat < l.length := by omega
    have e1 : (i + 1).toNat = i.toNat + 1 := by omega
    have e2 : (i - 1).toNat = i.toNat - 1 := by omega
    have e3 : ((i.toNat : Nat) : Int) = i := by omega
    cases hb : badAt al st l i.toNat with
    | true =>
      rw [seek_pos hb]
      have hb' := bad_cases hb
      clear hb
      rcases hb' with b1 | ⟨b1, hb'⟩
      · clear ih; rw [step_i_SystemValid_0]
        simp only [S_i_SystemValid_0, Tryd.f13, SLM, simprocAttr]
        simp -implicitDefEqProofs (maxSteps := 2000000) (disch := first | assumption | (refine Shut.mk ?_; kernel_rfl) | omega | (simp only [GT]; done) | (simp only [LN] <;> omega) | fail) only [↓WD, ↓kAsg, ↓kRet, ↓clash_free, ↓WDD, ↓kOpD_callv, WK, UN, TY, LB, MD, i64_id, simprocAttr, ↓CV, ↓kc_i_isAlphabet, ↓kc_i_isState, ↓kc_i_has, ↓kc_i_compareEdges, ↓kl_i_isState, ↓kv_i_isState_1, LE, hc, b1, e3]
      · rcases hb' with b2 | ⟨b2, hb'⟩
        · clear ih; rw [step_i_SystemValid_0]
          simp only [S_i_SystemValid_0, Tryd.f13, SLM, simprocAttr]
          simp -implicitDefEqProofs (maxSteps := 2000000) (disch := first | assumption | (refine Shut.mk ?_; kernel_rfl) | omega | (simp only [GT]; done) | (simp only [LN] <;> omega) | fail) only [↓WD, ↓kAsg, ↓kRet, ↓clash_free, ↓WDD, ↓kOpD_callv, WK, UN, TY, LB, MD, i64_id, simprocAttr, ↓CV, ↓kc_i_isAlphabet, ↓kc_i_isState, ↓kc_i_has, ↓kc_i_compareEdges, ↓kl_i_isState, ↓kv_i_isState_1, LE, hc, b1, b2, e3]
        · rcases hb' with b3 | ⟨b3, hb'⟩
          · clear ih; rw [step_i_SystemValid_0]
            simp only [S_i_SystemValid_0, Tryd.f13, SLM, simprocAttr]
            simp -implicitDefEqProofs (maxSteps := 2000000) (disch := first | assumption | (refine Shut.mk ?_; kernel_rfl) | omega | (simp only [GT]; done) | (simp only [LN] <;> omega) | fail) only [↓WD, ↓kAsg, ↓kRet, ↓clash_free, ↓WDD, ↓kOpD_callv, WK, UN, TY, LB, MD, i64_id, simprocAttr, ↓CV, ↓kc_i_isAlphabet, ↓kc_i_isState, ↓kc_i_has, ↓kc_i_compareEdges, ↓kl_i_isState, ↓kv_i_isState_1, LE, hc, b1, b2, b3, e3]
          · rcases hb' with b4 | ⟨b4, hb'⟩
            · clear ih; rw [step_i_SystemValid_0]
              simp only [S_i_SystemValid_0, Tryd.f13, SLM, simprocAttr]
              simp -implicitDefEqProofs (maxSteps := 2000000) (disch := first | assumption | (refine Shut.mk ?_; kernel_rfl) | omega | (simp only [GT]; done) | (simp only [LN] <;> omega) | fail) only [↓WD, ↓kAsg, ↓kRet, ↓clash_free, ↓WDD, ↓kOpD_callv, WK, UN, TY, LB, MD, i64_id, simprocAttr, ↓CV, ↓kc_i_isAlphabet, ↓kc_i_isState, ↓kc_i_has, ↓kc_i_compareEdges, ↓kl_i_isState, ↓kv_i_isState_1, LE, hc, b1, b2, b3, b4, e3]
            · rcases hb' with b5 | ⟨b5, hb'⟩
              · clear ih; rw [step_i_SystemValid_0]
                simp only [S_i_SystemValid_0, Tryd.f13, SLM, simprocAttr]
                simp -implicitDefEqProofs (maxSteps := 2000000) (disch := first | assumption | (refine Shut.mk ?_; kernel_rfl) | omega | (simp only [GT]; done) | (simp only [LN] <;> omega) | fail) only [↓WD, ↓kAsg, ↓kRet, ↓clash_free, ↓WDD, ↓kOpD_callv, WK, UN, TY, LB, MD, i64_id, simprocAttr, ↓CV, ↓kc_i_isAlphabet, ↓kc_i_isState, ↓kc_i_has, ↓kc_i_compareEdges, ↓kl_i_isState, ↓kv_i_isState_1, LE, hc, b1, b2, b3, b4, b5, e3]
              · rcases hb' with b6 | ⟨b6, hb'⟩
                · clear ih; rw [step_i_SystemValid_0]
                  simp only [S_i_SystemValid_0, Tryd.f13, SLM, simprocAttr]
                  simp -implicitDefEqProofs (maxSteps := 2000000) (disch := first | assumption | (refine Shut.mk ?_; kernel_rfl) | omega | (simp only [GT]; done) | (simp only [LN] <;> omega) | fail) only [↓WD, ↓kAsg, ↓kRet, ↓clash_free, ↓WDD, ↓kOpD_callv, WK, UN, TY, LB, MD, i64_id, simprocAttr, ↓CV, ↓kc_i_isAlphabet, ↓kc_i_isState, ↓kc_i_has, ↓kc_i_compareEdges, ↓kl_i_isState, ↓kv_i_isState_1, LE, hc, b1, b2, b3, b4, b5, b6, e3]
                · rcases hb' with b7 | ⟨b7, hz', hb3⟩
                  · clear ih; rw [step_i_SystemValid_0]
                    simp only [S_i_SystemValid_0, Tryd.f13, SLM, simprocAttr]
                    simp -implicitDefEqProofs (maxSteps := 2000000) (disch := first | assumption | (refine Shut.mk ?_; kernel_rfl) | omega | (simp only [GT]; done) | (simp only [LN] <;> omega) | fail) only [↓WD, ↓kAsg, ↓kRet, ↓clash_free, ↓WDD, ↓kOpD_callv, WK, UN, TY, LB, MD, i64_id, simprocAttr, ↓CV, ↓kc_i_isAlphabet, ↓kc_i_isState, ↓kc_i_has, ↓kc_i_compareEdges, ↓kl_i_isState, ↓kv_i_isState_1, LE, hc, b1, b2, b3, b4, b5, b6, b7, e3]
                  · have hz : 0 < i := by omega
                    have hk2 : (i - 1).toNat < l.length := by omega
                    rw [← e2] at hb3
                    clear hz' ih
                    rw [step_i_SystemValid_0]
                    simp only [S_i_SystemValid_0, Tryd.f13, SLM, simprocAttr]
                    simp -implicitDefEqProofs (maxSteps := 2000000) (disch := first | assumption | (refine Shut.mk ?_; kernel_rfl) | omega | (simp only [GT]; done) | (simp only [LN] <;> omega) | fail) only [↓WD, ↓kAsg, ↓kRet, ↓clash_free, ↓WDD, ↓kOpD_callv, WK, UN, TY, LB, MD, i64_id, simprocAttr, ↓CV, ↓kc_i_isAlphabet, ↓kc_i_isState, ↓kc_i_has, ↓kc_i_compareEdges, ↓kl_i_isState, ↓kv_i_isState_1, LE, hc, hz, b1, b2, b3, b4, b5, b6, b7, hb3, e3]
    | false =>
      rw [seek_neg hb]
      obtain ⟨b1, b2, b3, b4, b5, b6, b7, hb2⟩ := good_cases hb
      clear hb
      by_cases hz : 0 < i
      · have hb4 := hb2 (by omega)
        have hk2 : (i - 1).toNat < l.length := by omega
        rw [← e2] at hb4
        clear hb2
        rw [step_i_SystemValid_0]
        simp only [S_i_SystemValid_0, Tryd.f13, SLM, simprocAttr]
        simp -implicitDefEqProofs (maxSteps := 2000000) (disch := first | assumption | (refine Shut.mk ?_; kernel_rfl) | omega | (simp only [GT]; done) | (simp only [LN] <;> omega) | fail) only [↓WD, ↓kAsg, ↓kRet, ↓clash_free, ↓WDD, ↓kOpD_callv, WK, UN, TY, LB, MD, i64_id, simprocAttr, ↓CV, ↓kc_i_isAlphabet, ↓kc_i_isState, ↓kc_i_has, ↓kc_i_compareEdges, ↓kl_i_isState, ↓kv_i_isState_1, LE, hc, hz, b1, b2, b3, b4, b5, b6, b7, hb4, ↓ih, e1]
      · clear hb2
        rw [step_i_SystemValid_0]
        simp only [S_i_SystemValid_0, Tryd.f13, SLM, simprocAttr]
        simp -implicitDefEqProofs (maxSteps := 2000000) (disch := first | assumption | (refine Shut.mk ?_; kernel_rfl) | omega | (simp only [GT]; done) | (simp only [LN] <;> omega) | fail) only [↓WD, ↓kAsg, ↓kRet, ↓clash_free, ↓WDD, ↓kOpD_callv, WK, UN, TY, LB, MD, i64_id, simprocAttr, ↓CV, ↓kc_i_isAlphabet, ↓kc_i_isState, ↓kc_i_has, ↓kc_i_compareEdges, ↓kl_i_isState, ↓kv_i_isState_1, LE, hc, hz, b1, b2, b3, b4, b5, b6, b7, ↓ih, e1]

theorem loop_i_SystemValid_top {R : Type} {L n m : Nat} (hL : 2 ^ 60 ≤ L) (hn : 5 ≤ n) {al st : Int} {l : List Edge} (hl : l.length ≤ 4294967296) {k : Exit → List A → H → Option R} (hm : l.length < m) :
    kLoop env (evCall env L n) L 0 [] (false :: true :: true :: false :: false :: false :: false :: false :: false :: false :: false :: false :: false :: false :: false :: false :: false :: false :: false :: false :: true :: true :: true :: false :: false :: false :: false :: false :: false :: false :: false :: false :: false :: false :: false :: false :: false :: false :: false :: false :: false :: false :: false :: false :: false :: false :: false :: false :: false :: false :: false :: false :: false :: false :: false :: false :: false :: false :: false :: false :: false :: false :: false :: false :: false :: false :: false :: false :: []) (lp_i_SystemValid 0) (true :: false :: false :: true :: true :: true :: true :: true :: true :: true :: true :: true :: true :: true :: true :: true :: true :: true :: true :: true :: false :: false :: false :: true :: true :: true :: true :: true :: true :: true :: true :: true :: true :: true :: true :: true :: true :: true :: true :: true :: true :: true :: true :: true :: true :: true :: true :: true :: true :: true :: true :: true :: true :: true :: true :: true :: true :: true :: true :: true :: true :: true :: true :: true :: true :: true :: true :: true :: []) m (.junk :: .ptr 0 0 0 :: .d (.bool false) :: .junk :: .junk :: .junk :: .junk :: .junk :: .junk :: .junk :: .junk :: .junk :: .junk :: .junk :: .junk :: .junk :: .junk :: .junk :: .junk :: .junk :: .d (.ivs l.length (edgesD l)) :: .d (.int .i64 (l.length)) :: .d (.int .i64 0) :: .junk :: .junk :: .junk :: .junk :: .junk :: .junk :: .junk :: .junk :: .junk :: .junk :: .junk :: .junk :: .junk :: .junk :: .junk :: .junk :: .junk :: .junk :: .junk :: .junk :: .junk :: .junk :: .junk :: .junk :: .junk :: .junk :: .junk :: .junk :: .junk :: .junk :: .junk :: .junk :: .junk :: .junk :: .junk :: .junk :: .junk :: .junk :: .junk :: .junk :: .junk :: .junk :: .junk :: .junk :: .junk :: []) [.box [.d (.int .i64 al), .d (.int .i64 st), .d (.ivs l.length (edgesD l))]] k
    = match seek (badAt al st l) l.length 0 with
      | none => k (.exit 0) (.junk :: .ptr 0 0 0 :: .d (.bool false) :: .junk :: .junk :: .junk :: .junk :: .junk :: .junk :: .junk :: .junk :: .junk :: .junk :: .junk :: .junk :: .junk :: .junk :: .junk :: .junk :: .junk :: .d (.ivs l.length (edgesD l)) :: .d (.int .i64 (l.length)) :: .d (.int .i64 (l.length)) :: .junk :: .junk :: .junk :: .junk :: .junk :: .junk :: .junk :: .junk :: .junk :: .junk :: .junk :: .junk :: .junk :: .junk :: .junk :: .junk :: .junk :: .junk :: .junk :: .junk :: .junk :: .junk :: .junk :: .junk :: .junk :: .junk :: .junk :: .junk :: .junk :: .junk :: .junk :: .junk :: .junk :: .junk :: .junk :: .junk :: .junk :: .junk :: .junk :: .junk :: .junk :: .junk :: .junk :: .junk :: .junk :: []) [.box [.d (.int .i64 al), .d (.int .i64 st), .d (.ivs l.length (edgesD l))]]
      | some r => k .ret (.junk :: .ptr 0 0 0 :: .d (.bool false) :: .junk :: .junk :: .junk :: .junk :: .junk :: .junk :: .junk :: .junk :: .junk :: .junk :: .junk :: .junk :: .junk :: .junk :: .junk :: .junk :: .junk :: .d (.ivs l.length (edgesD l)) :: .d (.int .i64 (l.length)) :: .d (.int .i64 r) :: .junk :: .junk :: .junk :: .junk :: .junk :: .junk :: .junk :: .junk :: .junk :: .junk :: .junk :: .junk :: .junk :: .junk :: .junk :: .junk :: .junk :: .junk :: .junk :: .junk :: .junk :: .junk :: .junk :: .junk :: .junk :: .junk :: .junk :: .junk :: .junk :: .junk :: .junk :: .junk :: .junk :: .junk :: .junk :: .junk :: .junk :: .junk :: .junk :: .junk :: .junk :: .junk :: .junk :: .junk :: .junk :: []) [.box [.d (.int .i64 al), .d (.int .i64 st), .d (.ivs l.length (edgesD l))]] :=
  loop_i_SystemValid hL hn hl l.length 0 m (by omega) (by omega) hm

theorem ev_i_SystemValid {L n : Nat} (hn : 6 ≤ n) (al st : Int) (l : List Edge) (hl : l.length ≤ 4294967296) (hL : 2 ^ 60 ≤ L) : evCall env L n 13 [.agg [.d (.int .i64 al), .d (.int .i64 st), .d (.ivs l.length (edgesD l))]] [] = some (.d (.bool (sysOK ⟨al, st, l⟩)), []) := by
  unfold sysOK
  simp only []
  cases ha : isAlpha al with
  | false =>
    obtain ⟨n, rfl⟩ : ∃ m, n = m + 1 := ⟨n - 1, by omega⟩
    rw [fn_i_SystemValid]
    simp only [S_i_SystemValid, Tryd.f13, SLM, simprocAttr]
    simp -implicitDefEqProofs (maxSteps := 2000000) (disch := first | assumption | (refine Shut.mk ?_; kernel_rfl) | omega | (simp only [GT]; done) | (simp only [LN] <;> omega) | fail) only [↓WD, ↓kAsg, ↓kRet, ↓clash_free, ↓WDD, ↓kOpD_callv, WK, UN, TY, LB, MD, i64_id, simprocAttr, ↓CV, ↓kc_i_isAlphabet, ↓kc_i_isState, ↓kc_i_has, ↓kc_i_compareEdges, ↓kl_i_isState, ↓kv_i_isState_1, ↓loop_i_SystemValid, ↓loop_i_SystemValid_top, ha, Bool.false_and]
  | true =>
    by_cases h1 : st < 1
    · have e1 : decide (1 ≤ st) = false := by simp; omega
      obtain ⟨n, rfl⟩ : ∃ m, n = m + 1 := ⟨n - 1, by omega⟩
      rw [fn_i_SystemValid]
      simp only [S_i_SystemValid, Tryd.f13, SLM, simprocAttr]
      simp -implicitDefEqProofs (maxSteps := 2000000) (disch := first | assumption | (refine Shut.mk ?_; kernel_rfl) | omega | (simp only [GT]; done) | (simp only [LN] <;> omega) | fail) only [↓WD, ↓kAsg, ↓kRet, ↓clash_free, ↓WDD, ↓kOpD_callv, WK, UN, TY, LB, MD, i64_id, simprocAttr, ↓CV, ↓kc_i_isAlphabet, ↓kc_i_isState, ↓kc_i_has, ↓kc_i_compareEdges, ↓kl_i_isState, ↓kv_i_isState_1, ↓loop_i_SystemValid, ↓loop_i_SystemValid_top, ha, h1, e1, Bool.false_and, Bool.and_false]
    · by_cases h2 : 16 < st
      · have e1 : decide (st ≤ 16) = false := by simp; omega
        obtain ⟨n, rfl⟩ : ∃ m, n = m + 1 := ⟨n - 1, by omega⟩
        rw [fn_i_SystemValid]
        simp only [S_i_SystemValid, Tryd.f13, SLM, simprocAttr]
        simp -implicitDefEqProofs (maxSteps := 2000000) (disch := first | assumption | (refine Shut.mk ?_; kernel_rfl) | omega | (simp only [GT]; done) | (simp only [LN] <;> omega) | fail) only [↓WD, ↓kAsg, ↓kRet, ↓clash_free, ↓WDD, ↓kOpD_callv, WK, UN, TY, LB, MD, i64_id, simprocAttr, ↓CV, ↓kc_i_isAlphabet, ↓kc_i_isState, ↓kc_i_has, ↓kc_i_compareEdges, ↓kl_i_isState, ↓kv_i_isState_1, ↓loop_i_SystemValid, ↓loop_i_SystemValid_top, ha, h1, h2, e1, Bool.false_and, Bool.and_false]
      · have e1 : decide (1 ≤ st) = true := by simp; omega
        have e2 : decide (st ≤ 16) = true := by simp; omega
        cases hs : seek (badAt al st l) l.length 0 with
        | none =>
          obtain ⟨n, rfl⟩ : ∃ m, n = m + 1 := ⟨n - 1, by omega⟩
          rw [fn_i_SystemValid]
          simp only [S_i_SystemValid, Tryd.f13, SLM, simprocAttr]
          simp -implicitDefEqProofs (maxSteps := 2000000) (disch := first | assumption | (refine Shut.mk ?_; kernel_rfl) | omega | (simp only [GT]; done) | (simp only [LN] <;> omega) | fail) only [↓WD, ↓kAsg, ↓kRet, ↓clash_free, ↓WDD, ↓kOpD_callv, WK, UN, TY, LB, MD, i64_id, simprocAttr, ↓CV, ↓kc_i_isAlphabet, ↓kc_i_isState, ↓kc_i_has, ↓kc_i_compareEdges, ↓kl_i_isState, ↓kv_i_isState_1, ↓loop_i_SystemValid, ↓loop_i_SystemValid_top, ha, h1, h2, e1, e2, hs]
        | some r =>
          obtain ⟨n, rfl⟩ : ∃ m, n = m + 1 := ⟨n - 1, by omega⟩
          rw [fn_i_SystemValid]
          simp only [S_i_SystemValid, Tryd.f13, SLM, simprocAttr]
          simp -implicitDefEqProofs (maxSteps := 2000000) (disch := first | assumption | (refine Shut.mk ?_; kernel_rfl) | omega | (simp only [GT]; done) | (simp only [LN] <;> omega) | fail) only [↓WD, ↓kAsg, ↓kRet, ↓clash_free, ↓WDD, ↓kOpD_callv, WK, UN, TY, LB, MD, i64_id, simprocAttr, ↓CV, ↓kc_i_isAlphabet, ↓kc_i_isState, ↓kc_i_has, ↓kc_i_compareEdges, ↓kl_i_isState, ↓kv_i_isState_1, ↓loop_i_SystemValid, ↓loop_i_SystemValid_top, ha, h1, h2, e1, e2, hs, Bool.and_false]
theorem kc_i_SystemValid {R : Type} {L n : Nat} {hq : H} {k : A → H → Option R} (hn : 6 ≤ n) (al st : Int) (l : List Edge) (hl : l.length ≤ 4294967296) (hL : 2 ^ 60 ≤ L) : kCall env (evCall env L n) hq 13 [.agg [.d (.int .i64 al), .d (.int .i64 st), .d (.ivs l.length (edgesD l))]] k = k (.d (.bool (sysOK ⟨al, st, l⟩))) hq :=
  kCall_still rfl (ev_i_SystemValid hn al st l hl hL) rfl (.inl rfl)
theorem kl_i_SystemValid {R : Type} {L n : Nat} {k : A → Option R} (hn : 6 ≤ n) (al st : Int) (l : List Edge) (hl : l.length ≤ 4294967296) (hL : 2 ^ 60 ≤ L) : kLent (evCall env L n) 13 [.agg [.d (.int .i64 al), .d (.int .i64 st), .d (.ivs l.length (edgesD l))]] k = k (.d (.bool (sysOK ⟨al, st, l⟩))) :=
  kLent_ev (ev_i_SystemValid hn al st l hl hL) rfl
theorem kv_i_SystemValid_1 {R : Type} {L n : Nat} {hq : H} {k : A → H → Option R} {id0 g0 o0 len0 : Nat} {al st : Int} : kCall env (evCall env L n) hq 13 [.agg [.d (.int .i64 al), .d (.int .i64 st), .sl id0 g0 o0 len0]] k = match box (lentA hq [.agg [.d (.int .i64 al), .d (.int .i64 st), .sl id0 g0 o0 len0]]) with
    | .mk (some fs) => kLent (evCall env L n) 13 fs fun r => k r hq
    | _ => none := kCall_lent mode_i_SystemValid

end Ev
end Go.Proofs.YtojaohcpgelhmaaDoor
end
