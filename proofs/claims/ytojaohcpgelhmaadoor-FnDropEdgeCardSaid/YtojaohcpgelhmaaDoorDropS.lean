/-
  The exact laws' own functions, at edges and systems: copies, comparisons, marks.
-/
import Derived.Test.YtojaohcpgelhmaaDoorEdges
section
set_option linter.unusedSimpArgs false
set_option linter.unusedVariables false
set_option maxRecDepth 8000
set_option pp.maxSteps 6000
set_option maxHeartbeats 4000000
namespace Go.Proofs.YtojaohcpgelhmaaDoor
namespace Ev

theorem edges_set0 {l : List Edge} {k : Nat} {v : Int} (h : k < l.length) : setRun (edgesD l) (k * 3) [.int .i64 v] = edgesD (l.set k ⟨v, (l.getD k default).lt, (l.getD k default).to⟩) := by
  unfold setRun
  rw [edgesD_takek, List.length_singleton, ← List.drop_drop, edges_drop h, List.set_eq_take_append_cons_drop, if_pos h, ← edgesD_app, edgesD_cons]
  simp
theorem edges_set1 {l : List Edge} {k : Nat} {v : Int} (h : k < l.length) : setRun (edgesD l) (k * 3 + 1) [.int .i64 v] = edgesD (l.set k ⟨(l.getD k default).fr, v, (l.getD k default).to⟩) := by
  have e : (edgesD l).take (k * 3 + 1) = edgesD (l.take k) ++ [.int .i64 (l.getD k default).fr] := by
    rw [List.take_add, edgesD_takek, edges_drop h]; rfl
  unfold setRun
  rw [e, List.length_singleton, Nat.add_assoc, ← List.drop_drop, edges_drop h, List.set_eq_take_append_cons_drop, if_pos h, ← edgesD_app, edgesD_cons]
  simp
theorem edges_set2 {l : List Edge} {k : Nat} {v : Int} (h : k < l.length) : setRun (edgesD l) (k * 3 + 2) [.int .i64 v] = edgesD (l.set k ⟨(l.getD k default).fr, (l.getD k default).lt, v⟩) := by
  have e : (edgesD l).take (k * 3 + 2) = edgesD (l.take k) ++ [.int .i64 (l.getD k default).fr, .int .i64 (l.getD k default).lt] := by
    rw [List.take_add, edgesD_takek, edges_drop h]; rfl
  unfold setRun
  rw [e, List.length_singleton, Nat.add_assoc, ← List.drop_drop, edges_drop h, List.set_eq_take_append_cons_drop, if_pos h, ← edgesD_app, edgesD_cons]
  simp

end Ev
end Go.Proofs.YtojaohcpgelhmaaDoor
end

/-!
  Binary search, sorted edges: plain laws.
-/
section
set_option linter.unusedSimpArgs false
set_option linter.unusedVariables false
namespace Go.Proofs.YtojaohcpgelhmaaDoor
namespace Ev

/-- Where the search ends. -/
def bsF (p : Nat → Bool) : Nat → Nat → Nat → Nat
  | 0, i, _ => i
  | k + 1, i, j => if i < j then (if p ((i + j) / 2) = true then bsF p k ((i + j) / 2 + 1) j else bsF p k i ((i + j) / 2)) else i

theorem bsF_bounds {p : Nat → Bool} : ∀ {k i j : Nat}, i ≤ j → i ≤ bsF p k i j ∧ bsF p k i j ≤ j
  | 0, i, j, h => ⟨Nat.le_refl _, h⟩
  | k + 1, i, j, h => by
    simp only [bsF]
    by_cases h1 : i < j
    · rw [if_pos h1]
      by_cases h2 : p ((i + j) / 2) = true
      · rw [if_pos h2]
        have := bsF_bounds (p := p) (k := k) (i := (i + j) / 2 + 1) (j := j) (by omega)
        omega
      · rw [if_neg h2]
        have := bsF_bounds (p := p) (k := k) (i := i) (j := (i + j) / 2) (by omega)
        omega
    · rw [if_neg h1]; omega

theorem bsF_spec {p : Nat → Bool} (hm : ∀ a b, a ≤ b → p b = true → p a = true) : ∀ {k i j : Nat}, i ≤ j → j - i ≤ k → (∀ h, i ≤ h → h < bsF p k i j → p h = true) ∧ (∀ h, bsF p k i j ≤ h → h < j → p h = false)
  | 0, i, j, h, hk => by simp only [bsF]; exact ⟨fun h' _ _ => by omega, fun h' _ _ => by omega⟩
  | k + 1, i, j, h, hk => by
    simp only [bsF]
    by_cases h1 : i < j
    · rw [if_pos h1]
      by_cases h2 : p ((i + j) / 2) = true
      · rw [if_pos h2]
        obtain ⟨a, b⟩ := bsF_spec hm (k := k) (i := (i + j) / 2 + 1) (j := j) (by omega) (by omega)
        refine ⟨fun h' h3 h4 => ?_, b⟩
        by_cases h5 : h' ≤ (i + j) / 2
        · exact hm _ _ h5 h2
        · exact a h' (by omega) h4
      · rw [if_neg h2]
        obtain ⟨a, b⟩ := bsF_spec hm (k := k) (i := i) (j := (i + j) / 2) (by omega) (by omega)
        refine ⟨a, fun h' h3 h4 => ?_⟩
        by_cases h5 : h' < (i + j) / 2
        · exact b h' h3 h5
        · cases hp : p h' with
          | false => rfl
          | true => exact absurd (hm _ _ (by omega) hp) h2
    · rw [if_neg h1]; exact ⟨fun h' _ _ => by omega, fun h' _ _ => by omega⟩

/-! ### the order of edges -/

theorem beforeE_irrefl {e : Edge} : beforeE e e = false := by simp [beforeE]
theorem beforeE_trans {e f g : Edge} (h1 : beforeE e f = true) (h2 : beforeE f g = true) : beforeE e g = true := by
  unfold beforeE at *
  split at h1 <;> split at h2 <;> (try split at h1) <;> (try split at h2) <;> simp only [decide_eq_true_eq] at h1 h2 <;> (split <;> (try split) <;> simp only [decide_eq_true_eq] <;> omega)
theorem beforeE_total {e f : Edge} (h1 : beforeE e f = false) (h2 : beforeE f e = false) : e = f := by
  obtain ⟨a, b, c⟩ := e
  obtain ⟨a', b', c'⟩ := f
  simp only [beforeE] at h1 h2
  have : a = a' ∧ b = b' ∧ c = c' := by
    split at h1 <;> split at h2 <;> (try split at h1) <;> (try split at h2) <;> simp only [decide_eq_false_iff_not] at h1 h2 <;> refine ⟨?_, ?_, ?_⟩ <;> omega
  obtain ⟨rfl, rfl, rfl⟩ := this
  rfl
theorem beforeE_asymm {e f : Edge} (h : beforeE e f = true) : beforeE f e = false := by
  cases h2 : beforeE f e with
  | false => rfl
  | true => have := beforeE_trans h h2; rw [beforeE_irrefl] at this; cases this

theorem cmpE_lt {e f : Edge} : decide (cmpE e f < 0) = beforeE e f := by
  have h := beforeE_cmp (e := e) (f := f)
  by_cases h1 : 0 ≤ cmpE e f
  · have h2 : ¬ cmpE e f < 0 := by omega
    simp only [h1, decide_true] at h
    simp only [h2, decide_false]
    cases hb : beforeE e f <;> simp_all
  · have h2 : cmpE e f < 0 := by omega
    simp only [h1, decide_false] at h
    simp only [h2, decide_true]
    cases hb : beforeE e f <;> simp_all

theorem cmpI_zero {a b : Int} : cmpI a b = 0 ↔ a = b := by
  unfold cmpI
  split
  · constructor <;> intro h <;> omega
  · split
    · constructor <;> intro h <;> omega
    · constructor <;> intro h <;> omega

theorem cmpE_zero {e f : Edge} : cmpE e f = 0 ↔ e = f := by
  obtain ⟨a, b, c⟩ := e
  obtain ⟨a', b', c'⟩ := f
  simp only [cmpE, firstNZ, Edge.mk.injEq]
  by_cases h1 : cmpI a a' = 0
  · rw [if_pos h1]
    by_cases h2 : cmpI b b' = 0
    · rw [if_pos h2]
      by_cases h3 : cmpI c c' = 0
      · rw [if_pos h3]; simp [cmpI_zero.1 h1, cmpI_zero.1 h2, cmpI_zero.1 h3]
      · rw [if_neg h3]
        constructor
        · intro h; exact absurd h h3
        · intro h; exact absurd (cmpI_zero.2 h.2.2) h3
    · rw [if_neg h2]
      constructor
      · intro h; exact absurd h h2
      · intro h; exact absurd (cmpI_zero.2 h.2.1) h2
  · rw [if_neg h1]
    constructor
    · intro h; exact absurd h h1
    · intro h; exact absurd (cmpI_zero.2 h.1) h1

/-- Strictly ascending. -/
def SortedE (l : List Edge) : Prop := l.Pairwise fun a b => beforeE a b = true

theorem sortedE_of {l : List Edge} (h : ∀ i, 0 < i → i < l.length → beforeE (l.getD (i - 1) default) (l.getD i default) = true) : SortedE l := by
  unfold SortedE
  induction l with
  | nil => exact List.Pairwise.nil
  | cons e l ih =>
    have hl := ih fun i h1 h2 => by
      have := h (i + 1) (by omega) (by simp; omega)
      obtain ⟨j, rfl⟩ : ∃ j, i = j + 1 := ⟨i - 1, by omega⟩
      simpa using this
    refine List.Pairwise.cons ?_ hl
    cases l with
    | nil => intro x hx; cases hx
    | cons f l =>
      have h1 := h 1 (by omega) (by simp)
      simp only [Nat.sub_self, List.getD_cons_zero, List.getD_cons_succ] at h1
      intro x hx
      rcases List.mem_cons.1 hx with rfl | hx
      · exact h1
      · exact beforeE_trans h1 ((List.pairwise_cons.1 hl).1 x hx)

theorem sysOK_sorted {s : Sys} (h : sysOK s = true) : SortedE s.es := by
  unfold sysOK at h
  simp only [Bool.and_eq_true] at h
  have h4 := h.2
  rw [Option.isNone_iff_eq_none, seek_none] at h4
  refine sortedE_of fun i h1 h2 => ?_
  have := h4 i (by omega) (by omega)
  unfold badAt at this
  simp only [Bool.or_eq_false_iff, Bool.and_eq_false_imp, decide_eq_true_eq, Bool.not_eq_false'] at this
  exact this.2 h1

theorem sysOK_edge {s : Sys} (h : sysOK s = true) {e : Edge} (he : e ∈ s.es) : edgeOK s.al s.st e = true := by
  unfold sysOK at h
  simp only [Bool.and_eq_true] at h
  have h4 := h.2
  rw [Option.isNone_iff_eq_none, seek_none] at h4
  obtain ⟨i, hi⟩ := List.getElem?_of_mem he
  have hl := (List.getElem?_eq_some_iff.1 hi).1
  have := h4 i (by omega) (by omega)
  unfold badAt at this
  simp only [Bool.or_eq_false_iff, Bool.not_eq_false'] at this
  have h5 := this.1
  rw [List.getD_eq_getElem?_getD, hi] at h5
  exact h5

/-! ### where an edge is -/

/-- The search for an edge. -/
def bsE (l : List Edge) (e : Edge) : Nat := bsF (fun h => beforeE (l.getD h default) e) l.length 0 l.length
def hitE (l : List Edge) (e : Edge) : Bool := decide (bsE l e < l.length) && decide (l.getD (bsE l e) default = e)

theorem bsE_le {l : List Edge} {e : Edge} : bsE l e ≤ l.length := (bsF_bounds (Nat.zero_le _)).2

theorem sorted_get {l : List Edge} (h : SortedE l) {i j : Nat} (hij : i < j) (hj : j < l.length) : beforeE (l.getD i default) (l.getD j default) = true := by
  have hi : i < l.length := by omega
  rw [List.getD_eq_getElem?_getD, List.getElem?_eq_getElem hi, List.getD_eq_getElem?_getD, List.getElem?_eq_getElem hj]
  exact List.pairwise_iff_getElem.1 h i j hi hj hij

theorem bsE_spec {l : List Edge} (h : SortedE l) (e : Edge) : (∀ k, k < bsE l e → beforeE (l.getD k default) e = true) ∧ (∀ k, bsE l e ≤ k → k < l.length → beforeE (l.getD k default) e = false) := by
  have key := bsF_spec (p := fun k => decide (k < l.length) && beforeE (l.getD k default) e) (k := l.length) (i := 0) (j := l.length) (by
    intro a b hab hb
    simp only [Bool.and_eq_true, decide_eq_true_eq] at hb ⊢
    refine ⟨by omega, ?_⟩
    rcases Nat.lt_or_ge a b with h1 | h1
    · exact beforeE_trans (sorted_get h h1 hb.1) hb.2
    · obtain rfl : a = b := by omega
      exact hb.2) (Nat.zero_le _) (by omega)
  have same : ∀ (k i j : Nat), j ≤ l.length → bsF (fun k => decide (k < l.length) && beforeE (l.getD k default) e) k i j = bsF (fun h => beforeE (l.getD h default) e) k i j := by
    intro k
    induction k with
    | zero => intro i j _; rfl
    | succ k ih =>
      intro i j hj
      simp only [bsF]
      by_cases h1 : i < j
      · have h2 : (i + j) / 2 < l.length := by omega
        simp only [h1, h2, decide_true, Bool.true_and, if_true]
        rw [ih _ _ hj, ih _ _ (by omega)]
      · simp only [h1, if_false]
  rw [same _ _ _ (Nat.le_refl _)] at key
  refine ⟨fun k hk => ?_, fun k h1 h2 => ?_⟩
  · have := key.1 k (Nat.zero_le _) hk
    simp only [Bool.and_eq_true, decide_eq_true_eq] at this
    exact this.2
  · have := key.2 k h1 h2
    simpa [h2] using this

/-- The first index of an edge. -/
def idxE (l : List Edge) (e : Edge) : Option Nat := seek (fun k => decide (l.getD k default = e)) l.length 0

theorem hit_some {l : List Edge} (h : SortedE l) {e : Edge} (hh : hitE l e = true) : idxE l e = some (bsE l e) := by
  unfold hitE at hh
  simp only [Bool.and_eq_true, decide_eq_true_eq] at hh
  obtain ⟨h1, h2⟩ := hh
  unfold idxE
  cases hs : seek (fun k => decide (l.getD k default = e)) l.length 0 with
  | none =>
    rw [seek_none] at hs
    have := hs (bsE l e) (by omega) (by omega)
    simp only [h2, decide_true, Bool.true_eq_false] at this
  | some r =>
    obtain ⟨_, a1, a2, a3⟩ := seek_some hs
    simp only [decide_eq_true_eq] at a2
    congr 1
    rcases Nat.lt_trichotomy r (bsE l e) with h3 | h3 | h3
    · have := sorted_get h h3 h1
      rw [a2, h2, beforeE_irrefl] at this; cases this
    · exact h3
    · have := sorted_get h h3 (by omega)
      rw [a2, h2, beforeE_irrefl] at this; cases this

theorem hit_none {l : List Edge} (h : SortedE l) {e : Edge} (hh : hitE l e = false) : idxE l e = none := by
  unfold idxE
  rw [seek_none]
  intro k _ hk
  have hk : k < l.length := by omega
  simp only [decide_eq_false_iff_not]
  intro he
  obtain ⟨h1, h2⟩ := bsE_spec h e
  rcases Nat.lt_trichotomy k (bsE l e) with h3 | h3 | h3
  · have := h1 k h3
    rw [he, beforeE_irrefl] at this; cases this
  · subst h3
    unfold hitE at hh
    simp only [hk, he, decide_true, Bool.and_self] at hh
    cases hh
  · have h4 := h2 (bsE l e) (Nat.le_refl _) (by omega)
    have h5 := sorted_get h h3 hk
    rw [he] at h5
    rw [h5] at h4; cases h4

end Ev
end Go.Proofs.YtojaohcpgelhmaaDoor
end

/-!
  impl.SystemValid.
-/
section
set_option linter.unusedSimpArgs false
set_option linter.unusedVariables false
set_option maxRecDepth 8000
set_option pp.maxSteps 6000
set_option maxHeartbeats 4000000
namespace Go.Proofs.YtojaohcpgelhmaaDoor
namespace Ev

theorem edgeOK_eq {al st : Int} {e : Edge} : edgeOK al st e = (decide (0 ≤ e.fr) && (decide (e.fr < st) && (decide (0 ≤ e.to) && (decide (e.to < st) && (!decide (6 ≤ e.lt) && (decide (0 ≤ e.lt) && bitAt al e.lt)))))) := by
  have : decide (e.lt < 6) = !decide (6 ≤ e.lt) := by by_cases h : e.lt < 6 <;> simp [h] <;> omega
  unfold edgeOK
  rw [this]
  cases decide (0 ≤ e.fr) <;> cases decide (e.fr < st) <;> cases decide (0 ≤ e.to) <;> cases decide (e.to < st) <;> cases decide (0 ≤ e.lt) <;> cases decide (6 ≤ e.lt) <;> rfl

theorem good_cases {al st : Int} {l : List Edge} {i : Nat} (h : badAt al st l i = false) : 0 ≤ (l.getD i default).fr ∧ (l.getD i default).fr < st ∧ 0 ≤ (l.getD i default).to ∧ (l.getD i default).to < st ∧ ¬ 6 ≤ (l.getD i default).lt ∧ 0 ≤ (l.getD i default).lt ∧ bitAt al (l.getD i default).lt = true ∧ (0 < i → ¬ 0 ≤ cmpE (l.getD (i - 1) default) (l.getD i default)) := by
  have hc := beforeE_cmp (e := l.getD (i - 1) default) (f := l.getD i default)
  unfold badAt at h
  rw [edgeOK_eq] at h
  simp only [Bool.or_eq_false_iff, Bool.not_eq_false', Bool.and_eq_true, decide_eq_true_eq, Bool.not_eq_true', decide_eq_false_iff_not, Bool.and_eq_false_imp] at h
  obtain ⟨⟨h1, h2, h3, h4, h5, h6, h7⟩, h8⟩ := h
  refine ⟨h1, h2, h3, h4, h5, h6, h7, fun hz => ?_⟩
  rw [h8 hz] at hc
  simpa using hc

theorem bad_cases {al st : Int} {l : List Edge} {i : Nat} (h : badAt al st l i = true) : ¬ 0 ≤ (l.getD i default).fr ∨ 0 ≤ (l.getD i default).fr ∧ (¬ (l.getD i default).fr < st ∨ (l.getD i default).fr < st ∧ (¬ 0 ≤ (l.getD i default).to ∨ 0 ≤ (l.getD i default).to ∧ (¬ (l.getD i default).to < st ∨ (l.getD i default).to < st ∧ (6 ≤ (l.getD i default).lt ∨ ¬ 6 ≤ (l.getD i default).lt ∧ (¬ 0 ≤ (l.getD i default).lt ∨ 0 ≤ (l.getD i default).lt ∧ (bitAt al (l.getD i default).lt = false ∨ bitAt al (l.getD i default).lt = true ∧ 0 < i ∧ 0 ≤ cmpE (l.getD (i - 1) default) (l.getD i default))))))) := by
  have hc := beforeE_cmp (e := l.getD (i - 1) default) (f := l.getD i default)
  unfold badAt at h
  rw [edgeOK_eq] at h
  by_cases h1 : 0 ≤ (l.getD i default).fr
  · refine .inr ⟨h1, ?_⟩
    by_cases h2 : (l.getD i default).fr < st
    · refine .inr ⟨h2, ?_⟩
      by_cases h3 : 0 ≤ (l.getD i default).to
      · refine .inr ⟨h3, ?_⟩
        by_cases h4 : (l.getD i default).to < st
        · refine .inr ⟨h4, ?_⟩
          by_cases h5 : 6 ≤ (l.getD i default).lt
          · exact .inl h5
          · refine .inr ⟨h5, ?_⟩
            by_cases h6 : 0 ≤ (l.getD i default).lt
            · refine .inr ⟨h6, ?_⟩
              cases h7 : bitAt al (l.getD i default).lt with
              | false => exact .inl rfl
              | true =>
                simp only [h1, h2, h3, h4, h5, h6, h7, decide_true, decide_false, Bool.not_false, Bool.and_self, Bool.not_true, Bool.false_or, Bool.and_eq_true, decide_eq_true_eq] at h
                rw [h.2] at hc
                exact .inr ⟨rfl, h.1, by simpa using hc⟩
            · exact .inl h6
        · exact .inl h4
      · exact .inl h3
    · exact .inl h2
  · exact .inl h1

theorem loop_i_SystemValid {R : Type} {L n : Nat} (hL : 2 ^ 60 ≤ L) (hn : 5 ≤ n) {al st : Int} {l : List Edge} (hl : l.length ≤ 4294967296) {k : Exit → List A → H → Option R} : ∀ (j : Nat) (i : Int) (m : Nat) (h0 : 0 ≤ i) (hi : i + j = l.length) (hm : j < m),
    kLoop env (evCall env L n) L 0 [] (false :: true :: true :: false :: false :: false :: false :: false :: false :: false :: false :: false :: false :: false :: false :: false :: false :: false :: false :: false :: true :: true :: true :: false :: false :: false :: false :: false :: false :: false :: false :: false :: false :: false :: false :: false :: false :: false :: false :: false :: false :: false :: false :: false :: false :: false :: false :: false :: false :: false :: false :: false :: false :: false :: false :: false :: false :: false :: false :: false :: false :: false :: false :: false :: false :: false :: false :: false :: []) (lp_i_SystemValid 0) (true :: false :: false :: true :: true :: true :: true :: true :: true :: true :: true :: true :: true :: true :: true :: true :: true :: true :: true :: true :: false :: false :: false :: true :: true :: true :: true :: true :: true :: true :: true :: true :: true :: true :: true :: true :: true :: true :: true :: true :: true :: true :: true :: true :: true :: true :: true :: true :: true :: true :: true :: true :: true :: true :: true :: true :: true :: true :: true :: true :: true :: true :: true :: true :: true :: true :: true :: true :: []) m (.junk :: .ptr 0 0 0 :: .d (.bool false) :: .junk :: .junk :: .junk :: .junk :: .junk :: .junk :: .junk :: .junk :: .junk :: .junk :: .junk :: .junk :: .junk :: .junk :: .junk :: .junk :: .junk :: .d (.ivs l.length (edgesD l)) :: .d (.int .i64 (l.length)) :: .d (.int .i64 i) :: .junk :: .junk :: .junk :: .junk :: .junk :: .junk :: .junk :: .junk :: .junk :: .junk :: .junk :: .junk :: .junk :: .junk :: .junk :: .junk :: .junk :: .junk :: .junk :: .junk :: .junk :: .junk :: .junk :: .junk :: .junk :: .junk :: .junk :: .junk :: .junk :: .junk :: .junk :: .junk :: .junk :: .junk :: .junk :: .junk :: .junk :: .junk :: .junk :: .junk :: .junk :: .junk :: .junk :: .junk :: .junk :: []) [.box [.d (.int .i64 al), .d (.int .i64 st), .d (.ivs l.length (edgesD l))]] k
    = match seek (badAt al st l) j i.toNat with
      | none => k (.exit 0) (.junk :: .ptr 0 0 0 :: .d (.bool false) :: .junk :: .junk :: .junk :: .junk :: .junk :: .junk :: .junk :: .junk :: .junk :: .junk :: .junk :: .junk :: .junk :: .junk :: .junk :: .junk :: .junk :: .d (.ivs l.length (edgesD l)) :: .d (.int .i64 (l.length)) :: .d (.int .i64 (l.length)) :: .junk :: .junk :: .junk :: .junk :: .junk :: .junk :: .junk :: .junk :: .junk :: .junk :: .junk :: .junk :: .junk :: .junk :: .junk :: .junk :: .junk :: .junk :: .junk :: .junk :: .junk :: .junk :: .junk :: .junk :: .junk :: .junk :: .junk :: .junk :: .junk :: .junk :: .junk :: .junk :: .junk :: .junk :: .junk :: .junk :: .junk :: .junk :: .junk :: .junk :: .junk :: .junk :: .junk :: .junk :: .junk :: []) [.box [.d (.int .i64 al), .d (.int .i64 st), .d (.ivs l.length (edgesD l))]]
      | some r => k .ret (.junk :: .ptr 0 0 0 :: .d (.bool false) :: .junk :: .junk :: .junk :: .junk :: .junk :: .junk :: .junk :: .junk :: .junk :: .junk :: .junk :: .junk :: .junk :: .junk :: .junk :: .junk :: .junk :: .d (.ivs l.length (edgesD l)) :: .d (.int .i64 (l.length)) :: .d (.int .i64 r) :: .junk :: .junk :: .junk :: .junk :: .junk :: .junk :: .junk :: .junk :: .junk :: .junk :: .junk :: .junk :: .junk :: .junk :: .junk :: .junk :: .junk :: .junk :: .junk :: .junk :: .junk :: .junk :: .junk :: .junk :: .junk :: .junk :: .junk :: .junk :: .junk :: .junk :: .junk :: .junk :: .junk :: .junk :: .junk :: .junk :: .junk :: .junk :: .junk :: .junk :: .junk :: .junk :: .junk :: .junk :: .junk :: []) [.box [.d (.int .i64 al), .d (.int .i64 st), .d (.ivs l.length (edgesD l))]] := by
  intro j
  induction j with
  | zero =>
    intro i m h0 hi hm
    obtain ⟨m, rfl⟩ : ∃ q, m = q + 1 := ⟨m - 1, by omega⟩
    obtain rfl : i = l.length := by omega
    rw [step_i_SystemValid_0]
    simp only [S_i_SystemValid_0, Tryd.f13, SLM, simprocAttr]
    simp -implicitDefEqProofs (maxSteps := 2000000) (disch := first | assumption | (refine Shut.mk ?_; kernel_rfl) | omega | (simp only [GT]; done) | (simp only [LN] <;> omega) | fail) only [↓WD, ↓kAsg, ↓kRet, ↓clash_free, ↓WDD, ↓kOpD_callv, WK, UN, TY, LB, MD, i64_id, simprocAttr, ↓CV, ↓kc_i_isAlphabet, ↓kc_i_isState, ↓kc_i_has, ↓kc_i_compareEdges, ↓kl_i_isState, ↓kv_i_isState_1, LE, Int.lt_irrefl]
    rfl
  | succ j ih =>
    intro i m h0 hi hm
    obtain ⟨m, rfl⟩ : ∃ q, m = q + 1 := ⟨m - 1, by omega⟩
    have hc : i < l.length := by omega
    have hk : i.toNat < l.length := by omega
    have e1 : (i + 1).toNat = i.toNat + 1 := by omega
    have e2 : (i - 1).toNat = i.toNat - 1 := by omega
    have e3 : ((i.toNat : Nat) : Int) = i := by omega
    cases hb : badAt al st l i.toNat with
    | true =>
      rw [seek_pos hb]
      have hb' := bad_cases hb
      clear hb
      rcases hb' with b1 | ⟨b1, hb'⟩
      · clear ih; rw [step_i_SystemValid_0]
        simp only [S_i_SystemValid_0, Tryd.f13, SLM, simprocAttr]
        simp -implicitDefEqProofs (maxSteps := 2000000) (disch := first | assumption | (refine Shut.mk ?_; kernel_rfl) | omega | (simp only [GT]; done) | (simp only [LN] <;> omega) | fail) only [↓WD, ↓kAsg, ↓kRet, ↓clash_free, ↓WDD, ↓kOpD_callv, WK, UN, TY, LB, MD, i64_id, simprocAttr, ↓CV, ↓kc_i_isAlphabet, ↓kc_i_isState, ↓kc_i_has, ↓kc_i_compareEdges, ↓kl_i_isState, ↓kv_i_isState_1, LE, hc, b1, e3]
      · rcases hb' with b2 | ⟨b2, hb'⟩
        · clear ih; rw [step_i_SystemValid_0]
          simp only [S_i_SystemValid_0, Tryd.f13, SLM, simprocAttr]
          simp -implicitDefEqProofs (maxSteps := 2000000) (disch := first | assumption | (refine Shut.mk ?_; kernel_rfl) | omega | (simp only [GT]; done) | (simp only [LN] <;> omega) | fail) only [↓WD, ↓kAsg, ↓kRet, ↓clash_free, ↓WDD, ↓kOpD_callv, WK, UN, TY, LB, MD, i64_id, simprocAttr, ↓CV, ↓kc_i_isAlphabet, ↓kc_i_isState, ↓kc_i_has, ↓kc_i_compareEdges, ↓kl_i_isState, ↓kv_i_isState_1, LE, hc, b1, b2, e3]
        · rcases hb' with b3 | ⟨b3, hb'⟩
          · clear ih; rw [step_i_SystemValid_0]
            simp only [S_i_SystemValid_0, Tryd.f13, SLM, simprocAttr]
            simp -implicitDefEqProofs (maxSteps := 2000000) (disch := first | assumption | (refine Shut.mk ?_; kernel_rfl) | omega | (simp only [GT]; done) | (simp only [LN] <;> omega) | fail) only [↓WD, ↓kAsg, ↓kRet, ↓clash_free, ↓WDD, ↓kOpD_callv, WK, UN, TY, LB, MD, i64_id, simprocAttr, ↓CV, ↓kc_i_isAlphabet, ↓kc_i_isState, ↓kc_i_has, ↓kc_i_compareEdges, ↓kl_i_isState, ↓kv_i_isState_1, LE, hc, b1, b2, b3, e3]
          · rcases hb' with b4 | ⟨b4, hb'⟩
            · clear ih; rw [step_i_SystemValid_0]
              simp only [S_i_SystemValid_0, Tryd.f13, SLM, simprocAttr]
              simp -implicitDefEqProofs (maxSteps := 2000000) (disch := first | assumption | (refine Shut.mk ?_; kernel_rfl) | omega | (simp only [GT]; done) | (simp only [LN] <;> omega) | fail) only [↓WD, ↓kAsg, ↓kRet, ↓clash_free, ↓WDD, ↓kOpD_callv, WK, UN, TY, LB, MD, i64_id, simprocAttr, ↓CV, ↓kc_i_isAlphabet, ↓kc_i_isState, ↓kc_i_has, ↓kc_i_compareEdges, ↓kl_i_isState, ↓kv_i_isState_1, LE, hc, b1, b2, b3, b4, e3]
            · rcases hb' with b5 | ⟨b5, hb'⟩
              · clear ih; rw [step_i_SystemValid_0]
                simp only [S_i_SystemValid_0, Tryd.f13, SLM, simprocAttr]
                simp -implicitDefEqProofs (maxSteps := 2000000) (disch := first | assumption | (refine Shut.mk ?_; kernel_rfl) | omega | (simp only [GT]; done) | (simp only [LN] <;> omega) | fail) only [↓WD, ↓kAsg, ↓kRet, ↓clash_free, ↓WDD, ↓kOpD_callv, WK, UN, TY, LB, MD, i64_id, simprocAttr, ↓CV, ↓kc_i_isAlphabet, ↓kc_i_isState, ↓kc_i_has, ↓kc_i_compareEdges, ↓kl_i_isState, ↓kv_i_isState_1, LE, hc, b1, b2, b3, b4, b5, e3]
              · rcases hb' with b6 | ⟨b6, hb'⟩
                · clear ih; rw [step_i_SystemValid_0]
                  simp only [S_i_SystemValid_0, Tryd.f13, SLM, simprocAttr]
                  simp -implicitDefEqProofs (maxSteps := 2000000) (disch := first | assumption | (refine Shut.mk ?_; kernel_rfl) | omega | (simp only [GT]; done) | (simp only [LN] <;> omega) | fail) only [↓WD, ↓kAsg, ↓kRet, ↓clash_free, ↓WDD, ↓kOpD_callv, WK, UN, TY, LB, MD, i64_id, simprocAttr, ↓CV, ↓kc_i_isAlphabet, ↓kc_i_isState, ↓kc_i_has, ↓kc_i_compareEdges, ↓kl_i_isState, ↓kv_i_isState_1, LE, hc, b1, b2, b3, b4, b5, b6, e3]
                · rcases hb' with b7 | ⟨b7, hz', hb3⟩
                  · clear ih; rw [step_i_SystemValid_0]
                    simp only [S_i_SystemValid_0, Tryd.f13, SLM, simprocAttr]
                    simp -implicitDefEqProofs (maxSteps := 2000000) (disch := first | assumption | (refine Shut.mk ?_; kernel_rfl) | omega | (simp only [GT]; done) | (simp only [LN] <;> omega) | fail) only [↓WD, ↓kAsg, ↓kRet, ↓clash_free, ↓WDD, ↓kOpD_callv, WK, UN, TY, LB, MD, i64_id, simprocAttr, ↓CV, ↓kc_i_isAlphabet, ↓kc_i_isState, ↓kc_i_has, ↓kc_i_compareEdges, ↓kl_i_isState, ↓kv_i_isState_1, LE, hc, b1, b2, b3, b4, b5, b6, b7, e3]
                  · have hz : 0 < i := by omega
                    have hk2 : (i - 1).toNat < l.length := by omega
                    rw [← e2] at hb3
                    clear hz' ih
                    rw [step_i_SystemValid_0]
                    simp only [S_i_SystemValid_0, Tryd.f13, SLM, simprocAttr]
                    simp -implicitDefEqProofs (maxSteps := 2000000) (disch := first | assumption | (refine Shut.mk ?_; kernel_rfl) | omega | (simp only [GT]; done) | (simp only [LN] <;> omega) | fail) only [↓WD, ↓kAsg, ↓kRet, ↓clash_free, ↓WDD, ↓kOpD_callv, WK, UN, TY, LB, MD, i64_id, simprocAttr, ↓CV, ↓kc_i_isAlphabet, ↓kc_i_isState, ↓kc_i_has, ↓kc_i_compareEdges, ↓kl_i_isState, ↓kv_i_isState_1, LE, hc, hz, b1, b2, b3, b4, b5, b6, b7, hb3, e3]
    | false =>
      rw [seek_neg hb]
      obtain ⟨b1, b2, b3, b4, b5, b6, b7, hb2⟩ := good_cases hb
      clear hb
      by_cases hz : 0 < i
      · have hb4 := hb2 (by omega)
        have hk2 : (i - 1).toNat < l.length := by omega
        rw [← e2] at hb4
        clear hb2
        rw [step_i_SystemValid_0]
        simp only [S_i_SystemValid_0, Tryd.f13, SLM, simprocAttr]
        simp -implicitDefEqProofs (maxSteps := 2000000) (disch := first | assumption | (refine Shut.mk ?_; kernel_rfl) | omega | (simp only [GT]; done) | (simp only [LN] <;> omega) | fail) only [↓WD, ↓kAsg, ↓kRet, ↓clash_free, ↓WDD, ↓kOpD_callv, WK, UN, TY, LB, MD, i64_id, simprocAttr, ↓CV, ↓kc_i_isAlphabet, ↓kc_i_isState, ↓kc_i_has, ↓kc_i_compareEdges, ↓kl_i_isState, ↓kv_i_isState_1, LE, hc, hz, b1, b2, b3, b4, b5, b6, b7, hb4, ↓ih, e1]
      · clear hb2
        rw [step_i_SystemValid_0]
        simp only [S_i_SystemValid_0, Tryd.f13, SLM, simprocAttr]
        simp -implicitDefEqProofs (maxSteps := 2000000) (disch := first | assumption | (refine Shut.mk ?_; kernel_rfl) | omega | (simp only [GT]; done) | (simp only [LN] <;> omega) | fail) only [↓WD, ↓kAsg, ↓kRet, ↓clash_free, ↓WDD, ↓kOpD_callv, WK, UN, TY, LB, MD, i64_id, simprocAttr, ↓CV, ↓kc_i_isAlphabet, ↓kc_i_isState, ↓kc_i_has, ↓kc_i_compareEdges, ↓kl_i_isState, ↓kv_i_isState_1, LE, hc, hz, b1, b2, b3, b4, b5, b6, b7, ↓ih, e1]

theorem loop_i_SystemValid_top {R : Type} {L n m : Nat} (hL : 2 ^ 60 ≤ L) (hn : 5 ≤ n) {al st : Int} {l : List Edge} (hl : l.length ≤ 4294967296) {k : Exit → List A → H → Option R} (hm : l.length < m) :
    kLoop env (evCall env L n) L 0 [] (false :: true :: true :: false :: false :: false :: false :: false :: false :: false :: false :: false :: false :: false :: false :: false :: false :: false :: false :: false :: true :: true :: true :: false :: false :: false :: false :: false :: false :: false :: false :: false :: false :: false :: false :: false :: false :: false :: false :: false :: false :: false :: false :: false :: false :: false :: false :: false :: false :: false :: false :: false :: false :: false :: false :: false :: false :: false :: false :: false :: false :: false :: false :: false :: false :: false :: false :: false :: []) (lp_i_SystemValid 0) (true :: false :: false :: true :: true :: true :: true :: true :: true :: true :: true :: true :: true :: true :: true :: true :: true :: true :: true :: true :: false :: false :: false :: true :: true :: true :: true :: true :: true :: true :: true :: true :: true :: true :: true :: true :: true :: true :: true :: true :: true :: true :: true :: true :: true :: true :: true :: true :: true :: true :: true :: true :: true :: true :: true :: true :: true :: true :: true :: true :: true :: true :: true :: true :: true :: true :: true :: true :: []) m (.junk :: .ptr 0 0 0 :: .d (.bool false) :: .junk :: .junk :: .junk :: .junk :: .junk :: .junk :: .junk :: .junk :: .junk :: .junk :: .junk :: .junk :: .junk :: .junk :: .junk :: .junk :: .junk :: .d (.ivs l.length (edgesD l)) :: .d (.int .i64 (l.length)) :: .d (.int .i64 0) :: .junk :: .junk :: .junk :: .junk :: .junk :: .junk :: .junk :: .junk :: .junk :: .junk :: .junk :: .junk :: .junk :: .junk :: .junk :: .junk :: .junk :: .junk :: .junk :: .junk :: .junk :: .junk :: .junk :: .junk :: .junk :: .junk :: .junk :: .junk :: .junk :: .junk :: .junk :: .junk :: .junk :: .junk :: .junk :: .junk :: .junk :: .junk :: .junk :: .junk :: .junk :: .junk :: .junk :: .junk :: .junk :: []) [.box [.d (.int .i64 al), .d (.int .i64 st), .d (.ivs l.length (edgesD l))]] k
    = match seek (badAt al st l) l.length 0 with
      | none => k (.exit 0) (.junk :: .ptr 0 0 0 :: .d (.bool false) :: .junk :: .junk :: .junk :: .junk :: .junk :: .junk :: .junk :: .junk :: .junk :: .junk :: .junk :: .junk :: .junk :: .junk :: .junk :: .junk :: .junk :: .d (.ivs l.length (edgesD l)) :: .d (.int .i64 (l.length)) :: .d (.int .i64 (l.length)) :: .junk :: .junk :: .junk :: .junk :: .junk :: .junk :: .junk :: .junk :: .junk :: .junk :: .junk :: .junk :: .junk :: .junk :: .junk :: .junk :: .junk :: .junk :: .junk :: .junk :: .junk :: .junk :: .junk :: .junk :: .junk :: .junk :: .junk :: .junk :: .junk :: .junk :: .junk :: .junk :: .junk :: .junk :: .junk :: .junk :: .junk :: .junk :: .junk :: .junk :: .junk :: .junk :: .junk :: .junk :: .junk :: []) [.box [.d (.int .i64 al), .d (.int .i64 st), .d (.ivs l.length (edgesD l))]]
      | some r => k .ret (.junk :: .ptr 0 0 0 :: .d (.bool false) :: .junk :: .junk :: .junk :: .junk :: .junk :: .junk :: .junk :: .junk :: .junk :: .junk :: .junk :: .junk :: .junk :: .junk :: .junk :: .junk :: .junk :: .d (.ivs l.length (edgesD l)) :: .d (.int .i64 (l.length)) :: .d (.int .i64 r) :: .junk :: .junk :: .junk :: .junk :: .junk :: .junk :: .junk :: .junk :: .junk :: .junk :: .junk :: .junk :: .junk :: .junk :: .junk :: .junk :: .junk :: .junk :: .junk :: .junk :: .junk :: .junk :: .junk :: .junk :: .junk :: .junk :: .junk :: .junk :: .junk :: .junk :: .junk :: .junk :: .junk :: .junk :: .junk :: .junk :: .junk :: .junk :: .junk :: .junk :: .junk :: .junk :: .junk :: .junk :: .junk :: []) [.box [.d (.int .i64 al), .d (.int .i64 st), .d (.ivs l.length (edgesD l))]] :=
  loop_i_SystemValid hL hn hl l.length 0 m (by omega) (by omega) hm

theorem ev_i_SystemValid {L n : Nat} (hn : 6 ≤ n) (al st : Int) (l : List Edge) (hl : l.length ≤ 4294967296) (hL : 2 ^ 60 ≤ L) : evCall env L n 13 [.agg [.d (.int .i64 al), .d (.int .i64 st), .d (.ivs l.length (edgesD l))]] [] = some (.d (.bool (sysOK ⟨al, st, l⟩)), []) := by
  unfold sysOK
  simp only []
  cases ha : isAlpha al with
  | false =>
    obtain ⟨n, rfl⟩ : ∃ m, n = m + 1 := ⟨n - 1, by omega⟩
    rw [fn_i_SystemValid]
    simp only [S_i_SystemValid, Tryd.f13, SLM, simprocAttr]
    simp -implicitDefEqProofs (maxSteps := 2000000) (disch := first | assumption | (refine Shut.mk ?_; kernel_rfl) | omega | (simp only [GT]; done) | (simp only [LN] <;> omega) | fail) only [↓WD, ↓kAsg, ↓kRet, ↓clash_free, ↓WDD, ↓kOpD_callv, WK, UN, TY, LB, MD, i64_id, simprocAttr, ↓CV, ↓kc_i_isAlphabet, ↓kc_i_isState, ↓kc_i_has, ↓kc_i_compareEdges, ↓kl_i_isState, ↓kv_i_isState_1, ↓loop_i_SystemValid, ↓loop_i_SystemValid_top, ha, Bool.false_and]
  | true =>
    by_cases h1 : st < 1
    · have e1 : decide (1 ≤ st) = false := by simp; omega
      obtain ⟨n, rfl⟩ : ∃ m, n = m + 1 := ⟨n - 1, by omega⟩
      rw [fn_i_SystemValid]
      simp only [S_i_SystemValid, Tryd.f13, SLM, simprocAttr]
      simp -implicitDefEqProofs (maxSteps := 2000000) (disch := first | assumption | (refine Shut.mk ?_; kernel_rfl) | omega | (simp only [GT]; done) | (simp only [LN] <;> omega) | fail) only [↓WD, ↓kAsg, ↓kRet, ↓clash_free, ↓WDD, ↓kOpD_callv, WK, UN, TY, LB, MD, i64_id, simprocAttr, ↓CV, ↓kc_i_isAlphabet, ↓kc_i_isState, ↓kc_i_has, ↓kc_i_compareEdges, ↓kl_i_isState, ↓kv_i_isState_1, ↓loop_i_SystemValid, ↓loop_i_SystemValid_top, ha, h1, e1, Bool.false_and, Bool.and_false]
    · by_cases h2 : 16 < st
      · have e1 : decide (st ≤ 16) = false := by simp; omega
        obtain ⟨n, rfl⟩ : ∃ m, n = m + 1 := ⟨n - 1, by omega⟩
        rw [fn_i_SystemValid]
        simp only [S_i_SystemValid, Tryd.f13, SLM, simprocAttr]
        simp -implicitDefEqProofs (maxSteps := 2000000) (disch := first | assumption | (refine Shut.mk ?_; kernel_rfl) | omega | (simp only [GT]; done) | (simp only [LN] <;> omega) | fail) only [↓WD, ↓kAsg, ↓kRet, ↓clash_free, ↓WDD, ↓kOpD_callv, WK, UN, TY, LB, MD, i64_id, simprocAttr, ↓CV, ↓kc_i_isAlphabet, ↓kc_i_isState, ↓kc_i_has, ↓kc_i_compareEdges, ↓kl_i_isState, ↓kv_i_isState_1, ↓loop_i_SystemValid, ↓loop_i_SystemValid_top, ha, h1, h2, e1, Bool.false_and, Bool.and_false]
      · have e1 : decide (1 ≤ st) = true := by simp; omega
        have e2 : decide (st ≤ 16) = true := by simp; omega
        cases hs : seek (badAt al st l) l.length 0 with
        | none =>
          obtain ⟨n, rfl⟩ : ∃ m, n = m + 1 := ⟨n - 1, by omega⟩
          rw [fn_i_SystemValid]
          simp only [S_i_SystemValid, Tryd.f13, SLM, simprocAttr]
          simp -implicitDefEqProofs (maxSteps := 2000000) (disch := first | assumption | (refine Shut.mk ?_; kernel_rfl) | omega | (simp only [GT]; done) | (simp only [LN] <;> omega) | fail) only [↓WD, ↓kAsg, ↓kRet, ↓clash_free, ↓WDD, ↓kOpD_callv, WK, UN, TY, LB, MD, i64_id, simprocAttr, ↓CV, ↓kc_i_isAlphabet, ↓kc_i_isState, ↓kc_i_has, ↓kc_i_compareEdges, ↓kl_i_isState, ↓kv_i_isState_1, ↓loop_i_SystemValid, ↓loop_i_SystemValid_top, ha, h1, h2, e1, e2, hs]
        | some r =>
          obtain ⟨n, rfl⟩ : ∃ m, n = m + 1 := ⟨n - 1, by omega⟩
          rw [fn_i_SystemValid]
          simp only [S_i_SystemValid, Tryd.f13, SLM, simprocAttr]
          simp -implicitDefEqProofs (maxSteps := 2000000) (disch := first | assumption | (refine Shut.mk ?_; kernel_rfl) | omega | (simp only [GT]; done) | (simp only [LN] <;> omega) | fail) only [↓WD, ↓kAsg, ↓kRet, ↓clash_free, ↓WDD, ↓kOpD_callv, WK, UN, TY, LB, MD, i64_id, simprocAttr, ↓CV, ↓kc_i_isAlphabet, ↓kc_i_isState, ↓kc_i_has, ↓kc_i_compareEdges, ↓kl_i_isState, ↓kv_i_isState_1, ↓loop_i_SystemValid, ↓loop_i_SystemValid_top, ha, h1, h2, e1, e2, hs, Bool.and_false]
theorem kc_i_SystemValid {R : Type} {L n : Nat} {hq : H} {k : A → H → Option R} (hn : 6 ≤ n) (al st : Int) (l : List Edge) (hl : l.length ≤ 4294967296) (hL : 2 ^ 60 ≤ L) : kCall env (evCall env L n) hq 13 [.agg [.d (.int .i64 al), .d (.int .i64 st), .d (.ivs l.length (edgesD l))]] k = k (.d (.bool (sysOK ⟨al, st, l⟩))) hq :=
  kCall_still rfl (ev_i_SystemValid hn al st l hl hL) rfl (.inl rfl)
theorem kl_i_SystemValid {R : Type} {L n : Nat} {k : A → Option R} (hn : 6 ≤ n) (al st : Int) (l : List Edge) (hl : l.length ≤ 4294967296) (hL : 2 ^ 60 ≤ L) : kLent (evCall env L n) 13 [.agg [.d (.int .i64 al), .d (.int .i64 st), .d (.ivs l.length (edgesD l))]] k = k (.d (.bool (sysOK ⟨al, st, l⟩))) :=
  kLent_ev (ev_i_SystemValid hn al st l hl hL) rfl
theorem kv_i_SystemValid_1 {R : Type} {L n : Nat} {hq : H} {k : A → H → Option R} {id0 g0 o0 len0 : Nat} {al st : Int} : kCall env (evCall env L n) hq 13 [.agg [.d (.int .i64 al), .d (.int .i64 st), .sl id0 g0 o0 len0]] k = match box (lentA hq [.agg [.d (.int .i64 al), .d (.int .i64 st), .sl id0 g0 o0 len0]]) with
    | .mk (some fs) => kLent (evCall env L n) 13 fs fun r => k r hq
    | _ => none := kCall_lent mode_i_SystemValid

end Ev
end Go.Proofs.YtojaohcpgelhmaaDoor
end

/-!
  Searching for an edge, dropping it.
-/
section
set_option linter.unusedSimpArgs false
set_option linter.unusedVariables false
set_option maxRecDepth 8000
set_option pp.maxSteps 6000
set_option maxHeartbeats 4000000
namespace Go.Proofs.YtojaohcpgelhmaaDoor
namespace Ev

theorem conv_uint_int {h : H} {n : Int} {K : IntKind} : aConvert env.P h 81 3 (.d (.int K n)) = some (.d (.int .i64 (IntKind.i64.wrap n)), h) := aConv_int u_uint u_int
theorem half_fdiv {i j : Nat} : ((i : Int) + (j : Int)).fdiv (2 ^ min 1 IntKind.u64.bits) = (((i + j) / 2 : Nat) : Int) := by
  have : (2 : Int) ^ (min 1 IntKind.u64.bits) = 2 := by simp [IntKind.bits]
  rw [this, Int.fdiv_eq_ediv_of_nonneg _ (by omega)]
  omega

theorem loop_bsf {R : Type} {L n : Nat} (hn : 5 ≤ n) (hL : 2 ^ 60 ≤ L) {l : List Edge} {a b c : Int} (hl : l.length ≤ 4294967296) {k : Exit → List A → H → Option R} : ∀ (q i j m : Nat) (hij : i ≤ j) (hj : j ≤ l.length) (hq : j - i ≤ q) (hm : q < m),
    kLoop env (evCall env L n) L 0 [] (true :: false :: true :: false :: true :: false :: true :: true :: true :: true :: true :: false :: false :: false :: false :: false :: false :: false :: false :: false :: false :: false :: false :: false :: false :: false :: false :: false :: false :: false :: false :: false :: false :: false :: false :: false :: false :: false :: false :: false :: false :: false :: false :: false :: false :: false :: false :: false :: false :: []) (lp_slices_BinarySearchFunc_i_Edge_i_Edge_i_Edge 0) (false :: true :: false :: true :: false :: true :: false :: false :: false :: false :: false :: true :: true :: true :: true :: true :: true :: true :: true :: true :: true :: true :: true :: true :: true :: true :: true :: true :: true :: true :: true :: true :: true :: true :: true :: true :: true :: true :: true :: true :: true :: true :: true :: true :: true :: true :: true :: true :: true :: []) m (.d (.ivs l.length (edgesD l)) :: .junk :: .d (.fn 29 []) :: .junk :: .ptr 0 0 0 :: .junk :: .d (.int .i64 0) :: .d (.bool false) :: .d (.int .i64 (l.length)) :: .d (.int .i64 ((i : Int))) :: .d (.int .i64 ((j : Int))) :: .junk :: .junk :: .junk :: .junk :: .junk :: .junk :: .junk :: .junk :: .junk :: .junk :: .junk :: .junk :: .junk :: .junk :: .junk :: .junk :: .junk :: .junk :: .junk :: .junk :: .junk :: .junk :: .junk :: .junk :: .junk :: .junk :: .junk :: .junk :: .junk :: .junk :: .junk :: .junk :: .junk :: .junk :: .junk :: .junk :: .junk :: .junk :: []) [.box [.d (.int .i64 a), .d (.int .i64 b), .d (.int .i64 c)]] k
    = k (.exit 0) (.d (.ivs l.length (edgesD l)) :: .junk :: .d (.fn 29 []) :: .junk :: .ptr 0 0 0 :: .junk :: .d (.int .i64 0) :: .d (.bool false) :: .d (.int .i64 (l.length)) :: .d (.int .i64 ((bsF (fun h => beforeE (l.getD h default) ⟨a, b, c⟩) q i j : Nat))) :: .d (.int .i64 ((bsF (fun h => beforeE (l.getD h default) ⟨a, b, c⟩) q i j : Nat))) :: .junk :: .junk :: .junk :: .junk :: .junk :: .junk :: .junk :: .junk :: .junk :: .junk :: .junk :: .junk :: .junk :: .junk :: .junk :: .junk :: .junk :: .junk :: .junk :: .junk :: .junk :: .junk :: .junk :: .junk :: .junk :: .junk :: .junk :: .junk :: .junk :: .junk :: .junk :: .junk :: .junk :: .junk :: .junk :: .junk :: .junk :: .junk :: []) [.box [.d (.int .i64 a), .d (.int .i64 b), .d (.int .i64 c)]] := by
  intro q
  induction q with
  | zero =>
    intro i j m hij hj hq hm
    obtain ⟨m, rfl⟩ : ∃ q, m = q + 1 := ⟨m - 1, by omega⟩
    obtain rfl : i = j := by omega
    rw [step_slices_BinarySearchFunc_i_Edge_i_Edge_i_Edge_0]
    simp only [S_slices_BinarySearchFunc_i_Edge_i_Edge_i_Edge_0, Tryd.f47, SLM, simprocAttr]
    simp -implicitDefEqProofs (maxSteps := 2000000) (disch := first | assumption | (refine Shut.mk ?_; kernel_rfl) | omega | (simp only [GT]; done) | (simp only [LN] <;> omega) | fail) only [↓WD, ↓kAsg, ↓kRet, ↓clash_free, ↓WDD, ↓kOpD_callv, WK, UN, TY, LB, MD, i64_id, simprocAttr, ↓CV, LE, Int.lt_irrefl]
    rfl
  | succ q ih =>
    intro i j m hij hj hq hm
    obtain ⟨m, rfl⟩ : ∃ q, m = q + 1 := ⟨m - 1, by omega⟩
    by_cases h1 : i < j
    · have hc : (i : Int) < (j : Int) := by omega
      have hk : (i + j) / 2 < l.length := by omega
      have hlt := cmpE_lt (e := l.getD ((i + j) / 2) default) (f := ⟨a, b, c⟩)
      cases hb : beforeE (l.getD ((i + j) / 2) default) ⟨a, b, c⟩ with
      | true =>
        rw [hb] at hlt
        have hlt := of_decide_eq_true hlt
        have e1 : (((i + j) / 2 : Nat) : Int) + 1 = (((i + j) / 2 + 1 : Nat) : Int) := rfl
        have ih' := ih ((i + j) / 2 + 1) j m (by omega) hj (by omega) (by omega)
        rw [step_slices_BinarySearchFunc_i_Edge_i_Edge_i_Edge_0]
        simp only [S_slices_BinarySearchFunc_i_Edge_i_Edge_i_Edge_0, Tryd.f47, SLM, simprocAttr]
        simp -implicitDefEqProofs (maxSteps := 2000000) (disch := first | assumption | (refine Shut.mk ?_; kernel_rfl) | omega | (simp only [GT]; done) | (simp only [LN] <;> omega) | fail) only [↓WD, ↓kAsg, ↓kRet, ↓clash_free, ↓WDD, ↓kOpD_callv, WK, UN, TY, LB, MD, i64_id, simprocAttr, ↓CV, LE, hc, ↓conv_int_uint, ↓conv_uint_int, u64_id, i64_id, half_fdiv, Int.toNat_natCast, ↓kc_i_compareEdges, hlt, e1, ↓ih']
        simp only [bsF, h1, hb, if_true]
      | false =>
        rw [hb] at hlt
        have hlt := of_decide_eq_false hlt
        have ih' := ih i ((i + j) / 2) m (by omega) (by omega) (by omega) (by omega)
        rw [step_slices_BinarySearchFunc_i_Edge_i_Edge_i_Edge_0]
        simp only [S_slices_BinarySearchFunc_i_Edge_i_Edge_i_Edge_0, Tryd.f47, SLM, simprocAttr]
        simp -implicitDefEqProofs (maxSteps := 2000000) (disch := first | assumption | (refine Shut.mk ?_; kernel_rfl) | omega | (simp only [GT]; done) | (simp only [LN] <;> omega) | fail) only [↓WD, ↓kAsg, ↓kRet, ↓clash_free, ↓WDD, ↓kOpD_callv, WK, UN, TY, LB, MD, i64_id, simprocAttr, ↓CV, LE, hc, ↓conv_int_uint, ↓conv_uint_int, u64_id, i64_id, half_fdiv, Int.toNat_natCast, ↓kc_i_compareEdges, hlt, ↓ih']
        simp only [bsF, h1, hb, if_true, Bool.false_eq_true, if_false]
    · have hc : ¬ (i : Int) < (j : Int) := by omega
      obtain rfl : i = j := by omega
      rw [step_slices_BinarySearchFunc_i_Edge_i_Edge_i_Edge_0]
      simp only [S_slices_BinarySearchFunc_i_Edge_i_Edge_i_Edge_0, Tryd.f47, SLM, simprocAttr]
      simp -implicitDefEqProofs (maxSteps := 2000000) (disch := first | assumption | (refine Shut.mk ?_; kernel_rfl) | omega | (simp only [GT]; done) | (simp only [LN] <;> omega) | fail) only [↓WD, ↓kAsg, ↓kRet, ↓clash_free, ↓WDD, ↓kOpD_callv, WK, UN, TY, LB, MD, i64_id, simprocAttr, ↓CV, LE, hc]
      simp only [bsF, Nat.lt_irrefl, if_false]

theorem loop_bsf_top {R : Type} {L n m : Nat} (hn : 5 ≤ n) (hL : 2 ^ 60 ≤ L) {l : List Edge} {a b c : Int} (hl : l.length ≤ 4294967296) {k : Exit → List A → H → Option R} (hm : l.length < m) :
    kLoop env (evCall env L n) L 0 [] (true :: false :: true :: false :: true :: false :: true :: true :: true :: true :: true :: false :: false :: false :: false :: false :: false :: false :: false :: false :: false :: false :: false :: false :: false :: false :: false :: false :: false :: false :: false :: false :: false :: false :: false :: false :: false :: false :: false :: false :: false :: false :: false :: false :: false :: false :: false :: false :: false :: []) (lp_slices_BinarySearchFunc_i_Edge_i_Edge_i_Edge 0) (false :: true :: false :: true :: false :: true :: false :: false :: false :: false :: false :: true :: true :: true :: true :: true :: true :: true :: true :: true :: true :: true :: true :: true :: true :: true :: true :: true :: true :: true :: true :: true :: true :: true :: true :: true :: true :: true :: true :: true :: true :: true :: true :: true :: true :: true :: true :: true :: true :: []) m (.d (.ivs l.length (edgesD l)) :: .junk :: .d (.fn 29 []) :: .junk :: .ptr 0 0 0 :: .junk :: .d (.int .i64 0) :: .d (.bool false) :: .d (.int .i64 (l.length)) :: .d (.int .i64 0) :: .d (.int .i64 (l.length)) :: .junk :: .junk :: .junk :: .junk :: .junk :: .junk :: .junk :: .junk :: .junk :: .junk :: .junk :: .junk :: .junk :: .junk :: .junk :: .junk :: .junk :: .junk :: .junk :: .junk :: .junk :: .junk :: .junk :: .junk :: .junk :: .junk :: .junk :: .junk :: .junk :: .junk :: .junk :: .junk :: .junk :: .junk :: .junk :: .junk :: .junk :: .junk :: []) [.box [.d (.int .i64 a), .d (.int .i64 b), .d (.int .i64 c)]] k
    = k (.exit 0) (.d (.ivs l.length (edgesD l)) :: .junk :: .d (.fn 29 []) :: .junk :: .ptr 0 0 0 :: .junk :: .d (.int .i64 0) :: .d (.bool false) :: .d (.int .i64 (l.length)) :: .d (.int .i64 ((bsE l ⟨a, b, c⟩ : Nat))) :: .d (.int .i64 ((bsE l ⟨a, b, c⟩ : Nat))) :: .junk :: .junk :: .junk :: .junk :: .junk :: .junk :: .junk :: .junk :: .junk :: .junk :: .junk :: .junk :: .junk :: .junk :: .junk :: .junk :: .junk :: .junk :: .junk :: .junk :: .junk :: .junk :: .junk :: .junk :: .junk :: .junk :: .junk :: .junk :: .junk :: .junk :: .junk :: .junk :: .junk :: .junk :: .junk :: .junk :: .junk :: .junk :: []) [.box [.d (.int .i64 a), .d (.int .i64 b), .d (.int .i64 c)]] :=
  loop_bsf hn hL hl l.length 0 l.length m (Nat.zero_le _) (Nat.le_refl _) (by omega) hm

theorem ev_slices_BinarySearchFunc_i_Edge_i_Edge_i_Edge {L n : Nat} (hn : 6 ≤ n) (l : List Edge) (a b c : Int) (hl : l.length ≤ 4294967296) (hL : 2 ^ 60 ≤ L) : evCall env L n 47 [.d (.ivs l.length (edgesD l)), .agg [.d (.int .i64 a), .d (.int .i64 b), .d (.int .i64 c)], .d (.fn 29 [])] [] = some (.tup [.d (.int .i64 (bsE l ⟨a, b, c⟩ : Nat)), .d (.bool (hitE l ⟨a, b, c⟩))], []) := by
  unfold hitE
  have hle := bsE_le (l := l) (e := ⟨a, b, c⟩)
  by_cases h1 : bsE l ⟨a, b, c⟩ < l.length
  · have hc : ((bsE l ⟨a, b, c⟩ : Nat) : Int) < (l.length : Int) := by omega
    have hd : decide (bsE l ⟨a, b, c⟩ < l.length) = true := by simp [h1]
    have hz : decide (cmpE (l.getD (bsE l ⟨a, b, c⟩) default) ⟨a, b, c⟩ = 0) = decide (l.getD (bsE l ⟨a, b, c⟩) default = ⟨a, b, c⟩) := by simp only [cmpE_zero]
    obtain ⟨n, rfl⟩ : ∃ m, n = m + 1 := ⟨n - 1, by omega⟩
    rw [fn_slices_BinarySearchFunc_i_Edge_i_Edge_i_Edge]
    simp only [S_slices_BinarySearchFunc_i_Edge_i_Edge_i_Edge, Tryd.f47, SLM, simprocAttr]
    simp -implicitDefEqProofs (maxSteps := 2000000) (disch := first | assumption | (refine Shut.mk ?_; kernel_rfl) | omega | (simp only [GT]; done) | (simp only [LN] <;> omega) | fail) only [↓WD, ↓kAsg, ↓kRet, ↓clash_free, ↓WDD, ↓kOpD_callv, WK, UN, TY, LB, MD, i64_id, simprocAttr, ↓CV, LE, ↓kc_i_compareEdges, ↓loop_bsf_top, hc, hd, Int.toNat_natCast, hz]
  · have hc : ¬ ((bsE l ⟨a, b, c⟩ : Nat) : Int) < (l.length : Int) := by omega
    have hd : decide (bsE l ⟨a, b, c⟩ < l.length) = false := by simp [h1]
    obtain ⟨n, rfl⟩ : ∃ m, n = m + 1 := ⟨n - 1, by omega⟩
    rw [fn_slices_BinarySearchFunc_i_Edge_i_Edge_i_Edge]
    simp only [S_slices_BinarySearchFunc_i_Edge_i_Edge_i_Edge, Tryd.f47, SLM, simprocAttr]
    simp -implicitDefEqProofs (maxSteps := 2000000) (disch := first | assumption | (refine Shut.mk ?_; kernel_rfl) | omega | (simp only [GT]; done) | (simp only [LN] <;> omega) | fail) only [↓WD, ↓kAsg, ↓kRet, ↓clash_free, ↓WDD, ↓kOpD_callv, WK, UN, TY, LB, MD, i64_id, simprocAttr, ↓CV, LE, ↓kc_i_compareEdges, ↓loop_bsf_top, hc, hd, Int.toNat_natCast]
theorem kc_slices_BinarySearchFunc_i_Edge_i_Edge_i_Edge {R : Type} {L n : Nat} {hq : H} {k : A → H → Option R} (hn : 6 ≤ n) (l : List Edge) (a b c : Int) (hl : l.length ≤ 4294967296) (hL : 2 ^ 60 ≤ L) : kCall env (evCall env L n) hq 47 [.d (.ivs l.length (edgesD l)), .agg [.d (.int .i64 a), .d (.int .i64 b), .d (.int .i64 c)], .d (.fn 29 [])] k = k (.tup [.d (.int .i64 (bsE l ⟨a, b, c⟩ : Nat)), .d (.bool (hitE l ⟨a, b, c⟩))]) hq :=
  kCall_still rfl (ev_slices_BinarySearchFunc_i_Edge_i_Edge_i_Edge hn l a b c hl hL) rfl (.inl rfl)
theorem kl_slices_BinarySearchFunc_i_Edge_i_Edge_i_Edge {R : Type} {L n : Nat} {k : A → Option R} (hn : 6 ≤ n) (l : List Edge) (a b c : Int) (hl : l.length ≤ 4294967296) (hL : 2 ^ 60 ≤ L) : kLent (evCall env L n) 47 [.d (.ivs l.length (edgesD l)), .agg [.d (.int .i64 a), .d (.int .i64 b), .d (.int .i64 c)], .d (.fn 29 [])] k = k (.tup [.d (.int .i64 (bsE l ⟨a, b, c⟩ : Nat)), .d (.bool (hitE l ⟨a, b, c⟩))]) :=
  kLent_ev (ev_slices_BinarySearchFunc_i_Edge_i_Edge_i_Edge hn l a b c hl hL) rfl
theorem kv_slices_BinarySearchFunc_i_Edge_i_Edge_i_Edge_1 {R : Type} {L n : Nat} {hq : H} {k : A → H → Option R} {id0 g0 o0 len0 : Nat} {a b c : Int} : kCall env (evCall env L n) hq 47 [.sl id0 g0 o0 len0, .agg [.d (.int .i64 a), .d (.int .i64 b), .d (.int .i64 c)], .d (.fn 29 [])] k = match box (lentA hq [.sl id0 g0 o0 len0, .agg [.d (.int .i64 a), .d (.int .i64 b), .d (.int .i64 c)], .d (.fn 29 [])]) with
    | .mk (some fs) => kLent (evCall env L n) 47 fs fun r => k r hq
    | _ => none := kCall_lent mode_slices_BinarySearchFunc_i_Edge_i_Edge_i_Edge

theorem kv_search {R : Type} {L n : Nat} {hq : H} {k : A → H → Option R} {id0 g0 o0 len0 : Nat} {a b c : Int} : kCall env (evCall env L n) hq 47 [.sl id0 g0 o0 len0, .agg [.d (.int .i64 a), .d (.int .i64 b), .d (.int .i64 c)], .clo 29 []] k = match box (lentA hq [.sl id0 g0 o0 len0, .agg [.d (.int .i64 a), .d (.int .i64 b), .d (.int .i64 c)], .clo 29 []]) with
    | .mk (some fs) => kLent (evCall env L n) 47 fs fun r => k r hq
    | _ => none := kCall_lent mode_slices_BinarySearchFunc_i_Edge_i_Edge_i_Edge
theorem kv_search_d {R : Type} {L n : Nat} {hq : H} {k : A → H → Option R} {x : D} {a b c : Int} : kCall env (evCall env L n) hq 47 [.d x, .agg [.d (.int .i64 a), .d (.int .i64 b), .d (.int .i64 c)], .clo 29 []] k = match box (lentA hq [.d x, .agg [.d (.int .i64 a), .d (.int .i64 b), .d (.int .i64 c)], .clo 29 []]) with
    | .mk (some fs) => kLent (evCall env L n) 47 fs fun r => k r hq
    | _ => none := kCall_lent mode_slices_BinarySearchFunc_i_Edge_i_Edge_i_Edge

/-! ### copies, cuts -/

theorem set_sameO {h : H} {id : Nat} {o : O} (hi : h[id]? = some o) : h.set id o = h := by
  apply List.ext_getElem?
  intro j
  rw [List.getElem?_set]
  obtain ⟨hl, he⟩ := List.getElem?_eq_some_iff.1 hi
  by_cases e : id = j
  · subst e; simp [hl, he]
  · simp [e]

/-- A call by reference that reaches one slice of data and lays one object. -/
theorem kCall_refnew {R : Type} {E : Env} {call : CallF} {h : H} {f : FuncId} {args : List A} {r : A} {o : O} {k : A → H → Option R} {id e g e2 g2 : Nat} {cs cs2 : List D} (hi : h[id]? = some (.arr cs e g)) (hid : idsL args = [id]) (hm : (E.hint f).mode = 0) (he : call f (mapAs (place [id]) args) [.arr cs e g] = some (r, [.arr cs2 e2 g2, o])) :
    kCall E call h f args k = k (mapA (back [id] h.length 2) r) (h.set id (.arr cs2 e2 g2) ++ [mapO (back [id] h.length 2) o]) := by
  have hre : reach fuelR h [id] [] = [id] := by
    have e1 : reach fuelR h [id] [] = match h[id]? with
      | some (.box cs) => reach (fuelR - 1) h ([] ++ idsL cs) ([] ++ [id])
      | some (.vec cs _ _) => reach (fuelR - 1) h ([] ++ idsL cs) ([] ++ [id])
      | some .void => reach (fuelR - 1) h [] []
      | some _ => reach (fuelR - 1) h [] ([] ++ [id])
      | none => reach (fuelR - 1) h [] [] := rfl
    rw [e1, hi]; rfl
  have hpk : pack h [id] = [.arr cs e g] := by
    simp only [pack, List.map_cons, List.map_nil, List.getD_eq_getElem?_getD, hi]; rfl
  unfold kCall
  rw [hid, hre, hpk]
  have hc : aCall call E.hint [.arr cs e g] f (mapAs (place [id]) args) = some (r, [.arr cs2 e2 g2, o]) := by
    unfold aCall; rw [hm]; exact he
  rw [hc]
  have hcl : closed h [id] [id] = true := by
    simp only [closed, List.all_cons, List.all_nil, hi]; simp
  simp only [List.length_cons, List.length_nil, Nat.le_add_left, hcl, and_self, if_true]
  rfl

/-- A call by reference, its arguments being data, that lays memory. -/
theorem kCall_new0 {R : Type} {E : Env} {call : CallF} {h h2 : H} {f : FuncId} {args : List A} {r : A} {k : A → H → Option R} (hs : args.all still = true) (hm : (E.hint f).mode = 0) (hc : call f args [] = some (r, h2)) :
    kCall E call h f args k = k (mapA (back [] h.length h2.length) r) (h ++ h2.map (mapO (back [] h.length h2.length))) := by
  have hcall : aCall call E.hint [] f args = some (r, h2) := by
    unfold aCall
    rw [hm]
    exact hc
  unfold kCall
  rw [stills_ids hs, reach_none, mapAs_none _ (stills_ids hs)]
  have : pack h [] = [] := rfl
  rw [this, hcall]
  simp only [List.length_nil, Nat.zero_le, true_and, closed, List.all_nil, Bool.and_self, if_true, putBack]

theorem gClone_edges {l : List Edge} {g : Nat} (hl : l.length ≤ 4294967296) : gClone 3 [.sl 0 g 0 l.length] [.arr (edgesD l) 3 g] = some (.sl 1 0 0 l.length, [.arr (edgesD l) 3 g, .arr (edgesD l) 3 0]) := by
  have h1 : 0 + l.length * 3 ≤ (edgesD l).length := by rw [edgesD_length]; omega
  have h2 : sliceCells [.arr (edgesD l) 3 g] 3 (.sl 0 g 0 l.length) = some (l.length, edgesD l) := by
    simp only [sliceCells, List.getElem?_cons_zero, true_and, or_true, h1, if_true, List.drop_zero, edges_take (Nat.le_refl _)]
  have h3 : l.length ≤ maxNeed := by unfold maxNeed; omega
  simp only [gClone, h2, h3, if_true]
  rfl
theorem gClone_edges_d {l : List Edge} (hl : l.length ≤ 4294967296) : gClone 3 [.d (.ivs l.length (edgesD l))] [] = some (.sl 0 0 0 l.length, [.arr (edgesD l) 3 0]) := by
  have h2 : sliceCells [] 3 (.d (.ivs l.length (edgesD l))) = some (l.length, edgesD l) := by
    simp only [sliceCells, edgesD_length, if_true]
  have h3 : l.length ≤ maxNeed := by unfold maxNeed; omega
  simp only [gClone, h2, h3, if_true]
  rfl
theorem kc_slices_Clone_i_Edge_i_Edge {R : Type} {L n id g : Nat} {hq : H} {k : A → H → Option R} (hn : 1 ≤ n) (l : List Edge) (hi : hq[id]? = some (.arr (edgesD l) 3 g)) (hl : l.length ≤ 4294967296) :
    kCall env (evCall env L n) hq 49 [.sl id g 0 l.length] k = k (.sl hq.length 0 0 l.length) (hq ++ [.arr (edgesD l) 3 0]) := by
  obtain ⟨n, rfl⟩ : ∃ m, n = m + 1 := ⟨n - 1, by omega⟩
  rw [kCall_refnew hi (by simp [idsL, idsA]) mode_slices_Clone_i_Edge_i_Edge (by rw [prim_slices_Clone_i_Edge_i_Edge]; simpa [mapAs, mapA, place] using gClone_edges hl)]
  have hset : hq.set id (.arr (edgesD l) 3 g) = hq := set_sameO hi
  rw [hset]
  simp [mapA, back, mapO]
theorem kc_slices_Clone_i_Edge_i_Edge_d {R : Type} {L n : Nat} {hq : H} {k : A → H → Option R} (hn : 1 ≤ n) (l : List Edge) (hl : l.length ≤ 4294967296) :
    kCall env (evCall env L n) hq 49 [.d (.ivs l.length (edgesD l))] k = k (.sl hq.length 0 0 l.length) (hq ++ [.arr (edgesD l) 3 0]) := by
  obtain ⟨n, rfl⟩ : ∃ m, n = m + 1 := ⟨n - 1, by omega⟩
  rw [kCall_new0 rfl mode_slices_Clone_i_Edge_i_Edge (by rw [prim_slices_Clone_i_Edge_i_Edge]; exact gClone_edges_d hl)]
  simp [mapA, back, mapO]

theorem kc_slices_Delete_i_Edge_i_Edge {R : Type} {L n id g : Nat} {hq : H} {k : A → H → Option R} (hn : 1 ≤ n) (l : List Edge) (i j : Nat) (hi : hq[id]? = some (.arr (edgesD l) 3 g)) (hl : l.length ≤ 4294967296) (hij : i < j) (hj : j ≤ l.length) :
    kCall env (evCall env L n) hq 52 [.sl id g 0 l.length, .d (.int .i64 (i : Int)), .d (.int .i64 (j : Int))] k = k (.sl id (g + 1) 0 (l.take i ++ l.drop j).length) (hq.set id (.arr (edgesD (l.take i ++ l.drop j)) 3 (g + 1))) := by
  obtain ⟨n, rfl⟩ : ∃ m, n = m + 1 := ⟨n - 1, by omega⟩
  have hlen : (l.take i ++ l.drop j).length = l.length - (j - i) := by simp only [List.length_append, List.length_take, List.length_drop]; omega
  have hd : gDelete 3 [.sl 0 g 0 l.length, .d (.int .i64 (i : Int)), .d (.int .i64 (j : Int))] [.arr (edgesD l) 3 g] = some (.sl 0 (g + 1) 0 (l.take i ++ l.drop j).length, [.arr (edgesD (l.take i ++ l.drop j)) 3 (g + 1)]) := by
    have c : True ∧ True ∧ True ∧ (0 : Int) ≤ i ∧ (i : Int) < j ∧ (j : Int) ≤ l.length ∧ l.length ≤ maxNeed ∧ l.length * 3 ≤ (edgesD l).length := ⟨trivial, trivial, trivial, by omega, by omega, by omega, by unfold maxNeed; omega, by rw [edgesD_length]; omega⟩
    simp only [gDelete, List.getElem?_cons_zero]
    rw [if_pos c]
    simp only [Int.toNat_natCast, hlen, List.set_cons_zero, edgesD_takek, edgesD_dropk, edgesD_app]
    rw [List.take_of_length_le (l := l.drop j) (by simp)]
  have hc : evCall env L (n + 1) 52 (mapAs (place [id]) [.sl id g 0 l.length, .d (.int .i64 (i : Int)), .d (.int .i64 (j : Int))]) [.arr (edgesD l) 3 g] = some (.sl 0 (g + 1) 0 (l.take i ++ l.drop j).length, [.arr (edgesD (l.take i ++ l.drop j)) 3 (g + 1)]) := by
    rw [prim_slices_Delete_i_Edge_i_Edge]
    simpa [mapAs, mapA, place] using hd
  have hre : reach fuelR hq [id] [] = [id] := by
    have e1 : reach fuelR hq [id] [] = match hq[id]? with
      | some (.box cs) => reach (fuelR - 1) hq ([] ++ idsL cs) ([] ++ [id])
      | some (.vec cs _ _) => reach (fuelR - 1) hq ([] ++ idsL cs) ([] ++ [id])
      | some .void => reach (fuelR - 1) hq [] []
      | some _ => reach (fuelR - 1) hq [] ([] ++ [id])
      | none => reach (fuelR - 1) hq [] [] := rfl
    rw [e1, hi]; rfl
  have hpk : pack hq [id] = [.arr (edgesD l) 3 g] := by
    simp only [pack, List.map_cons, List.map_nil, List.getD_eq_getElem?_getD, hi]; rfl
  unfold kCall
  have hid : idsL [A.sl id g 0 l.length, .d (.int .i64 (i : Int)), .d (.int .i64 (j : Int))] = [id] := by simp [idsL, idsA]
  rw [hid, hre, hpk]
  have hc2 : aCall (evCall env L (n + 1)) env.hint [.arr (edgesD l) 3 g] 52 (mapAs (place [id]) [.sl id g 0 l.length, .d (.int .i64 (i : Int)), .d (.int .i64 (j : Int))]) = some (.sl 0 (g + 1) 0 (l.take i ++ l.drop j).length, [.arr (edgesD (l.take i ++ l.drop j)) 3 (g + 1)]) := by
    unfold aCall; rw [mode_slices_Delete_i_Edge_i_Edge]; exact hc
  rw [hc2]
  have hcl : closed hq [id] [id] = true := by
    simp only [closed, List.all_cons, List.all_nil, hi]; simp
  simp only [List.length_cons, List.length_nil, Nat.le_refl, hcl, and_self, if_true]
  simp [mapA, back, putBack, mapO]

/-- A system that is handed back, or none. -/
def oS : Option Sys → Sys
  | none => ⟨0, 0, []⟩
  | some s => s
def oZ : Option Sys → Nat
  | none => 0
  | some _ => 3

theorem oS_some {s : Sys} : oS (some s) = s := rfl
theorem oS_none : oS none = ⟨0, 0, []⟩ := rfl
theorem oZ_some {s : Sys} : oZ (some s) = 3 := rfl
theorem oZ_none : oZ none = 0 := rfl

/-- What a drop leaves. -/
def dropI (s : Sys) (e : Edge) : Option Sys := if sysOK s && hitE s.es e then some ⟨s.al, s.st, s.es.take (bsE s.es e) ++ s.es.drop (bsE s.es e + 1)⟩ else none

theorem ev_i_DropEdge {L n : Nat} (hn : 7 ≤ n) (al st a b c : Int) (l : List Edge) (hl : l.length ≤ 4294967296) (hL : 2 ^ 60 ≤ L) (o : Option Sys) (hd : dropI ⟨al, st, l⟩ ⟨a, b, c⟩ = o) : evCall env L n 17 [.agg [.d (.int .i64 al), .d (.int .i64 st), .sl 0 0 0 l.length], .agg [.d (.int .i64 a), .d (.int .i64 b), .d (.int .i64 c)]] [.arr (edgesD l) 3 0] = some (.tup [.agg [.d (.int .i64 (oS o).al), .d (.int .i64 (oS o).st), .sl 1 0 0 (oS o).es.length], .d (.bool o.isSome)], [.arr (edgesD l) 3 0, .arr (edgesD (oS o).es) (oZ o) 0]) := by
  subst hd
  unfold dropI
  cases h1 : sysOK ⟨al, st, l⟩ with
  | false =>
    obtain ⟨n, rfl⟩ : ∃ m, n = m + 1 := ⟨n - 1, by omega⟩
    rw [fn_i_DropEdge]
    simp only [S_i_DropEdge, Tryd.f17, SLM, simprocAttr]
    simp -implicitDefEqProofs (maxSteps := 2000000) (disch := first | assumption | (refine Shut.mk ?_; kernel_rfl) | omega | (simp only [GT]; done) | (simp only [LN] <;> omega) | fail) only [↓WD, ↓kAsg, ↓kRet, ↓clash_free, ↓WDD, ↓kOpD_callv, WK, UN, TY, LB, MD, i64_id, simprocAttr, ↓CV, ↓kc_slices_BinarySearchFunc_i_Edge_i_Edge_i_Edge, ↓kc_i_compareEdges, ↓kc_i_SystemValid, ↓kc_slices_Clone_i_Edge_i_Edge, ↓kc_slices_Delete_i_Edge_i_Edge, ↓kl_i_SystemValid, ↓kv_slices_BinarySearchFunc_i_Edge_i_Edge_i_Edge_1, ↓kv_i_SystemValid_1, LE, ↓kv_search, ↓kl_slices_BinarySearchFunc_i_Edge_i_Edge_i_Edge, h1]
    rfl
  | true =>
    cases h2 : hitE l ⟨a, b, c⟩ with
    | false =>
      obtain ⟨n, rfl⟩ : ∃ m, n = m + 1 := ⟨n - 1, by omega⟩
      rw [fn_i_DropEdge]
      simp only [S_i_DropEdge, Tryd.f17, SLM, simprocAttr]
      simp -implicitDefEqProofs (maxSteps := 2000000) (disch := first | assumption | (refine Shut.mk ?_; kernel_rfl) | omega | (simp only [GT]; done) | (simp only [LN] <;> omega) | fail) only [↓WD, ↓kAsg, ↓kRet, ↓clash_free, ↓WDD, ↓kOpD_callv, WK, UN, TY, LB, MD, i64_id, simprocAttr, ↓CV, ↓kc_slices_BinarySearchFunc_i_Edge_i_Edge_i_Edge, ↓kc_i_compareEdges, ↓kc_i_SystemValid, ↓kc_slices_Clone_i_Edge_i_Edge, ↓kc_slices_Delete_i_Edge_i_Edge, ↓kl_i_SystemValid, ↓kv_slices_BinarySearchFunc_i_Edge_i_Edge_i_Edge_1, ↓kv_i_SystemValid_1, LE, ↓kv_search, ↓kl_slices_BinarySearchFunc_i_Edge_i_Edge_i_Edge, h1, h2]
      rfl
    | true =>
      have h3 : bsE l ⟨a, b, c⟩ < l.length := by
        unfold hitE at h2
        simp only [Bool.and_eq_true, decide_eq_true_eq] at h2
        exact h2.1
      have e1 : ((bsE l ⟨a, b, c⟩ : Nat) : Int) + 1 = ((bsE l ⟨a, b, c⟩ + 1 : Nat) : Int) := rfl
      obtain ⟨n, rfl⟩ : ∃ m, n = m + 1 := ⟨n - 1, by omega⟩
      rw [fn_i_DropEdge]
      simp only [S_i_DropEdge, Tryd.f17, SLM, simprocAttr]
      simp -implicitDefEqProofs (maxSteps := 2000000) (disch := first | assumption | (refine Shut.mk ?_; kernel_rfl) | omega | (simp only [GT]; done) | (simp only [LN] <;> omega) | fail) only [↓WD, ↓kAsg, ↓kRet, ↓clash_free, ↓WDD, ↓kOpD_callv, WK, UN, TY, LB, MD, i64_id, simprocAttr, ↓CV, ↓kc_slices_BinarySearchFunc_i_Edge_i_Edge_i_Edge, ↓kc_i_compareEdges, ↓kc_i_SystemValid, ↓kc_slices_Clone_i_Edge_i_Edge, ↓kc_slices_Delete_i_Edge_i_Edge, ↓kl_i_SystemValid, ↓kv_slices_BinarySearchFunc_i_Edge_i_Edge_i_Edge_1, ↓kv_i_SystemValid_1, LE, ↓kv_search, ↓kl_slices_BinarySearchFunc_i_Edge_i_Edge_i_Edge, h1, h2, e1]
      simp only [Bool.and_self, if_true, oS_some, oZ_some, List.length_append, Option.isSome]

theorem ev_i_DropEdge_d {L n : Nat} (hn : 7 ≤ n) (al st a b c : Int) (l : List Edge) (hl : l.length ≤ 4294967296) (hL : 2 ^ 60 ≤ L) (o : Option Sys) (hd : dropI ⟨al, st, l⟩ ⟨a, b, c⟩ = o) : evCall env L n 17 [.agg [.d (.int .i64 al), .d (.int .i64 st), .d (.ivs l.length (edgesD l))], .agg [.d (.int .i64 a), .d (.int .i64 b), .d (.int .i64 c)]] [] = some (.tup [.agg [.d (.int .i64 (oS o).al), .d (.int .i64 (oS o).st), .sl 0 0 0 (oS o).es.length], .d (.bool o.isSome)], [.arr (edgesD (oS o).es) (oZ o) 0]) := by
  subst hd
  unfold dropI
  cases h1 : sysOK ⟨al, st, l⟩ with
  | false =>
    obtain ⟨n, rfl⟩ : ∃ m, n = m + 1 := ⟨n - 1, by omega⟩
    rw [fn_i_DropEdge]
    simp only [S_i_DropEdge, Tryd.f17, SLM, simprocAttr]
    simp -implicitDefEqProofs (maxSteps := 2000000) (disch := first | assumption | (refine Shut.mk ?_; kernel_rfl) | omega | (simp only [GT]; done) | (simp only [LN] <;> omega) | fail) only [↓WD, ↓kAsg, ↓kRet, ↓clash_free, ↓WDD, ↓kOpD_callv, WK, UN, TY, LB, MD, i64_id, simprocAttr, ↓CV, ↓kc_slices_BinarySearchFunc_i_Edge_i_Edge_i_Edge, ↓kc_i_compareEdges, ↓kc_i_SystemValid, ↓kc_slices_Clone_i_Edge_i_Edge, ↓kc_slices_Delete_i_Edge_i_Edge, ↓kl_i_SystemValid, ↓kv_slices_BinarySearchFunc_i_Edge_i_Edge_i_Edge_1, ↓kv_i_SystemValid_1, LE, ↓kv_search_d, ↓kl_slices_BinarySearchFunc_i_Edge_i_Edge_i_Edge, h1]
    rfl
  | true =>
    cases h2 : hitE l ⟨a, b, c⟩ with
    | false =>
      obtain ⟨n, rfl⟩ : ∃ m, n = m + 1 := ⟨n - 1, by omega⟩
      rw [fn_i_DropEdge]
      simp only [S_i_DropEdge, Tryd.f17, SLM, simprocAttr]
      simp -implicitDefEqProofs (maxSteps := 2000000) (disch := first | assumption | (refine Shut.mk ?_; kernel_rfl) | omega | (simp only [GT]; done) | (simp only [LN] <;> omega) | fail) only [↓WD, ↓kAsg, ↓kRet, ↓clash_free, ↓WDD, ↓kOpD_callv, WK, UN, TY, LB, MD, i64_id, simprocAttr, ↓CV, ↓kc_slices_BinarySearchFunc_i_Edge_i_Edge_i_Edge, ↓kc_i_compareEdges, ↓kc_i_SystemValid, ↓kc_slices_Clone_i_Edge_i_Edge, ↓kc_slices_Delete_i_Edge_i_Edge, ↓kl_i_SystemValid, ↓kv_slices_BinarySearchFunc_i_Edge_i_Edge_i_Edge_1, ↓kv_i_SystemValid_1, LE, ↓kv_search_d, ↓kl_slices_BinarySearchFunc_i_Edge_i_Edge_i_Edge, h1, h2]
      rfl
    | true =>
      have h3 : bsE l ⟨a, b, c⟩ < l.length := by
        unfold hitE at h2
        simp only [Bool.and_eq_true, decide_eq_true_eq] at h2
        exact h2.1
      have e1 : ((bsE l ⟨a, b, c⟩ : Nat) : Int) + 1 = ((bsE l ⟨a, b, c⟩ + 1 : Nat) : Int) := rfl
      obtain ⟨n, rfl⟩ : ∃ m, n = m + 1 := ⟨n - 1, by omega⟩
      rw [fn_i_DropEdge]
      simp only [S_i_DropEdge, Tryd.f17, SLM, simprocAttr]
      simp -implicitDefEqProofs (maxSteps := 2000000) (disch := first | assumption | (refine Shut.mk ?_; kernel_rfl) | omega | (simp only [GT]; done) | (simp only [LN] <;> omega) | fail) only [↓WD, ↓kAsg, ↓kRet, ↓clash_free, ↓WDD, ↓kOpD_callv, WK, UN, TY, LB, MD, i64_id, simprocAttr, ↓CV, ↓kc_slices_BinarySearchFunc_i_Edge_i_Edge_i_Edge, ↓kc_i_compareEdges, ↓kc_i_SystemValid, ↓kc_slices_Clone_i_Edge_i_Edge, ↓kc_slices_Delete_i_Edge_i_Edge, ↓kl_i_SystemValid, ↓kv_slices_BinarySearchFunc_i_Edge_i_Edge_i_Edge_1, ↓kv_i_SystemValid_1, LE, ↓kv_search_d, ↓kl_slices_BinarySearchFunc_i_Edge_i_Edge_i_Edge, ↓kc_slices_Clone_i_Edge_i_Edge_d, h1, h2, e1]
      simp only [Bool.and_self, if_true, oS_some, oZ_some, List.length_append, Option.isSome]

theorem kc_i_DropEdge {R : Type} {L n id : Nat} {hq : H} {k : A → H → Option R} (hn : 7 ≤ n) (al st a b c : Int) (l : List Edge) (hi : hq[id]? = some (.arr (edgesD l) 3 0)) (hl : l.length ≤ 4294967296) (hL : 2 ^ 60 ≤ L) :
    kCall env (evCall env L n) hq 17 [.agg [.d (.int .i64 al), .d (.int .i64 st), .sl id 0 0 l.length], .agg [.d (.int .i64 a), .d (.int .i64 b), .d (.int .i64 c)]] k
    = k (.tup [.agg [.d (.int .i64 (oS (dropI ⟨al, st, l⟩ ⟨a, b, c⟩)).al), .d (.int .i64 (oS (dropI ⟨al, st, l⟩ ⟨a, b, c⟩)).st), .sl hq.length 0 0 (oS (dropI ⟨al, st, l⟩ ⟨a, b, c⟩)).es.length], .d (.bool (dropI ⟨al, st, l⟩ ⟨a, b, c⟩).isSome)]) (hq ++ [.arr (edgesD (oS (dropI ⟨al, st, l⟩ ⟨a, b, c⟩)).es) (oZ (dropI ⟨al, st, l⟩ ⟨a, b, c⟩)) 0]) := by
  rw [kCall_refnew hi (by simp [idsL, idsA]) mode_i_DropEdge (by simpa [mapAs, mapA, place] using ev_i_DropEdge hn al st a b c l hl hL _ rfl)]
  rw [set_sameO hi]
  simp [mapA, mapAs, back, mapO]

theorem kc_i_DropEdge_d {R : Type} {L n : Nat} {hq : H} {k : A → H → Option R} (hn : 7 ≤ n) (al st a b c : Int) (l : List Edge) (hl : l.length ≤ 4294967296) (hL : 2 ^ 60 ≤ L) :
    kCall env (evCall env L n) hq 17 [.agg [.d (.int .i64 al), .d (.int .i64 st), .d (.ivs l.length (edgesD l))], .agg [.d (.int .i64 a), .d (.int .i64 b), .d (.int .i64 c)]] k
    = k (.tup [.agg [.d (.int .i64 (oS (dropI ⟨al, st, l⟩ ⟨a, b, c⟩)).al), .d (.int .i64 (oS (dropI ⟨al, st, l⟩ ⟨a, b, c⟩)).st), .sl hq.length 0 0 (oS (dropI ⟨al, st, l⟩ ⟨a, b, c⟩)).es.length], .d (.bool (dropI ⟨al, st, l⟩ ⟨a, b, c⟩).isSome)]) (hq ++ [.arr (edgesD (oS (dropI ⟨al, st, l⟩ ⟨a, b, c⟩)).es) (oZ (dropI ⟨al, st, l⟩ ⟨a, b, c⟩)) 0]) := by
  rw [kCall_new0 rfl mode_i_DropEdge (ev_i_DropEdge_d hn al st a b c l hl hL _ rfl)]
  simp [mapA, mapAs, back, mapO]

end Ev
end Go.Proofs.YtojaohcpgelhmaaDoor
end

/-!
  What the reference says of dropping an edge; both are the same.
-/
section
set_option linter.unusedSimpArgs false
set_option linter.unusedVariables false
set_option maxRecDepth 8000
set_option pp.maxSteps 6000
set_option maxHeartbeats 4000000
namespace Go.Proofs.YtojaohcpgelhmaaDoor
namespace Ev

def optI : Option Nat → Int
  | none => -1
  | some r => r

theorem optI_some {r : Nat} : optI (some r) = (r : Int) := rfl
theorem optI_none : optI none = -1 := rfl

theorem loop_s_l17Index {R : Type} {L n : Nat} {a b c : Int} {l : List Edge} (hl : l.length ≤ 4294967296) {k : Exit → List A → H → Option R} : ∀ (j : Nat) (i : Int) (m : Nat) (h0 : 0 ≤ i) (hi : i + j = l.length) (hm : j < m),
    kLoop env (evCall env L n) L 0 [] (true :: false :: false :: true :: true :: true :: false :: false :: false :: false :: false :: false :: false :: false :: false :: false :: false :: false :: false :: []) (lp_s_l17Index 0) (false :: true :: true :: false :: false :: false :: true :: true :: true :: true :: true :: true :: true :: true :: true :: true :: true :: true :: true :: []) m (.d (.ivs l.length (edgesD l)) :: .junk :: .junk :: .ptr 0 0 0 :: .d (.int .i64 0) :: .d (.int .i64 i) :: .junk :: .junk :: .junk :: .junk :: .junk :: .junk :: .junk :: .junk :: .junk :: .junk :: .junk :: .junk :: .junk :: []) [.box [.d (.int .i64 a), .d (.int .i64 b), .d (.int .i64 c)]] k
    = match seek (fun k => decide (l.getD k default = ⟨a, b, c⟩)) j i.toNat with
      | none => k (.exit 0) (.d (.ivs l.length (edgesD l)) :: .junk :: .junk :: .ptr 0 0 0 :: .d (.int .i64 0) :: .d (.int .i64 (l.length)) :: .junk :: .junk :: .junk :: .junk :: .junk :: .junk :: .junk :: .junk :: .junk :: .junk :: .junk :: .junk :: .junk :: []) [.box [.d (.int .i64 a), .d (.int .i64 b), .d (.int .i64 c)]]
      | some r => k .ret (.d (.ivs l.length (edgesD l)) :: .junk :: .junk :: .ptr 0 0 0 :: .d (.int .i64 r) :: .d (.int .i64 r) :: .junk :: .junk :: .junk :: .junk :: .junk :: .junk :: .junk :: .junk :: .junk :: .junk :: .junk :: .junk :: .junk :: []) [.box [.d (.int .i64 a), .d (.int .i64 b), .d (.int .i64 c)]] := by
  intro j
  induction j with
  | zero =>
    intro i m h0 hi hm
    obtain ⟨m, rfl⟩ : ∃ q, m = q + 1 := ⟨m - 1, by omega⟩
    obtain rfl : i = l.length := by omega
    rw [step_s_l17Index_0]
    simp only [S_s_l17Index_0, Tryd.f51, SLM, simprocAttr]
    simp -implicitDefEqProofs (maxSteps := 2000000) (disch := first | assumption | (refine Shut.mk ?_; kernel_rfl) | omega | (simp only [GT]; done) | (simp only [LN] <;> omega) | fail) only [↓WD, ↓kAsg, ↓kRet, ↓clash_free, ↓WDD, ↓kOpD_callv, WK, UN, TY, LB, MD, i64_id, simprocAttr, ↓CV, LE, Int.lt_irrefl]
    rfl
  | succ j ih =>
    intro i m h0 hi hm
    obtain ⟨m, rfl⟩ : ∃ q, m = q + 1 := ⟨m - 1, by omega⟩
    have hc : i < l.length := by omega
    have hk : i.toNat < l.length := by omega
    have e1 : (i + 1).toNat = i.toNat + 1 := by omega
    have e3 : ((i.toNat : Nat) : Int) = i := by omega
    by_cases hb : l.getD i.toNat default = ⟨a, b, c⟩
    · rw [seek_pos (decide_eq_true hb)]
      rw [step_s_l17Index_0]
      simp only [S_s_l17Index_0, Tryd.f51, SLM, simprocAttr]
      simp -implicitDefEqProofs (maxSteps := 2000000) (disch := first | assumption | (refine Shut.mk ?_; kernel_rfl) | omega | (simp only [GT]; done) | (simp only [LN] <;> omega) | fail) only [↓WD, ↓kAsg, ↓kRet, ↓clash_free, ↓WDD, ↓kOpD_callv, WK, UN, TY, LB, MD, i64_id, simprocAttr, ↓CV, LE, hc, hb, e3]
    · rw [seek_neg (decide_eq_false hb)]
      rw [step_s_l17Index_0]
      simp only [S_s_l17Index_0, Tryd.f51, SLM, simprocAttr]
      simp -implicitDefEqProofs (maxSteps := 2000000) (disch := first | assumption | (refine Shut.mk ?_; kernel_rfl) | omega | (simp only [GT]; done) | (simp only [LN] <;> omega) | fail) only [↓WD, ↓kAsg, ↓kRet, ↓clash_free, ↓WDD, ↓kOpD_callv, WK, UN, TY, LB, MD, i64_id, simprocAttr, ↓CV, LE, hc, hb, ↓ih, e1]

theorem loop_s_l17Index_top {R : Type} {L n m : Nat} {a b c : Int} {l : List Edge} (hl : l.length ≤ 4294967296) {k : Exit → List A → H → Option R} (hm : l.length < m) :
    kLoop env (evCall env L n) L 0 [] (true :: false :: false :: true :: true :: true :: false :: false :: false :: false :: false :: false :: false :: false :: false :: false :: false :: false :: false :: []) (lp_s_l17Index 0) (false :: true :: true :: false :: false :: false :: true :: true :: true :: true :: true :: true :: true :: true :: true :: true :: true :: true :: true :: []) m (.d (.ivs l.length (edgesD l)) :: .junk :: .junk :: .ptr 0 0 0 :: .d (.int .i64 0) :: .d (.int .i64 0) :: .junk :: .junk :: .junk :: .junk :: .junk :: .junk :: .junk :: .junk :: .junk :: .junk :: .junk :: .junk :: .junk :: []) [.box [.d (.int .i64 a), .d (.int .i64 b), .d (.int .i64 c)]] k
    = match idxE l ⟨a, b, c⟩ with
      | none => k (.exit 0) (.d (.ivs l.length (edgesD l)) :: .junk :: .junk :: .ptr 0 0 0 :: .d (.int .i64 0) :: .d (.int .i64 (l.length)) :: .junk :: .junk :: .junk :: .junk :: .junk :: .junk :: .junk :: .junk :: .junk :: .junk :: .junk :: .junk :: .junk :: []) [.box [.d (.int .i64 a), .d (.int .i64 b), .d (.int .i64 c)]]
      | some r => k .ret (.d (.ivs l.length (edgesD l)) :: .junk :: .junk :: .ptr 0 0 0 :: .d (.int .i64 r) :: .d (.int .i64 r) :: .junk :: .junk :: .junk :: .junk :: .junk :: .junk :: .junk :: .junk :: .junk :: .junk :: .junk :: .junk :: .junk :: []) [.box [.d (.int .i64 a), .d (.int .i64 b), .d (.int .i64 c)]] :=
  loop_s_l17Index hl l.length 0 m (by omega) (by omega) hm

theorem ev_s_l17Index {L n : Nat} (hn : 1 ≤ n) (l : List Edge) (a b c : Int) (hl : l.length ≤ 4294967296) (hL : 2 ^ 60 ≤ L) : evCall env L n 51 [.d (.ivs l.length (edgesD l)), .agg [.d (.int .i64 a), .d (.int .i64 b), .d (.int .i64 c)]] [] = some (.d (.int .i64 (optI (idxE l ⟨a, b, c⟩))), []) := by
  cases hs : idxE l ⟨a, b, c⟩ with
  | none =>
    obtain ⟨n, rfl⟩ : ∃ m, n = m + 1 := ⟨n - 1, by omega⟩
    rw [fn_s_l17Index]
    simp only [S_s_l17Index, Tryd.f51, SLM, simprocAttr]
    simp -implicitDefEqProofs (maxSteps := 2000000) (disch := first | assumption | (refine Shut.mk ?_; kernel_rfl) | omega | (simp only [GT]; done) | (simp only [LN] <;> omega) | fail) only [↓WD, ↓kAsg, ↓kRet, ↓clash_free, ↓WDD, ↓kOpD_callv, WK, UN, TY, LB, MD, i64_id, simprocAttr, ↓CV, ↓loop_s_l17Index, ↓loop_s_l17Index_top, LE, hs, optI]
  | some r =>
    obtain ⟨n, rfl⟩ : ∃ m, n = m + 1 := ⟨n - 1, by omega⟩
    rw [fn_s_l17Index]
    simp only [S_s_l17Index, Tryd.f51, SLM, simprocAttr]
    simp -implicitDefEqProofs (maxSteps := 2000000) (disch := first | assumption | (refine Shut.mk ?_; kernel_rfl) | omega | (simp only [GT]; done) | (simp only [LN] <;> omega) | fail) only [↓WD, ↓kAsg, ↓kRet, ↓clash_free, ↓WDD, ↓kOpD_callv, WK, UN, TY, LB, MD, i64_id, simprocAttr, ↓CV, ↓loop_s_l17Index, ↓loop_s_l17Index_top, LE, hs, optI]
theorem kc_s_l17Index {R : Type} {L n : Nat} {hq : H} {k : A → H → Option R} (hn : 1 ≤ n) (l : List Edge) (a b c : Int) (hl : l.length ≤ 4294967296) (hL : 2 ^ 60 ≤ L) : kCall env (evCall env L n) hq 51 [.d (.ivs l.length (edgesD l)), .agg [.d (.int .i64 a), .d (.int .i64 b), .d (.int .i64 c)]] k = k (.d (.int .i64 (optI (idxE l ⟨a, b, c⟩)))) hq :=
  kCall_still rfl (ev_s_l17Index hn l a b c hl hL) rfl (.inl rfl)
theorem kl_s_l17Index {R : Type} {L n : Nat} {k : A → Option R} (hn : 1 ≤ n) (l : List Edge) (a b c : Int) (hl : l.length ≤ 4294967296) (hL : 2 ^ 60 ≤ L) : kLent (evCall env L n) 51 [.d (.ivs l.length (edgesD l)), .agg [.d (.int .i64 a), .d (.int .i64 b), .d (.int .i64 c)]] k = k (.d (.int .i64 (optI (idxE l ⟨a, b, c⟩)))) :=
  kLent_ev (ev_s_l17Index hn l a b c hl hL) rfl
theorem kv_s_l17Index_1 {R : Type} {L n : Nat} {hq : H} {k : A → H → Option R} {id0 g0 o0 len0 : Nat} {a b c : Int} : kCall env (evCall env L n) hq 51 [.sl id0 g0 o0 len0, .agg [.d (.int .i64 a), .d (.int .i64 b), .d (.int .i64 c)]] k = match box (lentA hq [.sl id0 g0 o0 len0, .agg [.d (.int .i64 a), .d (.int .i64 b), .d (.int .i64 c)]]) with
    | .mk (some fs) => kLent (evCall env L n) 51 fs fun r => k r hq
    | _ => none := kCall_lent mode_s_l17Index

theorem conv_sle_to {l : List Edge} {n : Nat} {u : Int} {h : H} (hn : n = l.length) (h0 : 0 ≤ u) (h1 : u ≤ l.length) : aSlice env.P h 23 (.d (.ivs n (edgesD l))) none (some u) = some (.d (.ivs (l.take u.toNat).length (edgesD (l.take u.toNat)))) := by
  have hu : env.P.underlying 23 = some (.slice 38) := by kernel_rfl
  have hc : env.P.cellsOf 38 = 3 := by kernel_rfl
  subst hn
  have hb : aBounds l.length none (some u) = some (0, u.toNat) := by
    unfold aBounds
    simp only [Option.getD_none, Option.getD_some]
    rw [if_pos (by omega)]; rfl
  have hl : (l.take u.toNat).length = u.toNat := by rw [List.length_take]; omega
  simp only [aSlice, hu, hc, hb, Nat.zero_lt_succ, if_true, Option.map_some, Nat.sub_zero, Nat.zero_mul, List.drop_zero, edgesD_takek, hl]
theorem conv_sle_from {l : List Edge} {n : Nat} {u : Int} {h : H} (hn : n = l.length) (h0 : 0 ≤ u) (h1 : u ≤ l.length) : aSlice env.P h 23 (.d (.ivs n (edgesD l))) (some u) none = some (.d (.ivs (l.drop u.toNat).length (edgesD (l.drop u.toNat)))) := by
  have hu : env.P.underlying 23 = some (.slice 38) := by kernel_rfl
  have hc : env.P.cellsOf 38 = 3 := by kernel_rfl
  subst hn
  have hb : aBounds l.length (some u) none = some (u.toNat, l.length) := by
    unfold aBounds
    simp only [Option.getD_none, Option.getD_some]
    rw [if_pos (by omega)]; simp
  have hl : (l.drop u.toNat).length = l.length - u.toNat := by rw [List.length_drop]
  simp only [aSlice, hu, hc, hb, Nat.zero_lt_succ, if_true, Option.map_some, edgesD_takek, edgesD_dropk, hl]
  rw [List.take_of_length_le (by simp)]

theorem ev_s_l17Drop {L n : Nat} (hn : 1 ≤ n) (al st : Int) (l : List Edge) (i : Nat) (hl : l.length ≤ 4294967296) (hi : i < l.length) (hL : 2 ^ 60 ≤ L) : evCall env L n 55 [.agg [.d (.int .i64 al), .d (.int .i64 st), .d (.ivs l.length (edgesD l))], .d (.int .i64 (i : Int))] [] = some (.agg [.d (.int .i64 al), .d (.int .i64 st), .d (.ivs (l.take i ++ l.drop (i + 1)).length (edgesD (l.take i ++ l.drop (i + 1))))], []) := by
  have e1 : (i : Int) + 1 = ((i + 1 : Nat) : Int) := rfl
  obtain ⟨n, rfl⟩ : ∃ m, n = m + 1 := ⟨n - 1, by omega⟩
  rw [fn_s_l17Drop]
  simp only [S_s_l17Drop, Tryd.f55, SLM, simprocAttr]
  simp -implicitDefEqProofs (maxSteps := 2000000) (disch := first | assumption | (refine Shut.mk ?_; kernel_rfl) | omega | (simp only [GT]; done) | (simp only [LN] <;> omega) | fail) only [↓WD, ↓kAsg, ↓kRet, ↓clash_free, ↓WDD, ↓kOpD_callv, WK, UN, TY, LB, MD, i64_id, simprocAttr, ↓CV, LE, ↓conv_sle_to, ↓conv_sle_from, e1, Int.toNat_natCast]
theorem kc_s_l17Drop {R : Type} {L n : Nat} {hq : H} {k : A → H → Option R} (hn : 1 ≤ n) (al st : Int) (l : List Edge) (i : Nat) (hl : l.length ≤ 4294967296) (hi : i < l.length) (hL : 2 ^ 60 ≤ L) : kCall env (evCall env L n) hq 55 [.agg [.d (.int .i64 al), .d (.int .i64 st), .d (.ivs l.length (edgesD l))], .d (.int .i64 (i : Int))] k = k (.agg [.d (.int .i64 al), .d (.int .i64 st), .d (.ivs (l.take i ++ l.drop (i + 1)).length (edgesD (l.take i ++ l.drop (i + 1))))]) hq :=
  kCall_still rfl (ev_s_l17Drop hn al st l i hl hi hL) rfl (.inr rfl)

theorem frz_sys {al st : Int} {l : List Edge} {id : Nat} {xs : List A} (hx : xs.all still = true) : frzAs [.arr (edgesD l) 3 0] (mapAs (place [id]) (.agg [.d (.int .i64 al), .d (.int .i64 st), .sl id 0 0 l.length] :: xs)) = some (.agg [.d (.int .i64 al), .d (.int .i64 st), .d (.ivs l.length (edgesD l))] :: xs, [.ice (edgesD l) 3 0]) := by
  have h1 : 0 + l.length * 3 ≤ (edgesD l).length := by rw [edgesD_length]; omega
  have h2 : mapAs (place [id]) (.agg [.d (.int .i64 al), .d (.int .i64 st), .sl id 0 0 l.length] :: xs) = .agg [.d (.int .i64 al), .d (.int .i64 st), .sl 0 0 0 l.length] :: xs := by
    simp [mapAs, mapA, place, mapAs_none _ (stills_ids hx)]
  have h3 : frzA [.arr (edgesD l) 3 0] (.agg [.d (.int .i64 al), .d (.int .i64 st), .sl 0 0 0 l.length]) = some (.agg [.d (.int .i64 al), .d (.int .i64 st), .d (.ivs l.length (edgesD l))], [.ice (edgesD l) 3 0]) := by
    simp only [frzA, frzL, listWith, frz, deep, frz0, List.getElem?_cons_zero, true_and, h1, if_true, List.drop_zero, edges_take (Nat.le_refl _), List.set_cons_zero, List.map_cons, List.map_nil]
  rw [h2]
  simp only [frzAs, h3, frzAs_still hx]

theorem ev_s_DropEdge {L n : Nat} (hn : 5 ≤ n) (al st a b c : Int) (l : List Edge) (hl : l.length ≤ 4294967296) (hL : 2 ^ 60 ≤ L) : evCall env L n 20 [.agg [.d (.int .i64 al), .d (.int .i64 st), .d (.ivs l.length (edgesD l))], .agg [.d (.int .i64 a), .d (.int .i64 b), .d (.int .i64 c)]] [] = some (.tup [.agg [.d (.int .i64 (oS (dropI ⟨al, st, l⟩ ⟨a, b, c⟩)).al), .d (.int .i64 (oS (dropI ⟨al, st, l⟩ ⟨a, b, c⟩)).st), .d (.ivs (oS (dropI ⟨al, st, l⟩ ⟨a, b, c⟩)).es.length (edgesD (oS (dropI ⟨al, st, l⟩ ⟨a, b, c⟩)).es))], .d (.bool (dropI ⟨al, st, l⟩ ⟨a, b, c⟩).isSome)], []) := by
  unfold dropI
  cases h1 : sysOK ⟨al, st, l⟩ with
  | false =>
    obtain ⟨n, rfl⟩ : ∃ m, n = m + 1 := ⟨n - 1, by omega⟩
    rw [fn_s_DropEdge]
    simp only [S_s_DropEdge, Tryd.f20, SLM, simprocAttr]
    simp -implicitDefEqProofs (maxSteps := 2000000) (disch := first | assumption | (refine Shut.mk ?_; kernel_rfl) | omega | (simp only [GT]; done) | (simp only [LN] <;> omega) | fail) only [↓WD, ↓kAsg, ↓kRet, ↓clash_free, ↓WDD, ↓kOpD_callv, WK, UN, TY, LB, MD, i64_id, simprocAttr, ↓CV, ↓kc_s_SystemValid, ↓kc_s_l17Index, ↓kc_s_l17Drop, ↓kl_s_SystemValid, ↓kl_s_l17Index, ↓kv_s_SystemValid_1, ↓kv_s_l17Index_1, LE, h1]
    rfl
  | true =>
    have hs : SortedE l := sysOK_sorted h1
    cases h2 : hitE l ⟨a, b, c⟩ with
    | false =>
      have h3 := hit_none hs h2
      obtain ⟨n, rfl⟩ : ∃ m, n = m + 1 := ⟨n - 1, by omega⟩
      rw [fn_s_DropEdge]
      simp only [S_s_DropEdge, Tryd.f20, SLM, simprocAttr]
      simp -implicitDefEqProofs (maxSteps := 2000000) (disch := first | assumption | (refine Shut.mk ?_; kernel_rfl) | omega | (simp only [GT]; done) | (simp only [LN] <;> omega) | fail) only [↓WD, ↓kAsg, ↓kRet, ↓clash_free, ↓WDD, ↓kOpD_callv, WK, UN, TY, LB, MD, i64_id, simprocAttr, ↓CV, ↓kc_s_SystemValid, ↓kc_s_l17Index, ↓kc_s_l17Drop, ↓kl_s_SystemValid, ↓kl_s_l17Index, ↓kv_s_SystemValid_1, ↓kv_s_l17Index_1, LE, h1, h2, h3, optI_none]
      rfl
    | true =>
      have h3 := hit_some hs h2
      have h4 : bsE l ⟨a, b, c⟩ < l.length := by
        unfold hitE at h2
        simp only [Bool.and_eq_true, decide_eq_true_eq] at h2
        exact h2.1
      have h5 : ¬ ((bsE l ⟨a, b, c⟩ : Nat) : Int) < 0 := by omega
      obtain ⟨n, rfl⟩ : ∃ m, n = m + 1 := ⟨n - 1, by omega⟩
      rw [fn_s_DropEdge]
      simp only [S_s_DropEdge, Tryd.f20, SLM, simprocAttr]
      simp -implicitDefEqProofs (maxSteps := 2000000) (disch := first | assumption | (refine Shut.mk ?_; kernel_rfl) | omega | (simp only [GT]; done) | (simp only [LN] <;> omega) | fail) only [↓WD, ↓kAsg, ↓kRet, ↓clash_free, ↓WDD, ↓kOpD_callv, WK, UN, TY, LB, MD, i64_id, simprocAttr, ↓CV, ↓kc_s_SystemValid, ↓kc_s_l17Index, ↓kc_s_l17Drop, ↓kl_s_SystemValid, ↓kl_s_l17Index, ↓kv_s_SystemValid_1, ↓kv_s_l17Index_1, LE, h1, h2, h3, h5, optI_some]
      simp only [Bool.and_self, if_true, oS_some, oZ_some, List.length_append, Option.isSome]
theorem kc_s_DropEdge {R : Type} {L n : Nat} {hq : H} {k : A → H → Option R} (hn : 5 ≤ n) (al st a b c : Int) (l : List Edge) (hl : l.length ≤ 4294967296) (hL : 2 ^ 60 ≤ L) : kCall env (evCall env L n) hq 20 [.agg [.d (.int .i64 al), .d (.int .i64 st), .d (.ivs l.length (edgesD l))], .agg [.d (.int .i64 a), .d (.int .i64 b), .d (.int .i64 c)]] k = k (.tup [.agg [.d (.int .i64 (oS (dropI ⟨al, st, l⟩ ⟨a, b, c⟩)).al), .d (.int .i64 (oS (dropI ⟨al, st, l⟩ ⟨a, b, c⟩)).st), .d (.ivs (oS (dropI ⟨al, st, l⟩ ⟨a, b, c⟩)).es.length (edgesD (oS (dropI ⟨al, st, l⟩ ⟨a, b, c⟩)).es))], .d (.bool (dropI ⟨al, st, l⟩ ⟨a, b, c⟩).isSome)]) hq :=
  kCall_still rfl (ev_s_DropEdge hn al st a b c l hl hL) rfl (.inr rfl)
end Ev
end Go.Proofs.YtojaohcpgelhmaaDoor
end
