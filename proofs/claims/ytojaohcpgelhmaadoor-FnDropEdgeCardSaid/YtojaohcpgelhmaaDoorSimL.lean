/-
  The greatest relation between two systems, as it is found by striking: plain laws.
-/
import Derived.Test.YtojaohcpgelhmaaDoorMemb
set_option linter.unusedSimpArgs false
set_option linter.unusedVariables false
namespace Go.Proofs.YtojaohcpgelhmaaDoor
namespace Ev

/-- A number is struck from a set. -/
def clr (a j : Nat) : Nat := a &&& (18446744073709551615 - 2 ^ j)

theorem clr_bit {a j i : Nat} (hi : i < 64) (hj : j < 64) : (clr a j).testBit i = (a.testBit i && decide (i ≠ j)) := by
  have hp : (2 : Nat) ^ j < 2 ^ 64 := Nat.pow_lt_pow_right (by decide) hj
  have e : 18446744073709551615 - 2 ^ j = 2 ^ 64 - (2 ^ j + 1) := by omega
  unfold clr
  rw [Nat.testBit_and, e, Nat.testBit_two_pow_sub_succ hp, Nat.testBit_two_pow]
  by_cases h : i = j
  · subst h; simp
  · have : ¬ j = i := fun h2 => h h2.symm
    simp [h, this, hi]

theorem clr_le (a j : Nat) : clr a j ≤ a := Nat.and_le_left

theorem clr_lt {a j : Nat} (hj : j < 64) (h : a.testBit j = true) : clr a j < a := by
  have h1 := clr_le a j
  rcases Nat.lt_or_eq_of_le h1 with h2 | h2
  · exact h2
  · have h3 := clr_bit (a := a) hj hj
    rw [h2, h] at h3
    simp at h3

/-- Whether the edges by a letter are answered: whether all so far, how many were asked, what was reached. -/
def ansG (rel : List Nat) (nj : Nat) (ks : List Int) : Nat → Nat → Nat → Bool × Nat × Nat
  | 0, i, r => (true, i, r)
  | j + 1, i, r => if rel.getD (ks.getD i 0).toNat 0 &&& nj = 0 then (false, i, r) else ansG rel nj ks j (i + 1) (r ||| rel.getD (ks.getD i 0).toNat 0)

def ansH (m n : List Edge) (rel : List Nat) (i j : Nat) : Nat → Nat → Bool × Nat
  | 0, l => (true, l)
  | q + 1, l => if (ansG rel (mvAt n (j * 6 + l)) (memG (mvAt m (i * 6 + l)) (mvAt m (i * 6 + l))) (memG (mvAt m (i * 6 + l)) (mvAt m (i * 6 + l))).length 0 0).1 = true then ansH m n rel i j q (l + 1) else (false, l)

def ansB (m n : List Edge) (rel : List Nat) (i j : Nat) : Bool := (ansH m n rel i j 6 0).1

/-- One state's candidates are gone through. -/
def relJ (m n : List Edge) (i : Nat) (js : List Int) : Nat → Nat → List Nat × Bool → List Nat × Bool
  | 0, _, s => s
  | r + 1, q, s => if ansB m n s.1 i (js.getD q 0).toNat = true then relJ m n i js r (q + 1) s else relJ m n i js r (q + 1) (s.1.set i (clr (s.1.getD i 0) (js.getD q 0).toNat), true)

def relO (m n : List Edge) : Nat → Nat → List Nat × Bool → List Nat × Bool
  | 0, _, s => s
  | r + 1, i, s => relO m n r (i + 1) (relJ m n i (memG (s.1.getD i 0) (s.1.getD i 0)) (memG (s.1.getD i 0) (s.1.getD i 0)).length 0 s)

def relW (m n : List Edge) (st : Nat) : Nat → List Nat → List Nat
  | 0, r => r
  | M + 1, r => if (relO m n st 0 (r, false)).2 = true then relW m n st M (relO m n st 0 (r, false)).1 else (relO m n st 0 (r, false)).1

/-- What holds of the relation on the way. -/
structure RI (st : Nat) (rel : List Nat) : Prop where
  len : rel.length = st
  all : ∀ k, rel.getD k 0 < 65536

theorem getD_set {α : Type} {l : List α} {i k : Nat} {v d : α} : (l.set i v).getD k d = if i = k ∧ i < l.length then v else l.getD k d := by
  rw [List.getD_eq_getElem?_getD, List.getD_eq_getElem?_getD, List.getElem?_set]
  by_cases h : i = k
  · subst h
    by_cases h2 : i < l.length
    · simp [h2]
    · simp [h2, List.getElem?_eq_none (by omega : l.length ≤ i)]
  · simp [h]

theorem ri_clr {st : Nat} {rel : List Nat} (h : RI st rel) (i j : Nat) : RI st (rel.set i (clr (rel.getD i 0) j)) := by
  refine ⟨by rw [List.length_set, h.len], fun k => ?_⟩
  rw [getD_set]
  split
  · have := clr_le (rel.getD i 0) j
    have := h.all i
    omega
  · exact h.all k

theorem ri_J {st : Nat} {m n : List Edge} {i : Nat} {js : List Int} : ∀ (r q : Nat) (s : List Nat × Bool), RI st s.1 → RI st (relJ m n i js r q s).1
  | 0, q, s, h => h
  | r + 1, q, s, h => by
    unfold relJ
    split
    · exact ri_J r _ _ h
    · exact ri_J r _ _ (ri_clr h i _)

theorem ri_O {st : Nat} {m n : List Edge} : ∀ (r i : Nat) (s : List Nat × Bool), RI st s.1 → RI st (relO m n r i s).1
  | 0, i, s, h => h
  | r + 1, i, s, h => ri_O r (i + 1) _ (ri_J _ _ _ h)

/-! ### it comes to an end -/

theorem sum_set : ∀ {l : List Nat} {i v : Nat}, i < l.length → (l.set i v).sum + l.getD i 0 = l.sum + v
  | [], i, v, h => by simp at h
  | a :: l, 0, v, h => by simp; omega
  | a :: l, i + 1, v, h => by
    have := sum_set (l := l) (i := i) (v := v) (by simpa using h)
    simp only [List.set_cons_succ, List.sum_cons, List.getD_cons_succ]
    omega

theorem sum_clr {l : List Nat} {i j : Nat} : (l.set i (clr (l.getD i 0) j)).sum ≤ l.sum := by
  by_cases h : i < l.length
  · have h1 := sum_set (v := clr (l.getD i 0) j) h
    have h2 := clr_le (l.getD i 0) j
    omega
  · rw [List.set_eq_of_length_le (by omega)]
    exact Nat.le_refl _

theorem J_le {m n : List Edge} {i : Nat} {js : List Int} : ∀ (r q : Nat) (s : List Nat × Bool), (relJ m n i js r q s).1.sum ≤ s.1.sum ∧ (s.2 = true → (relJ m n i js r q s).2 = true)
  | 0, q, s => ⟨Nat.le_refl _, id⟩
  | r + 1, q, s => by
    unfold relJ
    split
    · exact J_le r _ _
    · obtain ⟨h1, h2⟩ := J_le (m := m) (n := n) (i := i) (js := js) r (q + 1) (s.1.set i (clr (s.1.getD i 0) (js.getD q 0).toNat), true)
      exact ⟨Nat.le_trans h1 sum_clr, fun _ => h2 rfl⟩

/-- What strikes something is less. -/
theorem J_lt {m n : List Edge} {i : Nat} {js : List Int} : ∀ (r q : Nat) (rel : List Nat) (hi : i < rel.length) (hj : ∀ k, q ≤ k → k < q + r → (js.getD k 0).toNat < 64 ∧ (rel.getD i 0).testBit (js.getD k 0).toNat = true),
    ((relJ m n i js r q (rel, false)).2 = true → (relJ m n i js r q (rel, false)).1.sum < rel.sum) ∧ ((relJ m n i js r q (rel, false)).2 = false → (relJ m n i js r q (rel, false)).1 = rel)
  | 0, q, rel, hi, hj => ⟨fun h => (by cases h), fun _ => rfl⟩
  | r + 1, q, rel, hi, hj => by
    unfold relJ
    split
    · exact J_lt r (q + 1) rel hi fun k h1 h2 => hj k (by omega) (by omega)
    · obtain ⟨h1, h2⟩ := J_le (m := m) (n := n) (i := i) (js := js) r (q + 1) (rel.set i (clr (rel.getD i 0) (js.getD q 0).toNat), true)
      obtain ⟨b1, b2⟩ := hj q (Nat.le_refl _) (by omega)
      have h3 := sum_set (v := clr (rel.getD i 0) (js.getD q 0).toNat) hi
      have h4 := clr_lt b1 b2
      refine ⟨fun _ => ?_, fun h => ?_⟩
      · have : (rel.set i (clr (rel.getD i 0) (js.getD q 0).toNat)).sum < rel.sum := by omega
        exact Nat.lt_of_le_of_lt h1 this
      · have h5 : (relJ m n i js r (q + 1) (rel.set i (clr (rel.getD i 0) (js.getD q 0).toNat), true)).2 = true := h2 rfl
        rw [h5] at h; cases h

theorem O_le {m n : List Edge} : ∀ (r i : Nat) (s : List Nat × Bool), (relO m n r i s).1.sum ≤ s.1.sum ∧ (s.2 = true → (relO m n r i s).2 = true)
  | 0, i, s => ⟨Nat.le_refl _, id⟩
  | r + 1, i, s => by
    unfold relO
    obtain ⟨h1, h2⟩ := J_le (m := m) (n := n) (i := i) (js := memG (s.1.getD i 0) (s.1.getD i 0)) (memG (s.1.getD i 0) (s.1.getD i 0)).length 0 s
    obtain ⟨k1, k2⟩ := O_le (m := m) (n := n) r (i + 1) (relJ m n i (memG (s.1.getD i 0) (s.1.getD i 0)) (memG (s.1.getD i 0) (s.1.getD i 0)).length 0 s)
    exact ⟨Nat.le_trans k1 h1, fun h => k2 (h2 h)⟩

theorem memG_get {s : Nat} (h : s < 65536) : ∀ k, k < (memG s s).length → ((memG s s).getD k 0).toNat < 16 ∧ 0 ≤ (memG s s).getD k 0 ∧ s.testBit ((memG s s).getD k 0).toNat = true := by
  intro k hk
  have hm : (memG s s).getD k 0 ∈ memG s s := by rw [List.getD_eq_getElem?_getD, List.getElem?_eq_getElem hk]; exact List.getElem_mem hk
  obtain ⟨y0, yb⟩ := memG_mem _ _ (by omega) _ hm
  refine ⟨?_, y0, yb⟩
  apply Nat.lt_of_not_le
  intro hge
  have := Nat.testBit_lt_two_pow (x := s) (i := ((memG s s).getD k 0).toNat) (Nat.lt_of_lt_of_le h (Nat.pow_le_pow_right (n := 2) (by decide) hge))
  rw [this] at yb; cases yb

theorem O_lt {st : Nat} {m n : List Edge} : ∀ (r i : Nat) (rel : List Nat) (h : RI st rel) (hi : i + r ≤ st),
    ((relO m n r i (rel, false)).2 = true → (relO m n r i (rel, false)).1.sum < rel.sum) ∧ ((relO m n r i (rel, false)).2 = false → (relO m n r i (rel, false)).1 = rel)
  | 0, i, rel, h, hi => ⟨fun h => (by cases h), fun _ => rfl⟩
  | r + 1, i, rel, h, hi => by
    unfold relO
    have hg := memG_get (h.all i)
    obtain ⟨a1, a2⟩ := J_lt (m := m) (n := n) (i := i) (js := memG (rel.getD i 0) (rel.getD i 0)) (memG (rel.getD i 0) (rel.getD i 0)).length 0 rel (by rw [h.len]; omega) (fun k _ h2 => by
      have := hg k (by omega)
      exact ⟨by omega, this.2.2⟩)
    show ((relO m n r (i + 1) (relJ m n i (memG (rel.getD i 0) (rel.getD i 0)) (memG (rel.getD i 0) (rel.getD i 0)).length 0 (rel, false))).2 = true → _) ∧ _
    generalize hw : relJ m n i (memG (rel.getD i 0) (rel.getD i 0)) (memG (rel.getD i 0) (rel.getD i 0)).length 0 (rel, false) = w at *
    obtain ⟨w1, b⟩ := w
    cases b with
    | true =>
      have h1 := a1 rfl
      obtain ⟨k1, k2⟩ := O_le (m := m) (n := n) r (i + 1) (w1, true)
      have h2 : (relO m n r (i + 1) (w1, true)).2 = true := k2 rfl
      refine ⟨fun _ => Nat.lt_of_le_of_lt k1 h1, fun h => ?_⟩
      have h : (relO m n r (i + 1) (w1, true)).2 = false := h
      rw [h2] at h; cases h
    | false =>
      have h1 : w1 = rel := a2 rfl
      subst h1
      exact O_lt r (i + 1) w1 h (by omega)

/-! ### each state is simulated by itself -/

def IdR (st : Nat) (rel : List Nat) : Prop := ∀ k, k < st → (rel.getD k 0).testBit k = true

theorem ansG_ok {rel : List Nat} {nj : Nat} {ks : List Int} : ∀ (j i r : Nat) (h : ∀ q, i ≤ q → q < i + j → rel.getD (ks.getD q 0).toNat 0 &&& nj ≠ 0), (ansG rel nj ks j i r).1 = true
  | 0, i, r, h => rfl
  | j + 1, i, r, h => by
    unfold ansG
    rw [if_neg (h i (Nat.le_refl _) (by omega))]
    exact ansG_ok j _ _ fun q h1 h2 => h q (by omega) (by omega)

theorem ansH_ok {m n : List Edge} {rel : List Nat} {i j : Nat} : ∀ (q l : Nat) (h : ∀ c, (ansG rel (mvAt n (j * 6 + c)) (memG (mvAt m (i * 6 + c)) (mvAt m (i * 6 + c))) (memG (mvAt m (i * 6 + c)) (mvAt m (i * 6 + c))).length 0 0).1 = true), (ansH m n rel i j q l).1 = true
  | 0, l, h => rfl
  | q + 1, l, h => by
    unfold ansH
    rw [if_pos (h l)]
    exact ansH_ok q _ h

theorem ans_self {m n : List Edge} {st : Nat} {rel : List Nat} (hid : IdR st rel) (hsub : ∀ e ∈ m, e ∈ n) (hst : ∀ e ∈ m, e.to.toNat < st) (h16 : ∀ k, mvAt m k < 65536) (i : Nat) : ansB m n rel i i = true := by
  unfold ansB
  refine ansH_ok 6 0 fun c => ansG_ok _ _ _ fun q _ hq => ?_
  obtain ⟨b1, b2, b3⟩ := memG_get (h16 (i * 6 + c)) q (by omega)
  generalize (memG (mvAt m (i * 6 + c)) (mvAt m (i * 6 + c))).getD q 0 = x at *
  intro h0
  have h1 : (rel.getD x.toNat 0 &&& mvAt n (i * 6 + c)).testBit x.toNat = true := by
    rw [Nat.testBit_and, mvAt_sub hsub b3]
    obtain ⟨e, he, _, hej⟩ := mvAt_bit.1 b3
    rw [hid x.toNat (by rw [← hej]; exact hst e he)]
    rfl
  rw [h0] at h1
  simp at h1

theorem id_J {m n : List Edge} {st i : Nat} {js : List Int} (hsub : ∀ e ∈ m, e ∈ n) (hst : ∀ e ∈ m, e.to.toNat < st) (hst16 : st ≤ 16) (h16 : ∀ k, mvAt m k < 65536) (hj : ∀ k, k < js.length → (js.getD k 0).toNat < 16) : ∀ (r q : Nat) (s : List Nat × Bool) (hq : q + r ≤ js.length), IdR st s.1 → IdR st (relJ m n i js r q s).1
  | 0, q, s, hq, h => h
  | r + 1, q, s, hq, h => by
    unfold relJ
    split
    · exact id_J hsub hst hst16 h16 hj r _ _ (by omega) h
    · rename_i hn
      refine id_J hsub hst hst16 h16 hj r _ _ (by omega) ?_
      intro k hk
      show ((s.1.set i (clr (s.1.getD i 0) (js.getD q 0).toNat)).getD k 0).testBit k = true
      rw [getD_set]
      split
      · rename_i hc
        obtain ⟨rfl, _⟩ := hc
        have hjj := hj q (by omega)
        rw [clr_bit (by omega) (by omega), h i hk]
        have : ¬ i = (js.getD q 0).toNat := by
          intro e
          apply hn
          rw [← e]
          exact ans_self h hsub hst h16 i
        exact (Bool.true_and _).trans (decide_eq_true this)
      · exact h k hk

theorem id_O {m n : List Edge} {st : Nat} (hsub : ∀ e ∈ m, e ∈ n) (hst : ∀ e ∈ m, e.to.toNat < st) (hst16 : st ≤ 16) (h16 : ∀ k, mvAt m k < 65536) : ∀ (r i : Nat) (s : List Nat × Bool), RI st s.1 → IdR st s.1 → IdR st (relO m n r i s).1
  | 0, i, s, hr, h => h
  | r + 1, i, s, hr, h => by
    unfold relO
    exact id_O hsub hst hst16 h16 r (i + 1) _ (ri_J _ _ _ hr) (id_J hsub hst hst16 h16 (fun k hk => (memG_get (hr.all i) k hk).1) _ _ _ (by omega) h)

theorem id_W {m n : List Edge} {st : Nat} (hsub : ∀ e ∈ m, e ∈ n) (hst : ∀ e ∈ m, e.to.toNat < st) (hst16 : st ≤ 16) (h16 : ∀ k, mvAt m k < 65536) : ∀ (M : Nat) (r : List Nat), RI st r → IdR st r → RI st (relW m n st M r) ∧ IdR st (relW m n st M r)
  | 0, r, hr, h => ⟨hr, h⟩
  | M + 1, r, hr, h => by
    unfold relW
    have h1 := ri_O (m := m) (n := n) st 0 (r, false) hr
    have h2 := id_O hsub hst hst16 h16 st 0 (r, false) hr h
    split
    · exact id_W hsub hst hst16 h16 M _ h1 h2
    · exact ⟨h1, h2⟩

end Ev
end Go.Proofs.YtojaohcpgelhmaaDoor
