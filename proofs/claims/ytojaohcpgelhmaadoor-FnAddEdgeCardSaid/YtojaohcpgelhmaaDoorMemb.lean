/-
  The states to which a word leads in a system.
-/
import Derived.Test.YtojaohcpgelhmaaDoorMoves
import Derived.Test.YtojaohcpgelhmaaDoorSysI
section
set_option linter.unusedSimpArgs false
set_option linter.unusedVariables false
set_option maxRecDepth 8000
set_option pp.maxSteps 6000
set_option maxHeartbeats 4000000
namespace Go.Proofs.YtojaohcpgelhmaaDoor
namespace Ev

theorem sys_bounds {al st : Int} {l : List Edge} (h : sysOK ⟨al, st, l⟩ = true) : ∀ e ∈ l, 0 ≤ e.fr ∧ e.fr < 16 ∧ 0 ≤ e.lt ∧ e.lt < 6 ∧ 0 ≤ e.to ∧ e.to < 16 := by
  intro e he
  have h1 := sysOK_edge h he
  have h' := h
  unfold sysOK at h'
  simp only [Bool.and_eq_true, decide_eq_true_eq] at h'
  unfold edgeOK at h1
  simp only [Bool.and_eq_true, decide_eq_true_eq] at h1
  omega

theorem mv16 {l : List Edge} (hv : ∀ e ∈ l, 0 ≤ e.fr ∧ e.fr < 16 ∧ 0 ≤ e.lt ∧ e.lt < 6 ∧ 0 ≤ e.to ∧ e.to < 16) : ∀ k, mvAt l k < 65536 := fun k => mvAt_lt (n := 16) fun e he => by
  have := hv e he; omega

theorem ev_i_moves_step {L n : Nat} (hn : 2 ≤ n) (l : List Edge) (s : Nat) (c : Int) (hc0 : 0 ≤ c) (hc6 : c < 6) (hm16 : ∀ k, mvAt l k < 65536) (hs : s < 65536) (hL : 2 ^ 60 ≤ L) : evCall env L n 41 [.d (.iptr (mvD l)), .d (.int .i64 (s : Nat)), .d (.int .i64 c)] [] = some (.d (.int .i64 (stepG (fun k => mvAt l (k * 6 + c.toNat)) s s 0 : Nat)), []) := by
  have loop_c := fun {R : Type} {n : Nat} {k : Exit → List A → H → Option R} (hn : 1 ≤ n) => @loop_moves_step R L n hn l c hc0 hc6 hm16 k s s 0 L hs (by omega) (Nat.le_refl _) (by omega)
  simp only [Int.natCast_zero] at loop_c
  obtain ⟨n, rfl⟩ : ∃ m, n = m + 1 := ⟨n - 1, by omega⟩
  rw [fn_i_moves_step]
  simp only [S_i_moves_step, Tryd.f41, SLM, simprocAttr]
  simp -implicitDefEqProofs (maxSteps := 2000000) (disch := first | assumption | (refine Shut.mk ?_; kernel_rfl) | omega | (simp only [GT]; done) | (simp only [LN] <;> omega) | fail) only [↓WD, ↓kAsg, ↓kRet, ↓clash_free, ↓WDD, ↓kOpD_callv, WK, UN, TY, LB, MD, i64_id, simprocAttr, ↓CV, ↓kc_math_bits_TrailingZeros, ↓loop_c]
theorem kc_i_moves_step {R : Type} {L n : Nat} {hq : H} {k : A → H → Option R} (hn : 2 ≤ n) (l : List Edge) (s : Nat) (c : Int) (hc0 : 0 ≤ c) (hc6 : c < 6) (hm16 : ∀ k, mvAt l k < 65536) (hs : s < 65536) (hL : 2 ^ 60 ≤ L) : kCall env (evCall env L n) hq 41 [.d (.iptr (mvD l)), .d (.int .i64 (s : Nat)), .d (.int .i64 c)] k = k (.d (.int .i64 (stepG (fun k => mvAt l (k * 6 + c.toNat)) s s 0 : Nat))) hq :=
  kCall_still rfl (ev_i_moves_step hn l s c hc0 hc6 hm16 hs hL) rfl (.inl rfl)

end Ev
end Go.Proofs.YtojaohcpgelhmaaDoor
end

/-!
  A search through nodes, each visited once: plain laws.
-/
section
set_option linter.unusedSimpArgs false
set_option linter.unusedVariables false
namespace Go.Proofs.YtojaohcpgelhmaaDoor
namespace Ev

/-- A step of a search. -/
structure PStep where
  par : Int
  lt : Int
  ns : List Int

instance : Inhabited PStep := ⟨⟨0, 0, []⟩⟩

/-- Nodes that were not seen are marked, and kept. -/
def visF : List Int → List Bool → List Int → List Bool × List Int
  | [], s, f => (s, f)
  | n :: ns, s, f => if s.getD n.toNat false = true then visF ns s f else visF ns (s.set n.toNat true) (f ++ [n])

/-- How many nodes were not seen. -/
def unseen (s : List Bool) : Nat := s.count false

theorem visF_len : ∀ (ns : List Int) (s : List Bool) (f : List Int), (visF ns s f).1.length = s.length
  | [], s, f => rfl
  | n :: ns, s, f => by
    unfold visF
    split
    · exact visF_len ns s f
    · rw [visF_len ns]; simp

theorem unseen_set : ∀ {s : List Bool} {k : Nat}, s.getD k false = false → k < s.length → unseen (s.set k true) + 1 = unseen s
  | [], k, h, hk => by simp at hk
  | b :: s, 0, h, hk => by
    simp at h
    subst h
    simp [unseen]
  | b :: s, k + 1, h, hk => by
    have ih := unseen_set (s := s) (k := k) (by simpa using h) (by simpa using hk)
    simp only [unseen] at ih ⊢
    simp only [List.set_cons_succ, List.count_cons]
    omega

theorem visF_cnt : ∀ (ns : List Int) (s : List Bool) (f : List Int), (∀ n ∈ ns, 0 ≤ n ∧ n < s.length) → (visF ns s f).2.length + unseen (visF ns s f).1 = f.length + unseen s
  | [], s, f, h => rfl
  | n :: ns, s, f, h => by
    unfold visF
    split
    · exact visF_cnt ns s f fun m hm => h m (List.mem_cons_of_mem _ hm)
    · rename_i h1
      have h2 := h n List.mem_cons_self
      rw [visF_cnt ns _ _ fun m hm => by simpa using h m (List.mem_cons_of_mem _ hm)]
      have := unseen_set (s := s) (k := n.toNat) (by simpa using h1) (by omega)
      simp only [List.length_append, List.length_cons, List.length_nil]
      omega

theorem visF_mem : ∀ (ns : List Int) (s : List Bool) (f : List Int) (x : Int), x ∈ (visF ns s f).2 → x ∈ f ∨ x ∈ ns
  | [], s, f, x, h => .inl h
  | n :: ns, s, f, x, h => by
    unfold visF at h
    split at h
    · rcases visF_mem ns s f x h with h | h
      · exact .inl h
      · exact .inr (List.mem_cons_of_mem _ h)
    · rcases visF_mem ns _ _ x h with h | h
      · rcases List.mem_append.1 h with h | h
        · exact .inl h
        · simp at h; subst h; exact .inr List.mem_cons_self
      · exact .inr (List.mem_cons_of_mem _ h)

theorem unseen_le (s : List Bool) : unseen s ≤ s.length := List.count_le_length

/-- What new nodes make of the steps. -/
def addP (st : List PStep) (p l : Int) (f : List Int) : List PStep := if f = [] then st else st ++ [⟨p, l, f⟩]

/-- What is kept through a search. -/
structure PGood (I : Int → Prop) (size : Nat) (s : List Bool) (st : List PStep) : Prop where
  len : s.length = size
  node : ∀ p ∈ st, ∀ n ∈ p.ns, I n
  room : st.length + unseen s ≤ size
  wide : ∀ p ∈ st, p.ns.length ≤ size

theorem good_visit {I : Int → Prop} {size : Nat} {s : List Bool} {st : List PStep} (h : PGood I size s st) {ns : List Int} (hI : ∀ n ∈ ns, I n) (hr : ∀ n, I n → 0 ≤ n ∧ n < size) (p l : Int) :
    PGood I size (visF ns s []).1 (addP st p l (visF ns s []).2) ∧ (addP st p l (visF ns s []).2).length + unseen (visF ns s []).1 ≤ st.length + unseen s ∧ st.length ≤ (addP st p l (visF ns s []).2).length := by
  have hc := visF_cnt ns s [] fun n hn => by
    have := hr n (hI n hn)
    rw [h.len]; exact this
  have hm := visF_mem ns s []
  have hl := visF_len ns s []
  have hu := unseen_le s
  rw [h.len] at hu
  have hroom := h.room
  simp only [List.length_nil, Nat.zero_add] at hc
  unfold addP
  split
  · rename_i hf
    rw [hf] at hc
    simp only [List.length_nil, Nat.zero_add] at hc
    exact ⟨⟨by rw [hl, h.len], h.node, by omega, h.wide⟩, by omega, by omega⟩
  · rename_i hf
    have hpos : 0 < (visF ns s []).2.length := List.length_pos_iff.2 hf
    refine ⟨⟨by rw [hl, h.len], ?_, by simp only [List.length_append, List.length_cons, List.length_nil]; omega, ?_⟩, by simp only [List.length_append, List.length_cons, List.length_nil]; omega, by simp⟩
    · intro q hq n hn
      rcases List.mem_append.1 hq with hq | hq
      · exact h.node q hq n hn
      · simp at hq
        subst hq
        rcases hm n hn with h1 | h1
        · cases h1
        · exact hI n h1
    · intro q hq
      rcases List.mem_append.1 hq with hq | hq
      · exact h.wide q hq
      · simp at hq
        subst hq
        show (visF ns s []).2.length ≤ size
        omega

/-- All letters of one step. -/
def ltF (nx : Int → Int → List Int) (ns : List Int) (p : Int) : List Int → List Bool × List PStep → List Bool × List PStep
  | [], q => q
  | l :: ls, q => ltF nx ns p ls ((visF (ns.flatMap fun n => nx n l) q.1 []).1, addP q.2 p l (visF (ns.flatMap fun n => nx n l) q.1 []).2)

theorem good_letters {I : Int → Prop} {size : Nat} {nx : Int → Int → List Int} {ns : List Int} {p : Int} (hr : ∀ n, I n → 0 ≤ n ∧ n < size) (hn : ∀ n ∈ ns, I n) : ∀ (ls : List Int) (q : List Bool × List PStep) (hx : ∀ n l, I n → l ∈ ls → ∀ m ∈ nx n l, I m), PGood I size q.1 q.2 →
    PGood I size (ltF nx ns p ls q).1 (ltF nx ns p ls q).2 ∧ (ltF nx ns p ls q).2.length + unseen (ltF nx ns p ls q).1 ≤ q.2.length + unseen q.1 ∧ q.2.length ≤ (ltF nx ns p ls q).2.length
  | [], q, hx, h => ⟨h, Nat.le_refl _, Nat.le_refl _⟩
  | l :: ls, q, hx, h => by
    have hI : ∀ m ∈ ns.flatMap fun n => nx n l, I m := by
      intro m hm
      obtain ⟨n, h1, h2⟩ := List.mem_flatMap.1 hm
      exact hx n l (hn n h1) List.mem_cons_self m h2
    obtain ⟨g1, g2, g3⟩ := good_visit h hI hr p l
    obtain ⟨k1, k2, k3⟩ := good_letters hr hn ls (_, _) (fun n m h1 h2 => hx n m h1 (List.mem_cons_of_mem _ h2)) g1
    refine ⟨k1, ?_, ?_⟩
    · show (ltF nx ns p ls _).2.length + unseen (ltF nx ns p ls _).1 ≤ _
      exact Nat.le_trans k2 g2
    · exact Nat.le_trans g3 k3

end Ev
end Go.Proofs.YtojaohcpgelhmaaDoor
end

/-!
  The members of a set of states, in order; a step of a set: plain laws.
-/
section
set_option linter.unusedSimpArgs false
set_option linter.unusedVariables false
namespace Go.Proofs.YtojaohcpgelhmaaDoor
namespace Ev

/-- The lowest bit is cleared. -/
theorem clear_bit {s : Nat} (h0 : s ≠ 0) (h : s < 2 ^ 64) (i : Nat) : (s &&& (s - 1)).testBit i = (s.testBit i && decide (i ≠ Lib.ctz 64 s)) := by
  have hs : ∃ m, s = 2 ^ Lib.ctz 64 s * (2 * m + 1) ∧ Lib.ctz 64 s < 64 := by
    have := Lib.ctzFrom_spec 64 s (by omega) h
    unfold Lib.ctz
    rw [if_neg h0]
    exact this
  obtain ⟨m, hm, _⟩ := hs
  generalize Lib.ctz 64 s = k at *
  subst hm
  have hp : 0 < 2 ^ k := Nat.two_pow_pos k
  have e1 : 2 ^ k * (2 * m + 1) - 1 = 2 ^ k * (2 * m) + (2 ^ k - 1) := by
    rw [Nat.mul_add, Nat.mul_one]; omega
  have e0 : 2 ^ k * (2 * m + 1) = 2 ^ k * (2 * m + 1) + 0 := rfl
  rw [Nat.testBit_and, e1, Nat.testBit_two_pow_mul_add _ (by omega)]
  rw [e0, Nat.testBit_two_pow_mul_add _ hp]
  by_cases hik : i < k
  · simp [hik]
  · simp only [hik, if_false]
    by_cases he : i = k
    · subst he
      simp
    · obtain ⟨j, rfl⟩ : ∃ j, i = k + (j + 1) := ⟨i - k - 1, by omega⟩
      have e3 : k + (j + 1) - k = j + 1 := by omega
      rw [e3, Nat.testBit_succ, Nat.testBit_succ]
      have d1 : (2 * m + 1) / 2 = m := by omega
      have d2 : (2 * m) / 2 = m := by omega
      rw [d1, d2]
      have : decide (k + (j + 1) ≠ k) = true := by simp
      rw [this]
      simp

theorem ctz_bit {s : Nat} (h0 : s ≠ 0) (h : s < 2 ^ 64) : s.testBit (Lib.ctz 64 s) = true := by
  obtain ⟨h1, _⟩ := Lib.lowest_bit 64 s h0 h
  have h2 : (s &&& (2 ^ 64 - s)).testBit (Lib.ctz 64 s) = true := by rw [h1]; simp
  rw [Nat.testBit_and, Bool.and_eq_true] at h2
  exact h2.1

/-- The numbers of a set, rising. -/
def memG : Nat → Nat → List Int
  | 0, _ => []
  | q + 1, s => if s = 0 then [] else (Lib.ctz 64 s : Nat) :: memG q (s &&& (s - 1))

theorem and_pred_lt {s : Nat} (h0 : s ≠ 0) : s &&& (s - 1) < s := by
  have := Nat.and_le_right (n := s) (m := s - 1)
  omega

theorem memG_mem : ∀ (q s : Nat) (h : s < 2 ^ 64) (x : Int), x ∈ memG q s → 0 ≤ x ∧ s.testBit x.toNat = true
  | 0, s, h, x, hx => by cases hx
  | q + 1, s, h, x, hx => by
    unfold memG at hx
    split at hx
    · cases hx
    · rename_i h0
      rcases List.mem_cons.1 hx with rfl | hx
      · exact ⟨by omega, by rw [Int.toNat_natCast]; exact ctz_bit h0 h⟩
      · have := and_pred_lt h0
        obtain ⟨k1, k2⟩ := memG_mem q _ (by omega) x hx
        rw [clear_bit h0 h, Bool.and_eq_true] at k2
        exact ⟨k1, k2.1⟩

theorem memG_len : ∀ (w q s : Nat), s < 2 ^ w → s < 2 ^ 64 → (memG q s).length ≤ w := by
  intro w q s hw h
  have key : ∀ (q s b : Nat), s < 2 ^ 64 → s < 2 ^ w → (∀ i, s.testBit i = true → b ≤ i) → b ≤ w → (memG q s).length ≤ w - b := by
    intro q
    induction q with
    | zero => intro s b _ _ _ _; simp [memG]
    | succ q ih =>
      intro s b h hw hb hbw
      unfold memG
      split
      · simp
      · rename_i h0
        have hc := ctz_bit h0 h
        have h1 := hb _ hc
        have hcw : Lib.ctz 64 s < w := by
          apply Nat.lt_of_not_le
          intro hle
          have := Nat.testBit_lt_two_pow (x := s) (i := Lib.ctz 64 s) (Nat.lt_of_lt_of_le hw (Nat.pow_le_pow_right (by decide) hle))
          rw [this] at hc; cases hc
        have hlt := and_pred_lt h0
        have := ih (s &&& (s - 1)) (Lib.ctz 64 s + 1) (by omega) (by omega) (fun i hi => by
          rw [clear_bit h0 h, Bool.and_eq_true] at hi
          have hne := of_decide_eq_true hi.2
          have hge : Lib.ctz 64 s ≤ i := by
            have hs := Lib.ctzFrom_spec 64 s (by omega) h
            have e : Lib.ctz 64 s = Lib.ctzFrom 64 s := by unfold Lib.ctz; rw [if_neg h0]
            rw [← e] at hs
            obtain ⟨m, hm, _⟩ := hs
            generalize Lib.ctz 64 s = k at *
            apply Nat.le_of_not_lt
            intro hlt
            have hp : 0 < 2 ^ k := Nat.two_pow_pos k
            have : s.testBit i = false := by
              rw [hm, show 2 ^ k * (2 * m + 1) = 2 ^ k * (2 * m + 1) + 0 from rfl, Nat.testBit_two_pow_mul_add _ hp, if_pos hlt]
              simp
            rw [this] at hi; cases hi.1
          omega) (by omega)
        simp only [List.length_cons]
        omega
  have := key q s 0 h hw (fun i _ => Nat.zero_le _) (Nat.zero_le _)
  omega

/-! ### a step -/

theorem stepG_has {m : Nat → Nat} {k j : Nat} (hm : (m k).testBit j = true) : ∀ (q s o : Nat) (h : s < 2 ^ 64) (hq : s ≤ q), s.testBit k = true → (stepG m q s o).testBit j = true
  | 0, s, o, h, hq, hk => by
    obtain rfl : s = 0 := by omega
    simp at hk
  | q + 1, s, o, h, hq, hk => by
    unfold stepG
    split
    · rename_i h0; subst h0; simp at hk
    · rename_i h0
      have := and_pred_lt h0
      by_cases he : k = Lib.ctz 64 s
      · subst he
        rw [stepG_acc, Nat.testBit_or, Nat.testBit_or, hm]
        simp
      · refine stepG_has hm q _ _ (by omega) (by omega) ?_
        rw [clear_bit h0 h, hk]
        simp [he]

/-! ### all traces of a system are traces of one that has its edges -/

/-- A node: a state, and a set of states in which it is. -/
def TNode (size : Nat) (st : Nat) (n : Int) : Prop := ∃ q set : Nat, n = ((q * size + set : Nat) : Int) ∧ q < st ∧ set < size ∧ set.testBit q = true

/-- Where a letter leads. -/
def tnext (l l2 : List Edge) (size : Nat) (n c : Int) : List Int :=
  (memG (mvAt l ((n.toNat / size) * 6 + c.toNat)) (mvAt l ((n.toNat / size) * 6 + c.toNat))).map fun q => q * (size : Int) + (stepG (fun k => mvAt l2 (k * 6 + c.toNat)) (n.toNat % size) (n.toNat % size) 0 : Nat)

theorem tnode_div {size q set : Nat} (h : set < size) : (q * size + set) / size = q ∧ (q * size + set) % size = set := by
  have hp : 0 < size := by omega
  constructor
  · rw [Nat.mul_comm, Nat.mul_add_div hp, Nat.div_eq_of_lt h, Nat.add_zero]
  · rw [Nat.mul_comm, Nat.mul_add_mod, Nat.mod_eq_of_lt h]

theorem mvAt_sub {l l2 : List Edge} (h : ∀ e ∈ l, e ∈ l2) {k j : Nat} (hb : (mvAt l k).testBit j = true) : (mvAt l2 k).testBit j = true := by
  obtain ⟨e, h1, h2⟩ := mvAt_bit.1 hb
  exact mvAt_bit.2 ⟨e, h e h1, h2⟩

theorem tnext_node {l l2 : List Edge} {st : Nat} {w : Nat} (hw : w ≤ 16) (hsub : ∀ e ∈ l, e ∈ l2) (h1 : ∀ e ∈ l, e.to.toNat < st) (h2 : ∀ e ∈ l2, e.to.toNat < w) {n c : Int} (hn : TNode (2 ^ w) st n) : ∀ x ∈ tnext l l2 (2 ^ w) n c, TNode (2 ^ w) st x := by
  intro x hx
  obtain ⟨q, set, rfl, hq, hs, hb⟩ := hn
  have p16 : (2 : Nat) ^ w ≤ 2 ^ 16 := Nat.pow_le_pow_right (by decide) hw
  unfold tnext at hx
  rw [Int.toNat_natCast] at hx
  obtain ⟨e1, e2⟩ := tnode_div (q := q) hs
  rw [e1, e2] at hx
  obtain ⟨y, hy, rfl⟩ := List.mem_map.1 hx
  have hmv : ∀ k, mvAt l2 k < 2 ^ w := fun k => mvAt_lt fun e he => h2 e he
  have hm1 : ∀ k, mvAt l k < 2 ^ 64 := fun k => by
    have : mvAt l k < 2 ^ w := mvAt_lt fun e he => h2 e (hsub e he)
    omega
  obtain ⟨y0, yb⟩ := memG_mem _ _ (hm1 _) y hy
  obtain ⟨e, he, hek, hej⟩ := mvAt_bit.1 yb
  refine ⟨y.toNat, stepG (fun k => mvAt l2 (k * 6 + c.toNat)) set set 0, ?_, ?_, stepG_lt (fun k => hmv _) _ _ _ (by omega), ?_⟩
  · have : y = (y.toNat : Int) := by omega
    rw [this]
    simp
  · rw [← hej]; exact h1 e he
  · exact stepG_has (m := fun k => mvAt l2 (k * 6 + c.toNat)) (k := q) (mvAt_sub (k := q * 6 + c.toNat) hsub yb) set set 0 (by omega) (Nat.le_refl _) hb

theorem tnode_good {size st : Nat} {n : Int} (h : TNode size st n) : 0 ≤ n ∧ n < (st * size : Nat) ∧ n.tmod size ≠ 0 := by
  obtain ⟨q, set, rfl, hq, hs, hb⟩ := h
  have h1 : q * size + set < st * size := by
    have : (q + 1) * size ≤ st * size := Nat.mul_le_mul_right _ hq
    rw [Nat.add_mul, Nat.one_mul] at this
    omega
  refine ⟨by omega, by omega, ?_⟩
  have e : (((q * size + set : Nat) : Int)).tmod (size : Int) = (((q * size + set) % size : Nat) : Int) := rfl
  rw [e, (tnode_div hs).2]
  intro h0
  have : set = 0 := by omega
  subst this
  simp at hb

end Ev
end Go.Proofs.YtojaohcpgelhmaaDoor
end
