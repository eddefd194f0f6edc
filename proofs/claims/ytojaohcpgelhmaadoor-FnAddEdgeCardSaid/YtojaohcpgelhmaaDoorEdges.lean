/-
  Letters and alphabets: what the small functions give.
-/
import Derived.Test.YtojaohcpgelhmaaDoorLib
section
set_option linter.unusedSimpArgs false
namespace Go.Proofs.YtojaohcpgelhmaaDoor
namespace Ev

def isAlpha (x : Int) : Bool := decide (0 ≤ x ∧ x ≤ 63)

theorem ev_s_l1Alphabet {L n : Nat} (hn : 1 ≤ n) (a : Int) : evCall env L n 66 [.d (.int .i64 a)] [] = some (.d (.bool (isAlpha a)), []) := by
  obtain ⟨n, rfl⟩ : ∃ m, n = m + 1 := ⟨n - 1, by omega⟩
  rw [fn_s_l1Alphabet]
  simp only [S_s_l1Alphabet, Tryd.f66, SLM, simprocAttr]
  simp -implicitDefEqProofs (maxSteps := 2000000) (disch := first | assumption | (refine Shut.mk ?_; kernel_rfl) | omega | (simp only [GT]; done) | (simp only [LN] <;> omega) | fail) only [↓WD, ↓kAsg, ↓kRet, ↓clash_free, ↓WDD, ↓kOpD_callv, WK, UN, TY, LB, MD, i64_id, simprocAttr, ↓CV]
  by_cases h : 0 ≤ a <;> simp [h, isAlpha]
theorem kc_s_l1Alphabet {R : Type} {L n : Nat} {hq : H} {k : A → H → Option R} (hn : 1 ≤ n) (a : Int) : kCall env (evCall env L n) hq 66 [.d (.int .i64 a)] k = k (.d (.bool (isAlpha a))) hq :=
  kCall_still rfl (ev_s_l1Alphabet hn a) rfl (.inl rfl)

theorem ev_i_isAlphabet {L n : Nat} (hn : 1 ≤ n) (a : Int) : evCall env L n 35 [.d (.int .i64 a)] [] = some (.d (.bool (isAlpha a)), []) := by
  obtain ⟨n, rfl⟩ : ∃ m, n = m + 1 := ⟨n - 1, by omega⟩
  rw [fn_i_isAlphabet]
  simp only [S_i_isAlphabet, Tryd.f35, SLM, simprocAttr]
  simp -implicitDefEqProofs (maxSteps := 2000000) (disch := first | assumption | (refine Shut.mk ?_; kernel_rfl) | omega | (simp only [GT]; done) | (simp only [LN] <;> omega) | fail) only [↓WD, ↓kAsg, ↓kRet, ↓clash_free, ↓WDD, ↓kOpD_callv, WK, UN, TY, LB, MD, i64_id, simprocAttr, ↓CV]
  by_cases h : 0 ≤ a <;> simp [h, isAlpha]
theorem kc_i_isAlphabet {R : Type} {L n : Nat} {hq : H} {k : A → H → Option R} (hn : 1 ≤ n) (a : Int) : kCall env (evCall env L n) hq 35 [.d (.int .i64 a)] k = k (.d (.bool (isAlpha a))) hq :=
  kCall_still rfl (ev_i_isAlphabet hn a) rfl (.inl rfl)

/-! ### bits -/

def bitAt (a i : Int) : Bool := decide ((a.fdiv (2 ^ (min i.toNat 64))) % 2 = 1)
theorem toNat_ofInt (x : Int) : ((BitVec.ofInt 64 x).toNat : Int) = x % 18446744073709551616 := by
  rw [BitVec.toNat_ofInt]
  omega

theorem iAnd_one (x : Int) : iAnd .i64 x 1 = x % 2 := by
  unfold iAnd
  have h1 : (BitVec.ofInt IntKind.i64.bits x &&& BitVec.ofInt IntKind.i64.bits 1).toNat = (BitVec.ofInt 64 x).toNat % 2 := by
    change (BitVec.ofInt 64 x &&& BitVec.ofInt 64 1).toNat = _
    rw [BitVec.toNat_and]
    exact Nat.and_one_is_mod _
  rw [h1]
  have h2 := toNat_ofInt x
  rw [i64_id (by omega) (by omega)]
  omega

theorem bits64 : IntKind.i64.bits = 64 := rfl

theorem ev_s_l1Has {L n : Nat} (hn : 1 ≤ n) (a i : Int) (hi : 0 ≤ i) (hi2 : i ≤ 9223372036854775807) : evCall env L n 68 [.d (.int .i64 a), .d (.int .i64 i)] [] = some (.d (.bool (bitAt a i)), []) := by
  obtain ⟨n, rfl⟩ : ∃ m, n = m + 1 := ⟨n - 1, by omega⟩
  rw [fn_s_l1Has]
  simp only [S_s_l1Has, Tryd.f68, SLM, simprocAttr]
  simp -implicitDefEqProofs (maxSteps := 2000000) (disch := first | assumption | (refine Shut.mk ?_; kernel_rfl) | omega | (simp only [GT]; done) | (simp only [LN] <;> omega) | fail) only [↓WD, ↓kAsg, ↓kRet, ↓clash_free, ↓WDD, ↓kOpD_callv, WK, UN, TY, LB, MD, i64_id, simprocAttr, ↓CV, ↓conv_int_uint, u64_id, iAnd_one, bits64]
  rfl
theorem kc_s_l1Has {R : Type} {L n : Nat} {hq : H} {k : A → H → Option R} (hn : 1 ≤ n) (a i : Int) (hi : 0 ≤ i) (hi2 : i ≤ 9223372036854775807) : kCall env (evCall env L n) hq 68 [.d (.int .i64 a), .d (.int .i64 i)] k = k (.d (.bool (bitAt a i))) hq :=
  kCall_still rfl (ev_s_l1Has hn a i hi hi2) rfl (.inl rfl)

theorem ev_i_has {L n : Nat} (hn : 1 ≤ n) (a i : Int) : evCall env L n 45 [.d (.int .i64 a), .d (.int .i64 i)] [] = some (.d (.bool (decide (0 ≤ i) && bitAt a i)), []) := by
  obtain ⟨n, rfl⟩ : ∃ m, n = m + 1 := ⟨n - 1, by omega⟩
  rw [fn_i_has]
  simp only [S_i_has, Tryd.f45, SLM, simprocAttr]
  simp -implicitDefEqProofs (maxSteps := 2000000) (disch := first | assumption | (refine Shut.mk ?_; kernel_rfl) | omega | (simp only [GT]; done) | (simp only [LN] <;> omega) | fail) only [↓WD, ↓kAsg, ↓kRet, ↓clash_free, ↓WDD, ↓kOpD_callv, WK, UN, TY, LB, MD, i64_id, simprocAttr, ↓CV, iAnd_one, bits64]
  by_cases h : 0 ≤ i <;> simp [h, bitAt]
theorem kc_i_has {R : Type} {L n : Nat} {hq : H} {k : A → H → Option R} (hn : 1 ≤ n) (a i : Int) : kCall env (evCall env L n) hq 45 [.d (.int .i64 a), .d (.int .i64 i)] k = k (.d (.bool (decide (0 ≤ i) && bitAt a i))) hq :=
  kCall_still rfl (ev_i_has hn a i) rfl (.inl rfl)

/-! ### SwapAlphabet -/

def letters (a : Int) : List Int := [0, 1, 2, 3, 4, 5].filter (bitAt a)
def restL : Nat → List Int
  | 0 => []
  | j + 1 => (6 - ((j + 1 : Nat) : Int)) :: restL j

/-! ### impl.lettersOf -/

theorem loop_i_lettersOf {R : Type} {L n : Nat} (hn : 1 ≤ n) {a : Int} {k : Exit → List A → H → Option R} : ∀ (j : Nat) (i : Int) (l : List Int) (len m : Nat), i + j = 6 → 0 ≤ i → j < m → len = l.length → l.length + j < 100 →
    kLoop env (evCall env L n) L 0 [0, 0, 0, 2] (true :: false :: true :: true :: false :: true :: false :: false :: false :: false :: false :: false :: false :: false :: false :: false :: false :: []) (lp_i_lettersOf 0) (false :: true :: false :: false :: true :: false :: true :: true :: true :: true :: true :: true :: true :: true :: true :: true :: true :: []) m (.d (.int .i64 a) :: .junk :: .d .nils :: .sl 0 0 0 len :: .junk :: .d (.int .i64 i) :: .junk :: .junk :: .junk :: .junk :: .junk :: .junk :: .junk :: .junk :: .junk :: .junk :: .junk :: []) [.arr (ints l) 1 0] k
    = k (.exit 0) (.d (.int .i64 a) :: .junk :: .d .nils :: .sl 0 0 0 (len + ((restL j).filter (bitAt a)).length) :: .junk :: .d (.int .i64 6) :: .junk :: .junk :: .junk :: .junk :: .junk :: .junk :: .junk :: .junk :: .junk :: .junk :: .junk :: []) [.arr (ints (l ++ (restL j).filter (bitAt a))) 1 0] := by
  intro j
  induction j with
  | zero =>
    intro i l len m hi h0 hm hl hlen
    obtain ⟨m, rfl⟩ : ∃ q, m = q + 1 := ⟨m - 1, by omega⟩
    obtain rfl : i = 6 := by omega
    rw [step_i_lettersOf_0]
    simp only [S_i_lettersOf_0, Tryd.f36, SLM, simprocAttr]
    simp -implicitDefEqProofs (maxSteps := 2000000) (disch := first | assumption | (refine Shut.mk ?_; kernel_rfl) | omega | (simp only [GT]; done) | (simp only [LN] <;> omega) | fail) only [↓WD, ↓kAsg, ↓kRet, ↓clash_free, ↓WDD, ↓kOpD_callv, WK, UN, TY, LB, MD, i64_id, simprocAttr, ↓CV, ↓kc_i_has]
    simp only [restL, List.filter_nil, List.append_nil, List.length_nil, Nat.add_zero]
  | succ j ih =>
    intro i l len m hi h0 hm hl hlen
    obtain ⟨m, rfl⟩ : ∃ q, m = q + 1 := ⟨m - 1, by omega⟩
    have hc : i < 6 := by omega
    have hr : restL (j + 1) = i :: restL j := by simp only [restL]; congr 1; omega
    rw [hr, List.filter_cons]
    cases hb : bitAt a i with
    | true =>
      rw [step_i_lettersOf_0]
      simp only [S_i_lettersOf_0, Tryd.f36, SLM, simprocAttr]
      simp -implicitDefEqProofs (maxSteps := 2000000) (disch := first | assumption | (refine Shut.mk ?_; kernel_rfl) | omega | (simp only [GT]; done) | (simp only [LN] <;> omega) | fail) only [↓WD, ↓kAsg, ↓kRet, ↓clash_free, ↓WDD, ↓kOpD_callv, WK, UN, TY, LB, MD, i64_id, simprocAttr, ↓CV, ↓kc_i_has, ↓ih, hc, hb, h0, ints_take, ints_snoc]
      simp only [List.append_assoc, List.cons_append, List.nil_append, Nat.add_assoc, Nat.add_comm 1]
    | false =>
      rw [step_i_lettersOf_0]
      simp only [S_i_lettersOf_0, Tryd.f36, SLM, simprocAttr]
      simp -implicitDefEqProofs (maxSteps := 2000000) (disch := first | assumption | (refine Shut.mk ?_; kernel_rfl) | omega | (simp only [GT]; done) | (simp only [LN] <;> omega) | fail) only [↓WD, ↓kAsg, ↓kRet, ↓clash_free, ↓WDD, ↓kOpD_callv, WK, UN, TY, LB, MD, i64_id, simprocAttr, ↓CV, ↓kc_i_has, ↓ih, hc, hb, h0]

theorem loop_i_lettersOf_top {R : Type} {L n m : Nat} (hn : 1 ≤ n) {a : Int} {k : Exit → List A → H → Option R} (hm : 6 < m) :
    kLoop env (evCall env L n) L 0 [0, 0, 0, 2] (true :: false :: true :: true :: false :: true :: false :: false :: false :: false :: false :: false :: false :: false :: false :: false :: false :: []) (lp_i_lettersOf 0) (false :: true :: false :: false :: true :: false :: true :: true :: true :: true :: true :: true :: true :: true :: true :: true :: true :: []) m (.d (.int .i64 a) :: .junk :: .d .nils :: .sl 0 0 0 0 :: .junk :: .d (.int .i64 0) :: .junk :: .junk :: .junk :: .junk :: .junk :: .junk :: .junk :: .junk :: .junk :: .junk :: .junk :: []) [.arr [] 1 0] k
    = k (.exit 0) (.d (.int .i64 a) :: .junk :: .d .nils :: .sl 0 0 0 (letters a).length :: .junk :: .d (.int .i64 6) :: .junk :: .junk :: .junk :: .junk :: .junk :: .junk :: .junk :: .junk :: .junk :: .junk :: .junk :: []) [.arr (ints (letters a)) 1 0] := by
  have h := loop_i_lettersOf (R := R) (L := L) hn (a := a) (k := k) 6 0 [] 0 m rfl (by omega) hm rfl (by simp)
  simp only [Nat.zero_add, List.nil_append] at h
  exact h

theorem letters_len (a : Int) : (letters a).length ≤ 6 := by
  unfold letters
  exact List.length_filter_le _ _

theorem ev_i_lettersOf {L n : Nat} (hn : 2 ≤ n) (a : Int) (hL : 2 ^ 60 ≤ L) : evCall env L n 36 [.d (.int .i64 a)] [] = some (.d (.ivs (letters a).length (ints (letters a))), []) := by
  obtain ⟨n, rfl⟩ : ∃ m, n = m + 1 := ⟨n - 1, by omega⟩
  rw [fn_i_lettersOf]
  simp only [S_i_lettersOf, Tryd.f36, SLM, simprocAttr]
  simp -implicitDefEqProofs (maxSteps := 2000000) (disch := first | assumption | (refine Shut.mk ?_; kernel_rfl) | omega | (simp only [GT]; done) | (simp only [LN] <;> omega) | fail) only [↓WD, ↓kAsg, ↓kRet, ↓clash_free, ↓WDD, ↓kOpD_callv, WK, UN, TY, LB, MD, i64_id, simprocAttr, ↓CV, ↓kc_i_has, ↓loop_i_lettersOf, ↓loop_i_lettersOf_top, ints_length, ints_take]
theorem kc_i_lettersOf {R : Type} {L n : Nat} {hq : H} {k : A → H → Option R} (hn : 2 ≤ n) (a : Int) (hL : 2 ^ 60 ≤ L) : kCall env (evCall env L n) hq 36 [.d (.int .i64 a)] k = k (.d (.ivs (letters a).length (ints (letters a)))) hq :=
  kCall_still rfl (ev_i_lettersOf hn a hL) rfl (.inr rfl)

theorem letters_in {a : Int} : ∀ v ∈ letters a, 0 ≤ v ∧ v ≤ 5 := by
  intro v hv
  have := (List.mem_filter.1 hv).1
  simp at this
  omega

end Ev
end Go.Proofs.YtojaohcpgelhmaaDoor
end

/-!
  Edges, systems: how they lie; comparing edges; validity.
-/
section
set_option linter.unusedSimpArgs false
set_option linter.unusedVariables false
set_option maxRecDepth 8000
set_option pp.maxSteps 6000
set_option maxHeartbeats 4000000
namespace Go.Proofs.YtojaohcpgelhmaaDoor
namespace Ev

structure Edge where
  fr : Int
  lt : Int
  to : Int
  deriving DecidableEq, Inhabited

def edgeC (e : Edge) : List D := [.int .i64 e.fr, .int .i64 e.lt, .int .i64 e.to]
def edgesD (l : List Edge) : List D := (l.map edgeC).flatten
theorem edgesD_nil : edgesD [] = [] := rfl
theorem edgesD_cons (e : Edge) (l : List Edge) : edgesD (e :: l) = .int .i64 e.fr :: .int .i64 e.lt :: .int .i64 e.to :: edgesD l := rfl
theorem edgesD_length {l : List Edge} : (edgesD l).length = l.length * 3 := by
  induction l with
  | nil => rfl
  | cons e l ih => rw [edgesD_cons]; simp only [List.length_cons, ih]; omega
theorem edgesD_app {a b : List Edge} : edgesD a ++ edgesD b = edgesD (a ++ b) := by simp [edgesD]
theorem edgesD_dropk : ∀ {l : List Edge} {k : Nat}, (edgesD l).drop (k * 3) = edgesD (l.drop k)
  | l, 0 => by simp
  | [], k + 1 => by simp [edgesD_nil]
  | e :: l, k + 1 => by
    have e : (k + 1) * 3 = k * 3 + 1 + 1 + 1 := by omega
    rw [edgesD_cons, e]
    simp only [List.drop_succ_cons]
    exact edgesD_dropk
theorem edgesD_takek : ∀ {l : List Edge} {k : Nat}, (edgesD l).take (k * 3) = edgesD (l.take k)
  | l, 0 => by simp [edgesD_nil]
  | [], k + 1 => by simp [edgesD_nil]
  | e :: l, k + 1 => by
    have e2 : (k + 1) * 3 = k * 3 + 1 + 1 + 1 := by omega
    rw [edgesD_cons, e2]
    simp only [List.take_succ_cons, edgesD_takek (l := l) (k := k), edgesD_cons]
theorem edges_take {l : List Edge} {k : Nat} (h : l.length ≤ k) : (edgesD l).take (k * 3) = edgesD l := by rw [edgesD_takek, List.take_of_length_le h]
theorem edges_drop {l : List Edge} {k : Nat} (h : k < l.length) : (edgesD l).drop (k * 3) = .int .i64 (l.getD k default).fr :: .int .i64 (l.getD k default).lt :: .int .i64 (l.getD k default).to :: edgesD (l.drop (k + 1)) := by
  rw [edgesD_dropk, List.drop_eq_getElem_cons h, edgesD_cons, List.getD_eq_getElem?_getD, List.getElem?_eq_getElem h]
  rfl
theorem edges_snoc {l : List Edge} {a b c : Int} : edgesD l ++ [.int .i64 a, .int .i64 b, .int .i64 c] = edgesD (l ++ [⟨a, b, c⟩]) := by simp [edgesD, edgeC]
theorem evBin_eqE {h : H} {a b c d e f : Int} : evBin env .eql 38 h (.agg [.d (.int .i64 a), .d (.int .i64 b), .d (.int .i64 c)]) (.agg [.d (.int .i64 d), .d (.int .i64 e), .d (.int .i64 f)]) = some (.d (.bool (decide ((⟨a, b, c⟩ : Edge) = ⟨d, e, f⟩))), h) := by
  have hc : env.eqs.contains (38, 3) = true := by kernel_rfl
  have h1 : aBin .eql (.agg [.d (.int .i64 a), .d (.int .i64 b), .d (.int .i64 c)]) (.agg [.d (.int .i64 d), .d (.int .i64 e), .d (.int .i64 f)]) = none := rfl
  have h2 : aNil env.P .eql 38 (.agg [.d (.int .i64 a), .d (.int .i64 b), .d (.int .i64 c)]) (.agg [.d (.int .i64 d), .d (.int .i64 e), .d (.int .i64 f)]) = none := by
    unfold aNil
    cases env.P.underlying 38 with
    | none => rfl
    | some t => cases t <;> rfl
  simp only [evBin, h1, h2, aEqAgg, intsA, Option.map_some, List.length_cons, List.length_nil, Nat.zero_add, Nat.reduceAdd, hc, and_self, if_true, eqlA]
  have : ([a, b, c] == [d, e, f]) = decide ((⟨a, b, c⟩ : Edge) = ⟨d, e, f⟩) := by rw [Bool.eq_iff_iff]; simp
  rw [this]

/-- Edges, in every walk. -/
theorem LE : type_of% (And.intro @edgesD_length (And.intro @edges_drop (And.intro @edges_take (And.intro @edges_snoc (And.intro @evBin_eqE @edgesD_app))))) := And.intro @edgesD_length (And.intro @edges_drop (And.intro @edges_take (And.intro @edges_snoc (And.intro @evBin_eqE @edgesD_app))))

/-! ### comparing -/

def cmpI (a b : Int) : Int := if a < b then -1 else if b < a then 1 else 0

theorem ev_cmp_isNaN_int {L n : Nat} (hn : 1 ≤ n) (a : Int) : evCall env L n 92 [.d (.int .i64 a)] [] = some (.d (.bool false), []) := by
  obtain ⟨n, rfl⟩ : ∃ m, n = m + 1 := ⟨n - 1, by omega⟩
  rw [fn_cmp_isNaN_int]
  simp only [S_cmp_isNaN_int, Tryd.f92, SLM, simprocAttr]
  simp -implicitDefEqProofs (maxSteps := 2000000) (disch := first | assumption | (refine Shut.mk ?_; kernel_rfl) | omega | (simp only [GT]; done) | (simp only [LN] <;> omega) | fail) only [↓WD, ↓kAsg, ↓kRet, ↓clash_free, ↓WDD, ↓kOpD_callv, WK, UN, TY, LB, MD, i64_id, simprocAttr, ↓CV]
theorem kc_cmp_isNaN_int {R : Type} {L n : Nat} {hq : H} {k : A → H → Option R} (hn : 1 ≤ n) (a : Int) : kCall env (evCall env L n) hq 92 [.d (.int .i64 a)] k = k (.d (.bool false)) hq :=
  kCall_still rfl (ev_cmp_isNaN_int hn a) rfl (.inl rfl)

theorem ev_cmp_Compare_int {L n : Nat} (hn : 2 ≤ n) (a b : Int) : evCall env L n 65 [.d (.int .i64 a), .d (.int .i64 b)] [] = some (.d (.int .i64 (cmpI a b)), []) := by
  unfold cmpI
  by_cases h1 : a < b
  · obtain ⟨n, rfl⟩ : ∃ m, n = m + 1 := ⟨n - 1, by omega⟩
    rw [fn_cmp_Compare_int]
    simp only [S_cmp_Compare_int, Tryd.f65, SLM, simprocAttr]
    simp -implicitDefEqProofs (maxSteps := 2000000) (disch := first | assumption | (refine Shut.mk ?_; kernel_rfl) | omega | (simp only [GT]; done) | (simp only [LN] <;> omega) | fail) only [↓WD, ↓kAsg, ↓kRet, ↓clash_free, ↓WDD, ↓kOpD_callv, WK, UN, TY, LB, MD, i64_id, simprocAttr, ↓CV, ↓kc_cmp_isNaN_int, h1]
  · by_cases h2 : b < a
    · obtain ⟨n, rfl⟩ : ∃ m, n = m + 1 := ⟨n - 1, by omega⟩
      rw [fn_cmp_Compare_int]
      simp only [S_cmp_Compare_int, Tryd.f65, SLM, simprocAttr]
      simp -implicitDefEqProofs (maxSteps := 2000000) (disch := first | assumption | (refine Shut.mk ?_; kernel_rfl) | omega | (simp only [GT]; done) | (simp only [LN] <;> omega) | fail) only [↓WD, ↓kAsg, ↓kRet, ↓clash_free, ↓WDD, ↓kOpD_callv, WK, UN, TY, LB, MD, i64_id, simprocAttr, ↓CV, ↓kc_cmp_isNaN_int, h1, h2]
    · obtain ⟨n, rfl⟩ : ∃ m, n = m + 1 := ⟨n - 1, by omega⟩
      rw [fn_cmp_Compare_int]
      simp only [S_cmp_Compare_int, Tryd.f65, SLM, simprocAttr]
      simp -implicitDefEqProofs (maxSteps := 2000000) (disch := first | assumption | (refine Shut.mk ?_; kernel_rfl) | omega | (simp only [GT]; done) | (simp only [LN] <;> omega) | fail) only [↓WD, ↓kAsg, ↓kRet, ↓clash_free, ↓WDD, ↓kOpD_callv, WK, UN, TY, LB, MD, i64_id, simprocAttr, ↓CV, ↓kc_cmp_isNaN_int, h1, h2]
theorem kc_cmp_Compare_int {R : Type} {L n : Nat} {hq : H} {k : A → H → Option R} (hn : 2 ≤ n) (a b : Int) : kCall env (evCall env L n) hq 65 [.d (.int .i64 a), .d (.int .i64 b)] k = k (.d (.int .i64 (cmpI a b))) hq :=
  kCall_still rfl (ev_cmp_Compare_int hn a b) rfl (.inl rfl)

def firstNZ : List Int → Int
  | [] => 0
  | a :: l => if a = 0 then firstNZ l else a

def cmpE (a b : Edge) : Int := firstNZ [cmpI a.fr b.fr, cmpI a.lt b.lt, cmpI a.to b.to]

def lz : List Int → Nat
  | [] => 0
  | a :: l => if a = 0 then lz l + 1 else 0

theorem drop_go {α : Type} {l : List α} {i : Nat} {d : α} (h : i < l.length) : l.drop i = l.getD i d :: l.drop (i + 1) := by
  rw [List.drop_eq_getElem_cons h, List.getD_eq_getElem?_getD, List.getElem?_eq_getElem h]
  rfl

theorem loop_cmp_Or_int {R : Type} {L n : Nat} (hn : 1 ≤ n) {l : List Int} (hl : l.length ≤ 1000) {k : Exit → List A → H → Option R} : ∀ (i : Int) (m : Nat) (h0 : 0 ≤ i) (hi : i ≤ l.length) (hm : (l.length : Int) - i < m),
    kLoop env (evCall env L n) L 0 [] (false :: false :: true :: true :: false :: false :: true :: true :: true :: false :: false :: false :: false :: false :: false :: false :: false :: false :: []) (lp_cmp_Or_int 0) (true :: true :: false :: false :: true :: true :: false :: false :: false :: true :: true :: true :: true :: true :: true :: true :: true :: true :: []) m (.junk :: .junk :: .d (.int .i64 0) :: .d (.int .i64 0) :: .junk :: .junk :: .d (.ivs l.length (ints l)) :: .d (.int .i64 (l.length)) :: .d (.int .i64 i) :: .junk :: .junk :: .junk :: .junk :: .junk :: .junk :: .junk :: .junk :: .junk :: []) [] k
    = if firstNZ (l.drop i.toNat) = 0 then k (.exit 0) (.junk :: .junk :: .d (.int .i64 0) :: .d (.int .i64 0) :: .junk :: .junk :: .d (.ivs l.length (ints l)) :: .d (.int .i64 (l.length)) :: .d (.int .i64 (l.length)) :: .junk :: .junk :: .junk :: .junk :: .junk :: .junk :: .junk :: .junk :: .junk :: []) [] else k .ret (.junk :: .junk :: .d (.int .i64 (firstNZ (l.drop i.toNat))) :: .d (.int .i64 0) :: .junk :: .junk :: .d (.ivs l.length (ints l)) :: .d (.int .i64 (l.length)) :: .d (.int .i64 ((i + lz (l.drop i.toNat)))) :: .junk :: .junk :: .junk :: .junk :: .junk :: .junk :: .junk :: .junk :: .junk :: []) [] := by
  intro i m h0 hi hm
  obtain ⟨j, hj⟩ : ∃ j : Nat, (j : Int) = (l.length : Int) - i := ⟨((l.length : Int) - i).toNat, by omega⟩
  induction j generalizing i m with
  | zero =>
    obtain ⟨m, rfl⟩ : ∃ q, m = q + 1 := ⟨m - 1, by omega⟩
    obtain rfl : i = l.length := by omega
    rw [step_cmp_Or_int_0]
    simp only [S_cmp_Or_int_0, Tryd.f64, SLM, simprocAttr]
    simp -implicitDefEqProofs (maxSteps := 2000000) (disch := first | assumption | (refine Shut.mk ?_; kernel_rfl) | omega | (simp only [GT]; done) | (simp only [LN] <;> omega) | fail) only [↓WD, ↓kAsg, ↓kRet, ↓clash_free, ↓WDD, ↓kOpD_callv, WK, UN, TY, LB, MD, i64_id, simprocAttr, ↓CV, u_ints, Int.lt_irrefl]
    simp only [Int.toNat_natCast, List.drop_length, firstNZ, if_true]
  | succ j ih =>
    obtain ⟨m, rfl⟩ : ∃ q, m = q + 1 := ⟨m - 1, by omega⟩
    have hc : i < l.length := by omega
    have hk : i.toNat < l.length := by omega
    have e1 : (i + 1).toNat = i.toNat + 1 := by omega
    rw [drop_go hk (d := 0)]
    by_cases hz : l.getD i.toNat 0 = 0
    · rw [step_cmp_Or_int_0]
      simp only [S_cmp_Or_int_0, Tryd.f64, SLM, simprocAttr]
      simp -implicitDefEqProofs (maxSteps := 2000000) (disch := first | assumption | (refine Shut.mk ?_; kernel_rfl) | omega | (simp only [GT]; done) | (simp only [LN] <;> omega) | fail) only [↓WD, ↓kAsg, ↓kRet, ↓clash_free, ↓WDD, ↓kOpD_callv, WK, UN, TY, LB, MD, i64_id, simprocAttr, ↓CV, u_ints, hc, hz, ↓ih]
      simp only [firstNZ, lz, if_true, e1, Int.natCast_add, Int.add_assoc, Int.add_comm 1]
      rfl
    · rw [step_cmp_Or_int_0]
      simp only [S_cmp_Or_int_0, Tryd.f64, SLM, simprocAttr]
      simp -implicitDefEqProofs (maxSteps := 2000000) (disch := first | assumption | (refine Shut.mk ?_; kernel_rfl) | omega | (simp only [GT]; done) | (simp only [LN] <;> omega) | fail) only [↓WD, ↓kAsg, ↓kRet, ↓clash_free, ↓WDD, ↓kOpD_callv, WK, UN, TY, LB, MD, i64_id, simprocAttr, ↓CV, u_ints, hc, hz]
      simp only [firstNZ, lz, hz, if_false, Int.natCast_zero, Int.add_zero]

theorem ev_cmp_Or_int {L n : Nat} (hn : 2 ≤ n) (l : List Int) (hl : l.length ≤ 1000) (hL : 2 ^ 60 ≤ L) : evCall env L n 64 [.d (.ivs l.length (ints l))] [] = some (.d (.int .i64 (firstNZ l)), []) := by
  by_cases hz : firstNZ l = 0
  · obtain ⟨n, rfl⟩ : ∃ m, n = m + 1 := ⟨n - 1, by omega⟩
    rw [fn_cmp_Or_int]
    simp only [S_cmp_Or_int, Tryd.f64, SLM, simprocAttr]
    simp -implicitDefEqProofs (maxSteps := 2000000) (disch := first | assumption | (refine Shut.mk ?_; kernel_rfl) | omega | (simp only [GT]; done) | (simp only [LN] <;> omega) | fail) only [↓WD, ↓kAsg, ↓kRet, ↓clash_free, ↓WDD, ↓kOpD_callv, WK, UN, TY, LB, MD, i64_id, simprocAttr, ↓CV, ↓loop_cmp_Or_int, u_ints, Int.toNat_zero, hz]
  · obtain ⟨n, rfl⟩ : ∃ m, n = m + 1 := ⟨n - 1, by omega⟩
    rw [fn_cmp_Or_int]
    simp only [S_cmp_Or_int, Tryd.f64, SLM, simprocAttr]
    simp -implicitDefEqProofs (maxSteps := 2000000) (disch := first | assumption | (refine Shut.mk ?_; kernel_rfl) | omega | (simp only [GT]; done) | (simp only [LN] <;> omega) | fail) only [↓WD, ↓kAsg, ↓kRet, ↓clash_free, ↓WDD, ↓kOpD_callv, WK, UN, TY, LB, MD, i64_id, simprocAttr, ↓CV, ↓loop_cmp_Or_int, u_ints, Int.toNat_zero, hz]
theorem kc_cmp_Or_int {R : Type} {L n : Nat} {hq : H} {k : A → H → Option R} (hn : 2 ≤ n) (l : List Int) (hl : l.length ≤ 1000) (hL : 2 ^ 60 ≤ L) : kCall env (evCall env L n) hq 64 [.d (.ivs l.length (ints l))] k = k (.d (.int .i64 (firstNZ l))) hq :=
  kCall_still rfl (ev_cmp_Or_int hn l hl hL) rfl (.inl rfl)
theorem kl_cmp_Or_int {R : Type} {L n : Nat} {k : A → Option R} (hn : 2 ≤ n) (l : List Int) (hl : l.length ≤ 1000) (hL : 2 ^ 60 ≤ L) : kLent (evCall env L n) 64 [.d (.ivs l.length (ints l))] k = k (.d (.int .i64 (firstNZ l))) :=
  kLent_ev (ev_cmp_Or_int hn l hl hL) rfl
theorem kv_cmp_Or_int_1 {R : Type} {L n : Nat} {hq : H} {k : A → H → Option R} {id0 g0 o0 len0 : Nat}  : kCall env (evCall env L n) hq 64 [.sl id0 g0 o0 len0] k = match box (lentA hq [.sl id0 g0 o0 len0]) with
    | .mk (some fs) => kLent (evCall env L n) 64 fs fun r => k r hq
    | _ => none := kCall_lent mode_cmp_Or_int

theorem cmpE3 {a b c : Int} : [D.int .i64 a, .int .i64 b, .int .i64 c] = ints [a, b, c] := rfl

theorem ev_i_compareEdges {L n : Nat} (hn : 4 ≤ n) (a b c d e f : Int) (hL : 2 ^ 60 ≤ L) : evCall env L n 29 [.agg [.d (.int .i64 a), .d (.int .i64 b), .d (.int .i64 c)], .agg [.d (.int .i64 d), .d (.int .i64 e), .d (.int .i64 f)]] [] = some (.d (.int .i64 (cmpE ⟨a, b, c⟩ ⟨d, e, f⟩)), []) := by
  have k3 : ∀ {R : Type} {n : Nat} {k : A → Option R}, 2 ≤ n → kLent (evCall env L n) 64 [.d (.ivs 3 (ints [cmpI a d, cmpI b e, cmpI c f]))] k = k (.d (.int .i64 (firstNZ [cmpI a d, cmpI b e, cmpI c f]))) := fun h => kl_cmp_Or_int h [cmpI a d, cmpI b e, cmpI c f] (by simp) hL
  obtain ⟨n, rfl⟩ : ∃ m, n = m + 1 := ⟨n - 1, by omega⟩
  rw [fn_i_compareEdges]
  simp only [S_i_compareEdges, Tryd.f29, SLM, simprocAttr]
  simp -implicitDefEqProofs (maxSteps := 2000000) (disch := first | assumption | (refine Shut.mk ?_; kernel_rfl) | omega | (simp only [GT]; done) | (simp only [LN] <;> omega) | fail) only [↓WD, ↓kAsg, ↓kRet, ↓clash_free, ↓WDD, ↓kOpD_callv, WK, UN, TY, LB, MD, i64_id, simprocAttr, ↓CV, ↓kc_cmp_Compare_int, ↓kc_cmp_Or_int, ↓kl_cmp_Or_int, ↓kv_cmp_Or_int_1, cmpE3, ↓k3]
  rfl
theorem kc_i_compareEdges {R : Type} {L n : Nat} {hq : H} {k : A → H → Option R} (hn : 4 ≤ n) (a b c d e f : Int) (hL : 2 ^ 60 ≤ L) : kCall env (evCall env L n) hq 29 [.agg [.d (.int .i64 a), .d (.int .i64 b), .d (.int .i64 c)], .agg [.d (.int .i64 d), .d (.int .i64 e), .d (.int .i64 f)]] k = k (.d (.int .i64 (cmpE ⟨a, b, c⟩ ⟨d, e, f⟩))) hq :=
  kCall_still rfl (ev_i_compareEdges hn a b c d e f hL) rfl (.inl rfl)

/-! ### searching -/

/-- The first number of a run at which something holds. -/
def seek (p : Nat → Bool) : Nat → Nat → Option Nat
  | 0, _ => none
  | j + 1, i => if p i = true then some i else seek p j (i + 1)

theorem seek_none {p : Nat → Bool} : ∀ {j i : Nat}, seek p j i = none ↔ ∀ k, i ≤ k → k < i + j → p k = false
  | 0, i => by simp only [seek, true_iff]; intro k h1 h2; omega
  | j + 1, i => by
    simp only [seek]
    by_cases hp : p i = true
    · rw [if_pos hp]
      simp only [false_iff, reduceCtorEq]
      intro h
      have := h i (Nat.le_refl _) (by omega)
      rw [hp] at this; cases this
    · rw [if_neg hp, seek_none]
      constructor
      · intro h k h1 h2
        by_cases e : k = i
        · subst e; simpa using hp
        · exact h k (by omega) (by omega)
      · intro h k h1 h2; exact h k (by omega) (by omega)

theorem seek_some {p : Nat → Bool} : ∀ {j i r : Nat}, seek p j i = some r → i ≤ r ∧ r < i + j ∧ p r = true ∧ ∀ k, i ≤ k → k < r → p k = false
  | 0, i, r, h => by simp [seek] at h
  | j + 1, i, r, h => by
    simp only [seek] at h
    by_cases hp : p i = true
    · rw [if_pos hp] at h
      cases h
      exact ⟨Nat.le_refl _, by omega, hp, fun k h1 h2 => by omega⟩
    · rw [if_neg hp] at h
      obtain ⟨h1, h2, h3, h4⟩ := seek_some h
      refine ⟨by omega, by omega, h3, fun k k1 k2 => ?_⟩
      by_cases e : k = i
      · subst e; simpa using hp
      · exact h4 k (by omega) k2

theorem seek_pos {p : Nat → Bool} {j i : Nat} (h : p i = true) : seek p (j + 1) i = some i := by simp [seek, h]
theorem seek_neg {p : Nat → Bool} {j i : Nat} (h : p i = false) : seek p (j + 1) i = seek p j (i + 1) := by simp [seek, h]

/-! ### valid systems -/

structure Sys where
  al : Int
  st : Int
  es : List Edge
  deriving DecidableEq, Inhabited

def edgeOK (al st : Int) (e : Edge) : Bool := decide (0 ≤ e.fr) && decide (e.fr < st) && decide (0 ≤ e.to) && decide (e.to < st) && decide (0 ≤ e.lt) && decide (e.lt < 6) && bitAt al e.lt
def beforeE (e f : Edge) : Bool := if e.fr = f.fr then (if e.lt = f.lt then decide (e.to < f.to) else decide (e.lt < f.lt)) else decide (e.fr < f.fr)
/-- What is wrong at an index. -/
def badAt (al st : Int) (l : List Edge) (i : Nat) : Bool := !edgeOK al st (l.getD i default) || (decide (0 < i) && !beforeE (l.getD (i - 1) default) (l.getD i default))
def sysOK (s : Sys) : Bool := isAlpha s.al && decide (1 ≤ s.st) && decide (s.st ≤ 16) && (seek (badAt s.al s.st s.es) s.es.length 0).isNone

theorem ev_s_l2Edge {L n : Nat} (hn : 2 ≤ n) (al st a b c : Int) : evCall env L n 50 [.d (.int .i64 al), .d (.int .i64 st), .agg [.d (.int .i64 a), .d (.int .i64 b), .d (.int .i64 c)]] [] = some (.d (.bool (edgeOK al st ⟨a, b, c⟩)), []) := by
  by_cases hq1 : (a < 0)
  · obtain ⟨n, rfl⟩ : ∃ m, n = m + 1 := ⟨n - 1, by omega⟩
    rw [fn_s_l2Edge]
    simp only [S_s_l2Edge, Tryd.f50, SLM, simprocAttr]
    simp -implicitDefEqProofs (maxSteps := 2000000) (disch := first | assumption | (refine Shut.mk ?_; kernel_rfl) | omega | (simp only [GT]; done) | (simp only [LN] <;> omega) | fail) only [↓WD, ↓kAsg, ↓kRet, ↓clash_free, ↓WDD, ↓kOpD_callv, WK, UN, TY, LB, MD, i64_id, simprocAttr, ↓CV, ↓kc_s_l1Has, hq1]
    all_goals (first | (simp [edgeOK]; done) | (simp [edgeOK]; omega) | (simp [edgeOK]; intros; omega) | (simp only [edgeOK]; rw [decide_eq_true (show 0 ≤ a by omega), decide_eq_true (show a < st by omega), decide_eq_true (show 0 ≤ c by omega), decide_eq_true (show c < st by omega), decide_eq_true (show 0 ≤ b by omega), decide_eq_true (show b < 6 by omega)]; simp))
  · by_cases hq2 : (st ≤ a)
    · obtain ⟨n, rfl⟩ : ∃ m, n = m + 1 := ⟨n - 1, by omega⟩
      rw [fn_s_l2Edge]
      simp only [S_s_l2Edge, Tryd.f50, SLM, simprocAttr]
      simp -implicitDefEqProofs (maxSteps := 2000000) (disch := first | assumption | (refine Shut.mk ?_; kernel_rfl) | omega | (simp only [GT]; done) | (simp only [LN] <;> omega) | fail) only [↓WD, ↓kAsg, ↓kRet, ↓clash_free, ↓WDD, ↓kOpD_callv, WK, UN, TY, LB, MD, i64_id, simprocAttr, ↓CV, ↓kc_s_l1Has, hq1, hq2]
      all_goals (first | (simp [edgeOK]; done) | (simp [edgeOK]; omega) | (simp [edgeOK]; intros; omega) | (simp only [edgeOK]; rw [decide_eq_true (show 0 ≤ a by omega), decide_eq_true (show a < st by omega), decide_eq_true (show 0 ≤ c by omega), decide_eq_true (show c < st by omega), decide_eq_true (show 0 ≤ b by omega), decide_eq_true (show b < 6 by omega)]; simp))
    · by_cases hq3 : (c < 0)
      · obtain ⟨n, rfl⟩ : ∃ m, n = m + 1 := ⟨n - 1, by omega⟩
        rw [fn_s_l2Edge]
        simp only [S_s_l2Edge, Tryd.f50, SLM, simprocAttr]
        simp -implicitDefEqProofs (maxSteps := 2000000) (disch := first | assumption | (refine Shut.mk ?_; kernel_rfl) | omega | (simp only [GT]; done) | (simp only [LN] <;> omega) | fail) only [↓WD, ↓kAsg, ↓kRet, ↓clash_free, ↓WDD, ↓kOpD_callv, WK, UN, TY, LB, MD, i64_id, simprocAttr, ↓CV, ↓kc_s_l1Has, hq1, hq2, hq3]
        all_goals (first | (simp [edgeOK]; done) | (simp [edgeOK]; omega) | (simp [edgeOK]; intros; omega) | (simp only [edgeOK]; rw [decide_eq_true (show 0 ≤ a by omega), decide_eq_true (show a < st by omega), decide_eq_true (show 0 ≤ c by omega), decide_eq_true (show c < st by omega), decide_eq_true (show 0 ≤ b by omega), decide_eq_true (show b < 6 by omega)]; simp))
      · by_cases hq4 : (st ≤ c)
        · obtain ⟨n, rfl⟩ : ∃ m, n = m + 1 := ⟨n - 1, by omega⟩
          rw [fn_s_l2Edge]
          simp only [S_s_l2Edge, Tryd.f50, SLM, simprocAttr]
          simp -implicitDefEqProofs (maxSteps := 2000000) (disch := first | assumption | (refine Shut.mk ?_; kernel_rfl) | omega | (simp only [GT]; done) | (simp only [LN] <;> omega) | fail) only [↓WD, ↓kAsg, ↓kRet, ↓clash_free, ↓WDD, ↓kOpD_callv, WK, UN, TY, LB, MD, i64_id, simprocAttr, ↓CV, ↓kc_s_l1Has, hq1, hq2, hq3, hq4]
          all_goals (first | (simp [edgeOK]; done) | (simp [edgeOK]; omega) | (simp [edgeOK]; intros; omega) | (simp only [edgeOK]; rw [decide_eq_true (show 0 ≤ a by omega), decide_eq_true (show a < st by omega), decide_eq_true (show 0 ≤ c by omega), decide_eq_true (show c < st by omega), decide_eq_true (show 0 ≤ b by omega), decide_eq_true (show b < 6 by omega)]; simp))
        · by_cases hq5 : (¬ 0 ≤ b)
          · obtain ⟨n, rfl⟩ : ∃ m, n = m + 1 := ⟨n - 1, by omega⟩
            rw [fn_s_l2Edge]
            simp only [S_s_l2Edge, Tryd.f50, SLM, simprocAttr]
            simp -implicitDefEqProofs (maxSteps := 2000000) (disch := first | assumption | (refine Shut.mk ?_; kernel_rfl) | omega | (simp only [GT]; done) | (simp only [LN] <;> omega) | fail) only [↓WD, ↓kAsg, ↓kRet, ↓clash_free, ↓WDD, ↓kOpD_callv, WK, UN, TY, LB, MD, i64_id, simprocAttr, ↓CV, ↓kc_s_l1Has, hq1, hq2, hq3, hq4, hq5]
            all_goals (first | (simp [edgeOK]; done) | (simp [edgeOK]; omega) | (simp [edgeOK]; intros; omega) | (simp only [edgeOK]; rw [decide_eq_true (show 0 ≤ a by omega), decide_eq_true (show a < st by omega), decide_eq_true (show 0 ≤ c by omega), decide_eq_true (show c < st by omega), decide_eq_true (show 0 ≤ b by omega), decide_eq_true (show b < 6 by omega)]; simp))
          · have hq5 := Classical.not_not.1 hq5
            by_cases hq6 : (¬ b < 6)
            · obtain ⟨n, rfl⟩ : ∃ m, n = m + 1 := ⟨n - 1, by omega⟩
              rw [fn_s_l2Edge]
              simp only [S_s_l2Edge, Tryd.f50, SLM, simprocAttr]
              simp -implicitDefEqProofs (maxSteps := 2000000) (disch := first | assumption | (refine Shut.mk ?_; kernel_rfl) | omega | (simp only [GT]; done) | (simp only [LN] <;> omega) | fail) only [↓WD, ↓kAsg, ↓kRet, ↓clash_free, ↓WDD, ↓kOpD_callv, WK, UN, TY, LB, MD, i64_id, simprocAttr, ↓CV, ↓kc_s_l1Has, hq1, hq2, hq3, hq4, hq5, hq6]
              all_goals (first | (simp [edgeOK]; done) | (simp [edgeOK]; omega) | (simp [edgeOK]; intros; omega) | (simp only [edgeOK]; rw [decide_eq_true (show 0 ≤ a by omega), decide_eq_true (show a < st by omega), decide_eq_true (show 0 ≤ c by omega), decide_eq_true (show c < st by omega), decide_eq_true (show 0 ≤ b by omega), decide_eq_true (show b < 6 by omega)]; simp))
            · have hq6 := Classical.not_not.1 hq6
              obtain ⟨n, rfl⟩ : ∃ m, n = m + 1 := ⟨n - 1, by omega⟩
              rw [fn_s_l2Edge]
              simp only [S_s_l2Edge, Tryd.f50, SLM, simprocAttr]
              simp -implicitDefEqProofs (maxSteps := 2000000) (disch := first | assumption | (refine Shut.mk ?_; kernel_rfl) | omega | (simp only [GT]; done) | (simp only [LN] <;> omega) | fail) only [↓WD, ↓kAsg, ↓kRet, ↓clash_free, ↓WDD, ↓kOpD_callv, WK, UN, TY, LB, MD, i64_id, simprocAttr, ↓CV, ↓kc_s_l1Has, hq1, hq2, hq3, hq4, hq5, hq6]
              all_goals (first | (simp [edgeOK]; done) | (simp [edgeOK]; omega) | (simp [edgeOK]; intros; omega) | (simp only [edgeOK]; rw [decide_eq_true (show 0 ≤ a by omega), decide_eq_true (show a < st by omega), decide_eq_true (show 0 ≤ c by omega), decide_eq_true (show c < st by omega), decide_eq_true (show 0 ≤ b by omega), decide_eq_true (show b < 6 by omega)]; simp))
theorem kc_s_l2Edge {R : Type} {L n : Nat} {hq : H} {k : A → H → Option R} (hn : 2 ≤ n) (al st a b c : Int) : kCall env (evCall env L n) hq 50 [.d (.int .i64 al), .d (.int .i64 st), .agg [.d (.int .i64 a), .d (.int .i64 b), .d (.int .i64 c)]] k = k (.d (.bool (edgeOK al st ⟨a, b, c⟩))) hq :=
  kCall_still rfl (ev_s_l2Edge hn al st a b c) rfl (.inl rfl)

theorem ev_s_l2Before {L n : Nat} (hn : 1 ≤ n) (a b c d e f : Int) : evCall env L n 67 [.agg [.d (.int .i64 a), .d (.int .i64 b), .d (.int .i64 c)], .agg [.d (.int .i64 d), .d (.int .i64 e), .d (.int .i64 f)]] [] = some (.d (.bool (beforeE ⟨a, b, c⟩ ⟨d, e, f⟩)), []) := by
  by_cases hq1 : (¬ a = d)
  · obtain ⟨n, rfl⟩ : ∃ m, n = m + 1 := ⟨n - 1, by omega⟩
    rw [fn_s_l2Before]
    simp only [S_s_l2Before, Tryd.f67, SLM, simprocAttr]
    simp -implicitDefEqProofs (maxSteps := 2000000) (disch := first | assumption | (refine Shut.mk ?_; kernel_rfl) | omega | (simp only [GT]; done) | (simp only [LN] <;> omega) | fail) only [↓WD, ↓kAsg, ↓kRet, ↓clash_free, ↓WDD, ↓kOpD_callv, WK, UN, TY, LB, MD, i64_id, simprocAttr, ↓CV, hq1]
    all_goals ((by_cases e1 : a = d <;> by_cases e2 : b = e <;> simp_all [beforeE]))
  · have hq1 := Classical.not_not.1 hq1
    by_cases hq2 : (¬ b = e)
    · obtain ⟨n, rfl⟩ : ∃ m, n = m + 1 := ⟨n - 1, by omega⟩
      rw [fn_s_l2Before]
      simp only [S_s_l2Before, Tryd.f67, SLM, simprocAttr]
      simp -implicitDefEqProofs (maxSteps := 2000000) (disch := first | assumption | (refine Shut.mk ?_; kernel_rfl) | omega | (simp only [GT]; done) | (simp only [LN] <;> omega) | fail) only [↓WD, ↓kAsg, ↓kRet, ↓clash_free, ↓WDD, ↓kOpD_callv, WK, UN, TY, LB, MD, i64_id, simprocAttr, ↓CV, hq1, hq2]
      all_goals ((by_cases e1 : a = d <;> by_cases e2 : b = e <;> simp_all [beforeE]))
    · have hq2 := Classical.not_not.1 hq2
      obtain ⟨n, rfl⟩ : ∃ m, n = m + 1 := ⟨n - 1, by omega⟩
      rw [fn_s_l2Before]
      simp only [S_s_l2Before, Tryd.f67, SLM, simprocAttr]
      simp -implicitDefEqProofs (maxSteps := 2000000) (disch := first | assumption | (refine Shut.mk ?_; kernel_rfl) | omega | (simp only [GT]; done) | (simp only [LN] <;> omega) | fail) only [↓WD, ↓kAsg, ↓kRet, ↓clash_free, ↓WDD, ↓kOpD_callv, WK, UN, TY, LB, MD, i64_id, simprocAttr, ↓CV, hq1, hq2]
      all_goals ((by_cases e1 : a = d <;> by_cases e2 : b = e <;> simp_all [beforeE]))
theorem kc_s_l2Before {R : Type} {L n : Nat} {hq : H} {k : A → H → Option R} (hn : 1 ≤ n) (a b c d e f : Int) : kCall env (evCall env L n) hq 67 [.agg [.d (.int .i64 a), .d (.int .i64 b), .d (.int .i64 c)], .agg [.d (.int .i64 d), .d (.int .i64 e), .d (.int .i64 f)]] k = k (.d (.bool (beforeE ⟨a, b, c⟩ ⟨d, e, f⟩))) hq :=
  kCall_still rfl (ev_s_l2Before hn a b c d e f) rfl (.inl rfl)

theorem ev_i_isState {L n : Nat} (hn : 1 ≤ n) (al st : Int) (z : Nat) (cs : List D) (q : Int) : evCall env L n 44 [.agg [.d (.int .i64 al), .d (.int .i64 st), .d (.ivs z cs)], .d (.int .i64 q)] [] = some (.d (.bool (decide (0 ≤ q) && decide (q < st))), []) := by
  by_cases hq1 : (¬ 0 ≤ q)
  · obtain ⟨n, rfl⟩ : ∃ m, n = m + 1 := ⟨n - 1, by omega⟩
    rw [fn_i_isState]
    simp only [S_i_isState, Tryd.f44, SLM, simprocAttr]
    simp -implicitDefEqProofs (maxSteps := 2000000) (disch := first | assumption | (refine Shut.mk ?_; kernel_rfl) | omega | (simp only [GT]; done) | (simp only [LN] <;> omega) | fail) only [↓WD, ↓kAsg, ↓kRet, ↓clash_free, ↓WDD, ↓kOpD_callv, WK, UN, TY, LB, MD, i64_id, simprocAttr, ↓CV, hq1]
    all_goals (simp_all)
  · have hq1 := Classical.not_not.1 hq1
    obtain ⟨n, rfl⟩ : ∃ m, n = m + 1 := ⟨n - 1, by omega⟩
    rw [fn_i_isState]
    simp only [S_i_isState, Tryd.f44, SLM, simprocAttr]
    simp -implicitDefEqProofs (maxSteps := 2000000) (disch := first | assumption | (refine Shut.mk ?_; kernel_rfl) | omega | (simp only [GT]; done) | (simp only [LN] <;> omega) | fail) only [↓WD, ↓kAsg, ↓kRet, ↓clash_free, ↓WDD, ↓kOpD_callv, WK, UN, TY, LB, MD, i64_id, simprocAttr, ↓CV, hq1]
    all_goals (simp_all)
theorem kc_i_isState {R : Type} {L n : Nat} {hq : H} {k : A → H → Option R} (hn : 1 ≤ n) (al st : Int) (z : Nat) (cs : List D) (q : Int) : kCall env (evCall env L n) hq 44 [.agg [.d (.int .i64 al), .d (.int .i64 st), .d (.ivs z cs)], .d (.int .i64 q)] k = k (.d (.bool (decide (0 ≤ q) && decide (q < st)))) hq :=
  kCall_still rfl (ev_i_isState hn al st z cs q) rfl (.inl rfl)
theorem kl_i_isState {R : Type} {L n : Nat} {k : A → Option R} (hn : 1 ≤ n) (al st : Int) (z : Nat) (cs : List D) (q : Int) : kLent (evCall env L n) 44 [.agg [.d (.int .i64 al), .d (.int .i64 st), .d (.ivs z cs)], .d (.int .i64 q)] k = k (.d (.bool (decide (0 ≤ q) && decide (q < st)))) :=
  kLent_ev (ev_i_isState hn al st z cs q) rfl
theorem kv_i_isState_1 {R : Type} {L n : Nat} {hq : H} {k : A → H → Option R} {id0 g0 o0 len0 : Nat} {al st : Int} {q : Int} : kCall env (evCall env L n) hq 44 [.agg [.d (.int .i64 al), .d (.int .i64 st), .sl id0 g0 o0 len0], .d (.int .i64 q)] k = match box (lentA hq [.agg [.d (.int .i64 al), .d (.int .i64 st), .sl id0 g0 o0 len0], .d (.int .i64 q)]) with
    | .mk (some fs) => kLent (evCall env L n) 44 fs fun r => k r hq
    | _ => none := kCall_lent mode_i_isState

theorem beforeE_cmp {e f : Edge} : decide (0 ≤ cmpE e f) = !beforeE e f := by
  unfold cmpE beforeE cmpI firstNZ
  by_cases h1 : e.fr < f.fr
  · have : ¬ e.fr = f.fr := by omega
    simp [h1, this]
  · by_cases h2 : f.fr < e.fr
    · have : ¬ e.fr = f.fr := by omega
      simp [h1, h2, this]
    · have : e.fr = f.fr := by omega
      simp only [h1, h2, this, if_true, if_false, firstNZ]
      by_cases h3 : e.lt < f.lt
      · have : ¬ e.lt = f.lt := by omega
        simp [h3, this]
      · by_cases h4 : f.lt < e.lt
        · have : ¬ e.lt = f.lt := by omega
          simp [h3, h4, this]
        · have : e.lt = f.lt := by omega
          simp only [h3, h4, this, if_true, if_false, firstNZ]
          by_cases h5 : e.to < f.to
          · simp [h5]
          · by_cases h6 : f.to < e.to <;> simp [h5, h6]

theorem loop_s_SystemValid {R : Type} {L n : Nat} (hn : 3 ≤ n) {al st : Int} {l : List Edge} (hl : l.length ≤ 4294967296) {k : Exit → List A → H → Option R} : ∀ (j : Nat) (i : Int) (m : Nat) (h0 : 0 ≤ i) (hi : i + j = l.length) (hm : j < m),
    kLoop env (evCall env L n) L 0 [] (false :: true :: true :: true :: false :: false :: false :: false :: false :: false :: false :: false :: false :: false :: false :: false :: false :: false :: false :: false :: false :: false :: false :: false :: false :: false :: false :: false :: false :: false :: false :: false :: false :: false :: false :: false :: false :: false :: false :: false :: false :: false :: false :: false :: false :: false :: false :: false :: false :: false :: false :: false :: false :: false :: false :: []) (lp_s_SystemValid 0) (true :: false :: false :: false :: true :: true :: true :: true :: true :: true :: true :: true :: true :: true :: true :: true :: true :: true :: true :: true :: true :: true :: true :: true :: true :: true :: true :: true :: true :: true :: true :: true :: true :: true :: true :: true :: true :: true :: true :: true :: true :: true :: true :: true :: true :: true :: true :: true :: true :: true :: true :: true :: true :: true :: true :: []) m (.junk :: .ptr 0 0 0 :: .d (.bool false) :: .d (.int .i64 i) :: .junk :: .junk :: .junk :: .junk :: .junk :: .junk :: .junk :: .junk :: .junk :: .junk :: .junk :: .junk :: .junk :: .junk :: .junk :: .junk :: .junk :: .junk :: .junk :: .junk :: .junk :: .junk :: .junk :: .junk :: .junk :: .junk :: .junk :: .junk :: .junk :: .junk :: .junk :: .junk :: .junk :: .junk :: .junk :: .junk :: .junk :: .junk :: .junk :: .junk :: .junk :: .junk :: .junk :: .junk :: .junk :: .junk :: .junk :: .junk :: .junk :: .junk :: .junk :: []) [.box [.d (.int .i64 al), .d (.int .i64 st), .d (.ivs l.length (edgesD l))]] k
    = match seek (badAt al st l) j i.toNat with
      | none => k (.exit 0) (.junk :: .ptr 0 0 0 :: .d (.bool false) :: .d (.int .i64 (l.length)) :: .junk :: .junk :: .junk :: .junk :: .junk :: .junk :: .junk :: .junk :: .junk :: .junk :: .junk :: .junk :: .junk :: .junk :: .junk :: .junk :: .junk :: .junk :: .junk :: .junk :: .junk :: .junk :: .junk :: .junk :: .junk :: .junk :: .junk :: .junk :: .junk :: .junk :: .junk :: .junk :: .junk :: .junk :: .junk :: .junk :: .junk :: .junk :: .junk :: .junk :: .junk :: .junk :: .junk :: .junk :: .junk :: .junk :: .junk :: .junk :: .junk :: .junk :: .junk :: []) [.box [.d (.int .i64 al), .d (.int .i64 st), .d (.ivs l.length (edgesD l))]]
      | some r => k .ret (.junk :: .ptr 0 0 0 :: .d (.bool false) :: .d (.int .i64 r) :: .junk :: .junk :: .junk :: .junk :: .junk :: .junk :: .junk :: .junk :: .junk :: .junk :: .junk :: .junk :: .junk :: .junk :: .junk :: .junk :: .junk :: .junk :: .junk :: .junk :: .junk :: .junk :: .junk :: .junk :: .junk :: .junk :: .junk :: .junk :: .junk :: .junk :: .junk :: .junk :: .junk :: .junk :: .junk :: .junk :: .junk :: .junk :: .junk :: .junk :: .junk :: .junk :: .junk :: .junk :: .junk :: .junk :: .junk :: .junk :: .junk :: .junk :: .junk :: []) [.box [.d (.int .i64 al), .d (.int .i64 st), .d (.ivs l.length (edgesD l))]] := by
  intro j
  induction j with
  | zero =>
    intro i m h0 hi hm
    obtain ⟨m, rfl⟩ : ∃ q, m = q + 1 := ⟨m - 1, by omega⟩
    obtain rfl : i = l.length := by omega
    rw [step_s_SystemValid_0]
    simp only [S_s_SystemValid_0, Tryd.f30, SLM, simprocAttr]
    simp -implicitDefEqProofs (maxSteps := 2000000) (disch := first | assumption | (refine Shut.mk ?_; kernel_rfl) | omega | (simp only [GT]; done) | (simp only [LN] <;> omega) | fail) only [↓WD, ↓kAsg, ↓kRet, ↓clash_free, ↓WDD, ↓kOpD_callv, WK, UN, TY, LB, MD, i64_id, simprocAttr, ↓CV, ↓kc_s_l1Alphabet, ↓kc_s_l2Edge, ↓kc_s_l2Before, LE, Int.lt_irrefl]
    rfl
  | succ j ih =>
    intro i m h0 hi hm
    obtain ⟨m, rfl⟩ : ∃ q, m = q + 1 := ⟨m - 1, by omega⟩
    have hc : i < l.length := by omega
    have hk : i.toNat < l.length := by omega
    have e1 : (i + 1).toNat = i.toNat + 1 := by omega
    have e2 : (i - 1).toNat = i.toNat - 1 := by omega
    have e3 : ((i.toNat : Nat) : Int) = i := by omega
    cases hb : badAt al st l i.toNat with
    | true =>
      rw [seek_pos hb]
      cases hb1 : edgeOK al st (l.getD i.toNat default) with
      | false =>
        rw [step_s_SystemValid_0]
        simp only [S_s_SystemValid_0, Tryd.f30, SLM, simprocAttr]
        simp -implicitDefEqProofs (maxSteps := 2000000) (disch := first | assumption | (refine Shut.mk ?_; kernel_rfl) | omega | (simp only [GT]; done) | (simp only [LN] <;> omega) | fail) only [↓WD, ↓kAsg, ↓kRet, ↓clash_free, ↓WDD, ↓kOpD_callv, WK, UN, TY, LB, MD, i64_id, simprocAttr, ↓CV, ↓kc_s_l1Alphabet, ↓kc_s_l2Edge, ↓kc_s_l2Before, LE, hc, hb1, e3]
      | true =>
        unfold badAt at hb
        rw [hb1] at hb
        simp only [Bool.not_true, Bool.false_or, Bool.and_eq_true, decide_eq_true_eq, Bool.not_eq_true'] at hb
        obtain ⟨hz, hb3⟩ := hb
        have hz : 0 < i := by omega
        have hk2 : (i - 1).toNat < l.length := by omega
        rw [← e2] at hb3
        rw [step_s_SystemValid_0]
        simp only [S_s_SystemValid_0, Tryd.f30, SLM, simprocAttr]
        simp -implicitDefEqProofs (maxSteps := 2000000) (disch := first | assumption | (refine Shut.mk ?_; kernel_rfl) | omega | (simp only [GT]; done) | (simp only [LN] <;> omega) | fail) only [↓WD, ↓kAsg, ↓kRet, ↓clash_free, ↓WDD, ↓kOpD_callv, WK, UN, TY, LB, MD, i64_id, simprocAttr, ↓CV, ↓kc_s_l1Alphabet, ↓kc_s_l2Edge, ↓kc_s_l2Before, LE, hc, hz, hb1, hb3, e3]
    | false =>
      rw [seek_neg hb]
      unfold badAt at hb
      simp only [Bool.or_eq_false_iff, Bool.not_eq_false', Bool.and_eq_false_imp, decide_eq_true_eq] at hb
      obtain ⟨hb1, hb2⟩ := hb
      by_cases hz : 0 < i
      · have hb3 := hb2 (by omega)
        have hk2 : (i - 1).toNat < l.length := by omega
        rw [← e2] at hb3
        rw [step_s_SystemValid_0]
        simp only [S_s_SystemValid_0, Tryd.f30, SLM, simprocAttr]
        simp -implicitDefEqProofs (maxSteps := 2000000) (disch := first | assumption | (refine Shut.mk ?_; kernel_rfl) | omega | (simp only [GT]; done) | (simp only [LN] <;> omega) | fail) only [↓WD, ↓kAsg, ↓kRet, ↓clash_free, ↓WDD, ↓kOpD_callv, WK, UN, TY, LB, MD, i64_id, simprocAttr, ↓CV, ↓kc_s_l1Alphabet, ↓kc_s_l2Edge, ↓kc_s_l2Before, LE, hc, hz, hb1, hb3, ↓ih, e1]
      · rw [step_s_SystemValid_0]
        simp only [S_s_SystemValid_0, Tryd.f30, SLM, simprocAttr]
        simp -implicitDefEqProofs (maxSteps := 2000000) (disch := first | assumption | (refine Shut.mk ?_; kernel_rfl) | omega | (simp only [GT]; done) | (simp only [LN] <;> omega) | fail) only [↓WD, ↓kAsg, ↓kRet, ↓clash_free, ↓WDD, ↓kOpD_callv, WK, UN, TY, LB, MD, i64_id, simprocAttr, ↓CV, ↓kc_s_l1Alphabet, ↓kc_s_l2Edge, ↓kc_s_l2Before, LE, hc, hz, hb1, ↓ih, e1]

theorem loop_s_SystemValid_top {R : Type} {L n m : Nat} (hn : 3 ≤ n) {al st : Int} {l : List Edge} (hl : l.length ≤ 4294967296) {k : Exit → List A → H → Option R} (hm : l.length < m) :
    kLoop env (evCall env L n) L 0 [] (false :: true :: true :: true :: false :: false :: false :: false :: false :: false :: false :: false :: false :: false :: false :: false :: false :: false :: false :: false :: false :: false :: false :: false :: false :: false :: false :: false :: false :: false :: false :: false :: false :: false :: false :: false :: false :: false :: false :: false :: false :: false :: false :: false :: false :: false :: false :: false :: false :: false :: false :: false :: false :: false :: false :: []) (lp_s_SystemValid 0) (true :: false :: false :: false :: true :: true :: true :: true :: true :: true :: true :: true :: true :: true :: true :: true :: true :: true :: true :: true :: true :: true :: true :: true :: true :: true :: true :: true :: true :: true :: true :: true :: true :: true :: true :: true :: true :: true :: true :: true :: true :: true :: true :: true :: true :: true :: true :: true :: true :: true :: true :: true :: true :: true :: true :: []) m (.junk :: .ptr 0 0 0 :: .d (.bool false) :: .d (.int .i64 0) :: .junk :: .junk :: .junk :: .junk :: .junk :: .junk :: .junk :: .junk :: .junk :: .junk :: .junk :: .junk :: .junk :: .junk :: .junk :: .junk :: .junk :: .junk :: .junk :: .junk :: .junk :: .junk :: .junk :: .junk :: .junk :: .junk :: .junk :: .junk :: .junk :: .junk :: .junk :: .junk :: .junk :: .junk :: .junk :: .junk :: .junk :: .junk :: .junk :: .junk :: .junk :: .junk :: .junk :: .junk :: .junk :: .junk :: .junk :: .junk :: .junk :: .junk :: .junk :: []) [.box [.d (.int .i64 al), .d (.int .i64 st), .d (.ivs l.length (edgesD l))]] k
    = match seek (badAt al st l) l.length 0 with
      | none => k (.exit 0) (.junk :: .ptr 0 0 0 :: .d (.bool false) :: .d (.int .i64 (l.length)) :: .junk :: .junk :: .junk :: .junk :: .junk :: .junk :: .junk :: .junk :: .junk :: .junk :: .junk :: .junk :: .junk :: .junk :: .junk :: .junk :: .junk :: .junk :: .junk :: .junk :: .junk :: .junk :: .junk :: .junk :: .junk :: .junk :: .junk :: .junk :: .junk :: .junk :: .junk :: .junk :: .junk :: .junk :: .junk :: .junk :: .junk :: .junk :: .junk :: .junk :: .junk :: .junk :: .junk :: .junk :: .junk :: .junk :: .junk :: .junk :: .junk :: .junk :: .junk :: []) [.box [.d (.int .i64 al), .d (.int .i64 st), .d (.ivs l.length (edgesD l))]]
      | some r => k .ret (.junk :: .ptr 0 0 0 :: .d (.bool false) :: .d (.int .i64 r) :: .junk :: .junk :: .junk :: .junk :: .junk :: .junk :: .junk :: .junk :: .junk :: .junk :: .junk :: .junk :: .junk :: .junk :: .junk :: .junk :: .junk :: .junk :: .junk :: .junk :: .junk :: .junk :: .junk :: .junk :: .junk :: .junk :: .junk :: .junk :: .junk :: .junk :: .junk :: .junk :: .junk :: .junk :: .junk :: .junk :: .junk :: .junk :: .junk :: .junk :: .junk :: .junk :: .junk :: .junk :: .junk :: .junk :: .junk :: .junk :: .junk :: .junk :: .junk :: []) [.box [.d (.int .i64 al), .d (.int .i64 st), .d (.ivs l.length (edgesD l))]] :=
  loop_s_SystemValid hn hl l.length 0 m (by omega) (by omega) hm

theorem ev_s_SystemValid {L n : Nat} (hn : 4 ≤ n) (al st : Int) (l : List Edge) (hl : l.length ≤ 4294967296) (hL : 2 ^ 60 ≤ L) : evCall env L n 30 [.agg [.d (.int .i64 al), .d (.int .i64 st), .d (.ivs l.length (edgesD l))]] [] = some (.d (.bool (sysOK ⟨al, st, l⟩)), []) := by
  unfold sysOK
  simp only []
  cases ha : isAlpha al with
  | false =>
    obtain ⟨n, rfl⟩ : ∃ m, n = m + 1 := ⟨n - 1, by omega⟩
    rw [fn_s_SystemValid]
    simp only [S_s_SystemValid, Tryd.f30, SLM, simprocAttr]
    simp -implicitDefEqProofs (maxSteps := 2000000) (disch := first | assumption | (refine Shut.mk ?_; kernel_rfl) | omega | (simp only [GT]; done) | (simp only [LN] <;> omega) | fail) only [↓WD, ↓kAsg, ↓kRet, ↓clash_free, ↓WDD, ↓kOpD_callv, WK, UN, TY, LB, MD, i64_id, simprocAttr, ↓CV, ↓kc_s_l1Alphabet, ↓kc_s_l2Edge, ↓kc_s_l2Before, ↓loop_s_SystemValid, ↓loop_s_SystemValid_top, ha, Bool.false_and]
  | true =>
    by_cases h1 : st < 1
    · have e1 : decide (1 ≤ st) = false := by simp; omega
      obtain ⟨n, rfl⟩ : ∃ m, n = m + 1 := ⟨n - 1, by omega⟩
      rw [fn_s_SystemValid]
      simp only [S_s_SystemValid, Tryd.f30, SLM, simprocAttr]
      simp -implicitDefEqProofs (maxSteps := 2000000) (disch := first | assumption | (refine Shut.mk ?_; kernel_rfl) | omega | (simp only [GT]; done) | (simp only [LN] <;> omega) | fail) only [↓WD, ↓kAsg, ↓kRet, ↓clash_free, ↓WDD, ↓kOpD_callv, WK, UN, TY, LB, MD, i64_id, simprocAttr, ↓CV, ↓kc_s_l1Alphabet, ↓kc_s_l2Edge, ↓kc_s_l2Before, ↓loop_s_SystemValid, ↓loop_s_SystemValid_top, ha, h1, e1, Bool.false_and, Bool.and_false]
    · by_cases h2 : 16 < st
      · have e1 : decide (st ≤ 16) = false := by simp; omega
        obtain ⟨n, rfl⟩ : ∃ m, n = m + 1 := ⟨n - 1, by omega⟩
        rw [fn_s_SystemValid]
        simp only [S_s_SystemValid, Tryd.f30, SLM, simprocAttr]
        simp -implicitDefEqProofs (maxSteps := 2000000) (disch := first | assumption | (refine Shut.mk ?_; kernel_rfl) | omega | (simp only [GT]; done) | (simp only [LN] <;> omega) | fail) only [↓WD, ↓kAsg, ↓kRet, ↓clash_free, ↓WDD, ↓kOpD_callv, WK, UN, TY, LB, MD, i64_id, simprocAttr, ↓CV, ↓kc_s_l1Alphabet, ↓kc_s_l2Edge, ↓kc_s_l2Before, ↓loop_s_SystemValid, ↓loop_s_SystemValid_top, ha, h1, h2, e1, Bool.false_and, Bool.and_false]
      · have e1 : decide (1 ≤ st) = true := by simp; omega
        have e2 : decide (st ≤ 16) = true := by simp; omega
        cases hs : seek (badAt al st l) l.length 0 with
        | none =>
          obtain ⟨n, rfl⟩ : ∃ m, n = m + 1 := ⟨n - 1, by omega⟩
          rw [fn_s_SystemValid]
          simp only [S_s_SystemValid, Tryd.f30, SLM, simprocAttr]
          simp -implicitDefEqProofs (maxSteps := 2000000) (disch := first | assumption | (refine Shut.mk ?_; kernel_rfl) | omega | (simp only [GT]; done) | (simp only [LN] <;> omega) | fail) only [↓WD, ↓kAsg, ↓kRet, ↓clash_free, ↓WDD, ↓kOpD_callv, WK, UN, TY, LB, MD, i64_id, simprocAttr, ↓CV, ↓kc_s_l1Alphabet, ↓kc_s_l2Edge, ↓kc_s_l2Before, ↓loop_s_SystemValid, ↓loop_s_SystemValid_top, ha, h1, h2, e1, e2, hs]
        | some r =>
          obtain ⟨n, rfl⟩ : ∃ m, n = m + 1 := ⟨n - 1, by omega⟩
          rw [fn_s_SystemValid]
          simp only [S_s_SystemValid, Tryd.f30, SLM, simprocAttr]
          simp -implicitDefEqProofs (maxSteps := 2000000) (disch := first | assumption | (refine Shut.mk ?_; kernel_rfl) | omega | (simp only [GT]; done) | (simp only [LN] <;> omega) | fail) only [↓WD, ↓kAsg, ↓kRet, ↓clash_free, ↓WDD, ↓kOpD_callv, WK, UN, TY, LB, MD, i64_id, simprocAttr, ↓CV, ↓kc_s_l1Alphabet, ↓kc_s_l2Edge, ↓kc_s_l2Before, ↓loop_s_SystemValid, ↓loop_s_SystemValid_top, ha, h1, h2, e1, e2, hs, Bool.and_false]
theorem kc_s_SystemValid {R : Type} {L n : Nat} {hq : H} {k : A → H → Option R} (hn : 4 ≤ n) (al st : Int) (l : List Edge) (hl : l.length ≤ 4294967296) (hL : 2 ^ 60 ≤ L) : kCall env (evCall env L n) hq 30 [.agg [.d (.int .i64 al), .d (.int .i64 st), .d (.ivs l.length (edgesD l))]] k = k (.d (.bool (sysOK ⟨al, st, l⟩))) hq :=
  kCall_still rfl (ev_s_SystemValid hn al st l hl hL) rfl (.inl rfl)
theorem kl_s_SystemValid {R : Type} {L n : Nat} {k : A → Option R} (hn : 4 ≤ n) (al st : Int) (l : List Edge) (hl : l.length ≤ 4294967296) (hL : 2 ^ 60 ≤ L) : kLent (evCall env L n) 30 [.agg [.d (.int .i64 al), .d (.int .i64 st), .d (.ivs l.length (edgesD l))]] k = k (.d (.bool (sysOK ⟨al, st, l⟩))) :=
  kLent_ev (ev_s_SystemValid hn al st l hl hL) rfl
theorem kv_s_SystemValid_1 {R : Type} {L n : Nat} {hq : H} {k : A → H → Option R} {id0 g0 o0 len0 : Nat} {al st : Int} : kCall env (evCall env L n) hq 30 [.agg [.d (.int .i64 al), .d (.int .i64 st), .sl id0 g0 o0 len0]] k = match box (lentA hq [.agg [.d (.int .i64 al), .d (.int .i64 st), .sl id0 g0 o0 len0]]) with
    | .mk (some fs) => kLent (evCall env L n) 30 fs fun r => k r hq
    | _ => none := kCall_lent mode_s_SystemValid

end Ev
end Go.Proofs.YtojaohcpgelhmaaDoor
end
