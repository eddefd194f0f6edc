/-
  A search through nodes, walked: the members of a set, a visit.
-/
import Derived.Test.YtojaohcpgelhmaaDoorMemb
set_option linter.unusedSimpArgs false
set_option linter.unusedVariables false
set_option maxRecDepth 8000
set_option pp.maxSteps 6000
set_option maxHeartbeats 4000000
namespace Go.Proofs.YtojaohcpgelhmaaDoor
namespace Ev

/-! ### steps as cells -/

def stepsD : List PStep → List D
  | [] => []
  | p :: l => .int .i64 p.par :: .int .i64 p.lt :: .ivs p.ns.length (ints p.ns) :: stepsD l

theorem stepsD_length : ∀ {l : List PStep}, (stepsD l).length = l.length * 3
  | [] => rfl
  | p :: l => by simp only [stepsD, List.length_cons, stepsD_length (l := l)]; omega
theorem stepsD_app : ∀ {a b : List PStep}, stepsD a ++ stepsD b = stepsD (a ++ b)
  | [], b => rfl
  | p :: a, b => by simp only [stepsD, List.cons_append, stepsD_app (a := a)]
theorem steps_snoc {l : List PStep} {p t : Int} {ns : List Int} {z : Nat} (h : z = ns.length) : stepsD l ++ [.int .i64 p, .int .i64 t, .ivs z (ints ns)] = stepsD (l ++ [⟨p, t, ns⟩]) := by
  subst h
  rw [← stepsD_app]; rfl
theorem stepsD_drop : ∀ {l : List PStep} {k : Nat}, (stepsD l).drop (k * 3) = stepsD (l.drop k)
  | l, 0 => by simp
  | [], k + 1 => by simp [stepsD]
  | p :: l, k + 1 => by
    rw [Nat.add_mul, Nat.one_mul]
    simp only [stepsD, List.drop_succ_cons]
    exact stepsD_drop
theorem steps_take {l : List PStep} {k : Nat} (h : l.length ≤ k) : (stepsD l).take (k * 3) = stepsD l := List.take_of_length_le (by rw [stepsD_length]; omega)
theorem steps_head2 {l : List PStep} {k : Nat} (h : k < l.length) : (((stepsD l).drop (k * 3 + 2)).map A.d).head? = some (.d (.ivs (l.getD k default).ns.length (ints (l.getD k default).ns))) := by
  rw [← List.drop_drop, stepsD_drop, drop_go h (d := default)]
  rfl

def boolC (l : List Bool) : List D := l.map .bool
theorem boolC_length {l : List Bool} : (boolC l).length = l.length := by simp [boolC]
theorem boolC_head {l : List Bool} {k : Nat} (h : k < l.length) : (((boolC l).drop k).map A.d).head? = some (.d (.bool (l.getD k false))) := by
  rw [List.head?_map, List.head?_drop, boolC, List.getElem?_map, List.getD_eq_getElem?_getD, List.getElem?_eq_getElem h]
  rfl
theorem boolC_take {l : List Bool} {k : Nat} (h : l.length ≤ k) : (boolC l).take k = boolC l := List.take_of_length_le (by rw [boolC_length]; exact h)
theorem boolC_set {l : List Bool} {k : Nat} {v : Bool} (h : k < l.length) : setRun (boolC l) k [.bool v] = boolC (l.set k v) := setRun_map _ l k v h
theorem st_boolC3 {a b c : O} {h : H} {g e k : Nat} {l : List Bool} {v : Bool} (hk : k < l.length) : aStore env.P (a :: b :: c :: .arr (boolC l) e g :: h) 4 (.ptr 3 g k) (.d (.bool v)) = some (a :: b :: c :: .arr (boolC (l.set k v)) e g :: h) := by
  rw [store_cell (id := 3) rfl c_bool i_bool rfl (by rw [boolC_length]; exact hk), boolC_set hk]; rfl
theorem st_boolC4 {a b c d : O} {h : H} {g e k : Nat} {l : List Bool} {v : Bool} (hk : k < l.length) : aStore env.P (a :: b :: c :: d :: .arr (boolC l) e g :: h) 4 (.ptr 4 g k) (.d (.bool v)) = some (a :: b :: c :: d :: .arr (boolC (l.set k v)) e g :: h) := by
  rw [store_cell (id := 4) rfl c_bool i_bool rfl (by rw [boolC_length]; exact hk), boolC_set hk]; rfl

theorem rng4 : List.range 4 = [0, 1, 2, 3] := rfl
theorem rng5 : List.range 5 = [0, 1, 2, 3, 4] := rfl
theorem rng6 : List.range 6 = [0, 1, 2, 3, 4, 5] := rfl
theorem ag_fb : isAggT env.P 47 = some false := by kernel_rfl

/-- Steps, marks, in every walk. -/
theorem PE : type_of% (And.intro rng4 (And.intro rng5 (And.intro rng6 (And.intro @stepsD_length (And.intro @steps_take (And.intro @steps_head2 (And.intro @boolC_length (And.intro @boolC_head @boolC_take)))))))) := And.intro rng4 (And.intro rng5 (And.intro rng6 (And.intro @stepsD_length (And.intro @steps_take (And.intro @steps_head2 (And.intro @boolC_length (And.intro @boolC_head @boolC_take)))))))

/-! ### members -/

theorem loop_i_members {R : Type} {L n : Nat} (hn : 1 ≤ n) {k : Exit → List A → H → Option R} : ∀ (q s m : Nat) (o : List Int) (len : Nat) (hs : s < 65536) (hq : s ≤ q) (hm : q < m) (hlen : len = o.length) (ho : o.length + q ≤ 70000),
    kLoop env (evCall env L n) L 0 [0, 0, 0, 2] (true :: false :: true :: true :: false :: false :: false :: false :: false :: false :: false :: false :: false :: false :: false :: false :: false :: []) (lp_i_members 0) (false :: true :: false :: false :: true :: true :: true :: true :: true :: true :: true :: true :: true :: true :: true :: true :: true :: []) m (.d (.int .i64 ((s : Int))) :: .junk :: .d .nils :: .sl 0 0 0 len :: .junk :: .junk :: .junk :: .junk :: .junk :: .junk :: .junk :: .junk :: .junk :: .junk :: .junk :: .junk :: .junk :: []) [.arr (ints o) 1 0] k
    = k (.exit 0) (.d (.int .i64 0) :: .junk :: .d .nils :: .sl 0 0 0 (o ++ memG q s).length :: .junk :: .junk :: .junk :: .junk :: .junk :: .junk :: .junk :: .junk :: .junk :: .junk :: .junk :: .junk :: .junk :: []) [.arr (ints (o ++ memG q s)) 1 0] := by
  intro q
  induction q with
  | zero =>
    intro s m o len hs hq hm hlen ho
    obtain ⟨m, rfl⟩ : ∃ q, m = q + 1 := ⟨m - 1, by omega⟩
    obtain rfl : s = 0 := by omega
    subst hlen
    rw [step_i_members_0]
    simp only [S_i_members_0, Tryd.f74, SLM, simprocAttr]
    simp -implicitDefEqProofs (maxSteps := 2000000) (disch := first | assumption | (refine Shut.mk ?_; kernel_rfl) | omega | (simp only [GT]; done) | (simp only [LN] <;> omega) | fail) only [↓WD, ↓kAsg, ↓kRet, ↓clash_free, ↓WDD, ↓kOpD_callv, WK, UN, TY, LB, MD, i64_id, simprocAttr, ↓CV, ↓kc_math_bits_TrailingZeros, Int.natCast_zero]
    simp only [memG, List.append_nil, List.length_nil, Nat.add_zero]
  | succ q ih =>
    intro s m o len hs hq hm hlen ho
    obtain ⟨m, rfl⟩ : ∃ q, m = q + 1 := ⟨m - 1, by omega⟩
    subst hlen
    by_cases h0 : s = 0
    · subst h0
      rw [step_i_members_0]
      simp only [S_i_members_0, Tryd.f74, SLM, simprocAttr]
      simp -implicitDefEqProofs (maxSteps := 2000000) (disch := first | assumption | (refine Shut.mk ?_; kernel_rfl) | omega | (simp only [GT]; done) | (simp only [LN] <;> omega) | fail) only [↓WD, ↓kAsg, ↓kRet, ↓clash_free, ↓WDD, ↓kOpD_callv, WK, UN, TY, LB, MD, i64_id, simprocAttr, ↓CV, ↓kc_math_bits_TrailingZeros, Int.natCast_zero]
      simp only [memG, if_true, List.append_nil, List.length_nil, Nat.add_zero]
    · have h0' : ¬ (s : Int) = 0 := by omega
      have hct := ctz_lt16 h0 hs
      have e1 : IntKind.u64.wrap (s : Int) = (s : Int) := u64_id (by omega) (by omega)
      have e4 : iAnd .i64 (s : Int) ((s - 1 : Nat) : Int) = ((s &&& (s - 1) : Nat) : Int) := iAnd_nat (by omega) (by omega)
      have e5 : IntKind.i64.wrap ((s : Int) - 1) = ((s - 1 : Nat) : Int) := by
        have e3 : (s : Int) - 1 = ((s - 1 : Nat) : Int) := by omega
        rw [← e3]; exact i64_id (by omega) (by omega)
      have l1 := Nat.and_le_right (n := s) (m := s - 1)
      have ih' := ih (s &&& (s - 1)) m (o ++ [((Lib.ctz 64 s : Nat) : Int)]) (o.length + 1) (by omega) (by omega) (by omega) (by simp) (by simp; omega)
      clear ih l1 hct
      rw [step_i_members_0]
      simp only [S_i_members_0, Tryd.f74, SLM, simprocAttr]
      simp -implicitDefEqProofs (maxSteps := 2000000) (disch := first | assumption | (refine Shut.mk ?_; kernel_rfl) | omega | (simp only [GT]; done) | (simp only [LN] <;> omega) | fail) only [↓WD, ↓kAsg, ↓kRet, ↓clash_free, ↓WDD, ↓kOpD_callv, WK, UN, TY, LB, MD, i64_id, simprocAttr, ↓CV, h0', e1, e4, e5, ↓kc_math_bits_TrailingZeros, ↓conv_int_uintS, Int.toNat_natCast, ints_take, ints_snoc, List.length_append, ↓ih']
      simp only [memG, h0, if_false, List.append_assoc, List.cons_append, List.nil_append, List.length_append, List.length_cons]
      rw [show o.length + 1 + (memG q (s &&& (s - 1))).length = o.length + ((memG q (s &&& (s - 1))).length + 1) by omega]

theorem ev_i_members {L n : Nat} (hn : 2 ≤ n) (s : Nat) (hs : s < 65536) (hL : 2 ^ 60 ≤ L) : evCall env L n 74 [.d (.int .i64 (s : Nat))] [] = some (.d (.ivs (memG s s).length (ints (memG s s))), []) := by
  have loop_c := fun {R : Type} {n : Nat} {k : Exit → List A → H → Option R} (hn : 1 ≤ n) => @loop_i_members R L n hn k s s L [] 0 hs (Nat.le_refl _) (by omega) rfl (by simp; omega)
  simp only [List.nil_append, ints_nil] at loop_c
  obtain ⟨n, rfl⟩ : ∃ m, n = m + 1 := ⟨n - 1, by omega⟩
  rw [fn_i_members]
  simp only [S_i_members, Tryd.f74, SLM, simprocAttr]
  simp -implicitDefEqProofs (maxSteps := 2000000) (disch := first | assumption | (refine Shut.mk ?_; kernel_rfl) | omega | (simp only [GT]; done) | (simp only [LN] <;> omega) | fail) only [↓WD, ↓kAsg, ↓kRet, ↓clash_free, ↓WDD, ↓kOpD_callv, WK, UN, TY, LB, MD, i64_id, simprocAttr, ↓CV, ↓kc_math_bits_TrailingZeros, ↓loop_c, ints_length, ints_take]
theorem kc_i_members {R : Type} {L n : Nat} {hq : H} {k : A → H → Option R} (hn : 2 ≤ n) (s : Nat) (hs : s < 65536) (hL : 2 ^ 60 ≤ L) : kCall env (evCall env L n) hq 74 [.d (.int .i64 (s : Nat))] k = k (.d (.ivs (memG s s).length (ints (memG s s)))) hq :=
  kCall_still rfl (ev_i_members hn s hs hL) rfl (.inr rfl)

/-! ### a visit -/

theorem loop_visA {R : Type} {L n : Nat} (hn : 3 ≤ n) (hL : 2 ^ 60 ≤ L) {I : Int → Prop} {gf : FuncId} {caps : List D} {size : Nat} {p l : Int} {ns : List Int} {sc : List D} {se sg sn : Nat} (kc_g : ∀ {R : Type} {n : Nat} {hq : H} {k : A → H → Option R} (x : Int), 2 ≤ n → I x → kCall env (evCall env L n) hq gf (.d (.int .i64 x) :: caps.map A.d) k = k (.d (.bool false)) hq) (hI : ∀ x ∈ ns, I x) (hr : ∀ x, I x → 0 ≤ x ∧ x < size) (hsz : size ≤ 4294967296) (hnl : ns.length ≤ 4294967290) {k : Exit → List A → H → Option R} : ∀ (j i m : Nat) (seen : List Bool) (f : List Int) (len : Nat) (hi : i + j = ns.length) (hm : j < m) (hs : seen.length = size) (hf : f.length ≤ i) (hlen : len = f.length),
    kLoop env (evCall env L n) L (5) [0, 0, 0, 0, 0, 0, 0, 0, 0, 0, 2] (true :: true :: false :: true :: true :: true :: false :: false :: false :: true :: true :: true :: false :: false :: true :: true :: true :: false :: false :: false :: false :: false :: false :: false :: false :: false :: false :: false :: false :: false :: false :: false :: false :: false :: false :: false :: false :: false :: false :: false :: false :: false :: false :: false :: false :: false :: false :: false :: false :: false :: []) (lp_i_firstPath_c1 0) (false :: false :: true :: false :: false :: false :: true :: true :: true :: false :: false :: false :: true :: true :: false :: false :: false :: true :: true :: true :: true :: true :: true :: true :: true :: true :: true :: true :: true :: true :: true :: true :: true :: true :: true :: true :: true :: true :: true :: true :: true :: true :: true :: true :: true :: true :: true :: true :: true :: true :: []) m (.d (.int .i64 p) :: .d (.int .i64 l) :: .junk :: .ptr 0 0 0 :: .ptr 1 0 0 :: .ptr 2 0 0 :: .junk :: .junk :: .junk :: .d (.bool false) :: .sl 5 0 0 len :: .d (.bool false) :: .junk :: .junk :: .d (.ivs ns.length (ints ns)) :: .d (.int .i64 (ns.length)) :: .d (.int .i64 ((i : Int))) :: .junk :: .junk :: .junk :: .junk :: .junk :: .junk :: .junk :: .junk :: .junk :: .junk :: .junk :: .junk :: .junk :: .junk :: .junk :: .junk :: .junk :: .junk :: .junk :: .junk :: .junk :: .junk :: .junk :: .junk :: .junk :: .junk :: .junk :: .junk :: .junk :: .junk :: .junk :: .junk :: .junk :: []) [.box [.sl 3 0 0 size], .box [.d (.fn gf caps)], .box [.sl 4 sg 0 sn], .arr (boolC seen) 1 0, .arr sc se sg, .arr (ints f) 1 0] k
    = k (.exit 0) (.d (.int .i64 p) :: .d (.int .i64 l) :: .junk :: .ptr 0 0 0 :: .ptr 1 0 0 :: .ptr 2 0 0 :: .junk :: .junk :: .junk :: .d (.bool false) :: .sl 5 0 0 (visF (ns.drop i) seen f).2.length :: .d (.bool false) :: .junk :: .junk :: .d (.ivs ns.length (ints ns)) :: .d (.int .i64 (ns.length)) :: .d (.int .i64 (ns.length)) :: .junk :: .junk :: .junk :: .junk :: .junk :: .junk :: .junk :: .junk :: .junk :: .junk :: .junk :: .junk :: .junk :: .junk :: .junk :: .junk :: .junk :: .junk :: .junk :: .junk :: .junk :: .junk :: .junk :: .junk :: .junk :: .junk :: .junk :: .junk :: .junk :: .junk :: .junk :: .junk :: .junk :: []) [.box [.sl 3 0 0 size], .box [.d (.fn gf caps)], .box [.sl 4 sg 0 sn], .arr (boolC (visF (ns.drop i) seen f).1) 1 0, .arr sc se sg, .arr (ints (visF (ns.drop i) seen f).2) 1 0] := by
  intro j
  induction j with
  | zero =>
    intro i m seen f len hi hm hs hf hlen
    obtain ⟨m, rfl⟩ : ∃ q, m = q + 1 := ⟨m - 1, by omega⟩
    obtain rfl : i = ns.length := by omega
    subst hlen
    rw [step_i_firstPath_c1_0]
    simp only [S_i_firstPath_c1_0, Tryd.f96, SLM, simprocAttr]
    simp -implicitDefEqProofs (maxSteps := 2000000) (disch := first | assumption | (refine Shut.mk ?_; kernel_rfl) | omega | (simp only [GT]; done) | (simp only [LN] <;> omega) | fail) only [↓WD, ↓kAsg, ↓kRet, ↓clash_free, ↓WDD, ↓kOpD_callv, WK, UN, TY, LB, MD, i64_id, simprocAttr, ↓CV, PE, ag_fb, Int.lt_irrefl]
    simp only [List.drop_length, visF]
  | succ j ih =>
    intro i m seen f len hi hm hs hf hlen
    obtain ⟨m, rfl⟩ : ∃ q, m = q + 1 := ⟨m - 1, by omega⟩
    subst hlen
    have hc : (i : Int) < ns.length := by omega
    have hk : i < ns.length := by omega
    have hmem : ns.getD i 0 ∈ ns := by rw [List.getD_eq_getElem?_getD, List.getElem?_eq_getElem hk]; exact List.getElem_mem hk
    have hIx := hI _ hmem
    obtain ⟨b1, b2⟩ := hr _ hIx
    have b3 : (ns.getD i 0).toNat < seen.length := by omega
    have e4 : ((i + 1 : Nat) : Int) = (i : Int) + 1 := by omega
    rw [drop_go hk (d := 0)]
    cases hb : seen.getD (ns.getD i 0).toNat false with
    | true =>
      have ih' := ih (i + 1) m seen f f.length (by omega) (by omega) hs (by omega) rfl
      rw [e4] at ih'
      clear ih hmem
      rw [step_i_firstPath_c1_0]
      simp only [S_i_firstPath_c1_0, Tryd.f96, SLM, simprocAttr]
      simp -implicitDefEqProofs (maxSteps := 2000000) (disch := first | assumption | (refine Shut.mk ?_; kernel_rfl) | omega | (simp only [GT]; done) | (simp only [LN] <;> omega) | fail) only [↓WD, ↓kAsg, ↓kRet, ↓clash_free, ↓WDD, ↓kOpD_callv, WK, UN, TY, LB, MD, i64_id, simprocAttr, ↓CV, PE, ag_fb, hc, b1, b2, hb, Int.toNat_natCast, ↓ih']
      simp only [visF, hb, if_true]
    | false =>
      have ih' := ih (i + 1) m (seen.set (ns.getD i 0).toNat true) (f ++ [ns.getD i 0]) (f.length + 1) (by omega) (by omega) (by simp [hs]) (by simp; omega) (by simp)
      rw [e4] at ih'
      clear ih hmem
      rw [step_i_firstPath_c1_0]
      simp only [S_i_firstPath_c1_0, Tryd.f96, SLM, simprocAttr]
      simp -implicitDefEqProofs (maxSteps := 2000000) (disch := first | assumption | (refine Shut.mk ?_; kernel_rfl) | omega | (simp only [GT]; done) | (simp only [LN] <;> omega) | fail) only [↓WD, ↓kAsg, ↓kRet, ↓clash_free, ↓WDD, ↓kOpD_callv, WK, UN, TY, LB, MD, i64_id, simprocAttr, ↓CV, PE, ag_fb, hc, b1, b2, hb, Int.toNat_natCast, ↓st_boolC3, ↓kc_g, ints_take, ints_snoc, List.length_append, ↓ih']
      simp only [visF, hb, Bool.false_eq_true, if_false]

theorem loop_visB {R : Type} {L n : Nat} (hn : 3 ≤ n) (hL : 2 ^ 60 ≤ L) {I : Int → Prop} {gf : FuncId} {caps : List D} {size : Nat} {p l : Int} {ns : List Int} {sc : List D} {se sg sn : Nat} (kc_g : ∀ {R : Type} {n : Nat} {hq : H} {k : A → H → Option R} (x : Int), 2 ≤ n → I x → kCall env (evCall env L n) hq gf (.d (.int .i64 x) :: caps.map A.d) k = k (.d (.bool false)) hq) (hI : ∀ x ∈ ns, I x) (hr : ∀ x, I x → 0 ≤ x ∧ x < size) (hsz : size ≤ 4294967296) (hnl : ns.length ≤ 4294967290) {k : Exit → List A → H → Option R} : ∀ (j i m : Nat) (seen : List Bool) (f : List Int) (len : Nat) (hi : i + j = ns.length) (hm : j < m) (hs : seen.length = size) (hf : f.length ≤ i) (hlen : len = f.length),
    kLoop env (evCall env L n) L (6) [0, 0, 0, 0, 0, 0, 0, 0, 0, 0, 2] (true :: true :: false :: true :: true :: true :: false :: false :: false :: true :: true :: true :: false :: false :: true :: true :: true :: false :: false :: false :: false :: false :: false :: false :: false :: false :: false :: false :: false :: false :: false :: false :: false :: false :: false :: false :: false :: false :: false :: false :: false :: false :: false :: false :: false :: false :: false :: false :: false :: false :: []) (lp_i_firstPath_c1 0) (false :: false :: true :: false :: false :: false :: true :: true :: true :: false :: false :: false :: true :: true :: false :: false :: false :: true :: true :: true :: true :: true :: true :: true :: true :: true :: true :: true :: true :: true :: true :: true :: true :: true :: true :: true :: true :: true :: true :: true :: true :: true :: true :: true :: true :: true :: true :: true :: true :: true :: []) m (.d (.int .i64 p) :: .d (.int .i64 l) :: .junk :: .ptr 0 0 0 :: .ptr 1 0 0 :: .ptr 2 0 0 :: .junk :: .junk :: .junk :: .d (.bool false) :: .sl 6 0 0 len :: .d (.bool false) :: .junk :: .junk :: .sl 3 0 0 ns.length :: .d (.int .i64 (ns.length)) :: .d (.int .i64 ((i : Int))) :: .junk :: .junk :: .junk :: .junk :: .junk :: .junk :: .junk :: .junk :: .junk :: .junk :: .junk :: .junk :: .junk :: .junk :: .junk :: .junk :: .junk :: .junk :: .junk :: .junk :: .junk :: .junk :: .junk :: .junk :: .junk :: .junk :: .junk :: .junk :: .junk :: .junk :: .junk :: .junk :: .junk :: []) [.box [.sl 4 0 0 size], .box [.d (.fn gf caps)], .box [.sl 5 sg 0 sn], .arr (ints ns) 1 0, .arr (boolC seen) 1 0, .arr sc se sg, .arr (ints f) 1 0] k
    = k (.exit 0) (.d (.int .i64 p) :: .d (.int .i64 l) :: .junk :: .ptr 0 0 0 :: .ptr 1 0 0 :: .ptr 2 0 0 :: .junk :: .junk :: .junk :: .d (.bool false) :: .sl 6 0 0 (visF (ns.drop i) seen f).2.length :: .d (.bool false) :: .junk :: .junk :: .sl 3 0 0 ns.length :: .d (.int .i64 (ns.length)) :: .d (.int .i64 (ns.length)) :: .junk :: .junk :: .junk :: .junk :: .junk :: .junk :: .junk :: .junk :: .junk :: .junk :: .junk :: .junk :: .junk :: .junk :: .junk :: .junk :: .junk :: .junk :: .junk :: .junk :: .junk :: .junk :: .junk :: .junk :: .junk :: .junk :: .junk :: .junk :: .junk :: .junk :: .junk :: .junk :: .junk :: []) [.box [.sl 4 0 0 size], .box [.d (.fn gf caps)], .box [.sl 5 sg 0 sn], .arr (ints ns) 1 0, .arr (boolC (visF (ns.drop i) seen f).1) 1 0, .arr sc se sg, .arr (ints (visF (ns.drop i) seen f).2) 1 0] := by
  intro j
  induction j with
  | zero =>
    intro i m seen f len hi hm hs hf hlen
    obtain ⟨m, rfl⟩ : ∃ q, m = q + 1 := ⟨m - 1, by omega⟩
    obtain rfl : i = ns.length := by omega
    subst hlen
    rw [step_i_firstPath_c1_0]
    simp only [S_i_firstPath_c1_0, Tryd.f96, SLM, simprocAttr]
    simp -implicitDefEqProofs (maxSteps := 2000000) (disch := first | assumption | (refine Shut.mk ?_; kernel_rfl) | omega | (simp only [GT]; done) | (simp only [LN] <;> omega) | fail) only [↓WD, ↓kAsg, ↓kRet, ↓clash_free, ↓WDD, ↓kOpD_callv, WK, UN, TY, LB, MD, i64_id, simprocAttr, ↓CV, PE, ag_fb, Int.lt_irrefl]
    simp only [List.drop_length, visF]
  | succ j ih =>
    intro i m seen f len hi hm hs hf hlen
    obtain ⟨m, rfl⟩ : ∃ q, m = q + 1 := ⟨m - 1, by omega⟩
    subst hlen
    have hc : (i : Int) < ns.length := by omega
    have hk : i < ns.length := by omega
    have hmem : ns.getD i 0 ∈ ns := by rw [List.getD_eq_getElem?_getD, List.getElem?_eq_getElem hk]; exact List.getElem_mem hk
    have hIx := hI _ hmem
    obtain ⟨b1, b2⟩ := hr _ hIx
    have b3 : (ns.getD i 0).toNat < seen.length := by omega
    have e4 : ((i + 1 : Nat) : Int) = (i : Int) + 1 := by omega
    rw [drop_go hk (d := 0)]
    cases hb : seen.getD (ns.getD i 0).toNat false with
    | true =>
      have ih' := ih (i + 1) m seen f f.length (by omega) (by omega) hs (by omega) rfl
      rw [e4] at ih'
      clear ih hmem
      rw [step_i_firstPath_c1_0]
      simp only [S_i_firstPath_c1_0, Tryd.f96, SLM, simprocAttr]
      simp -implicitDefEqProofs (maxSteps := 2000000) (disch := first | assumption | (refine Shut.mk ?_; kernel_rfl) | omega | (simp only [GT]; done) | (simp only [LN] <;> omega) | fail) only [↓WD, ↓kAsg, ↓kRet, ↓clash_free, ↓WDD, ↓kOpD_callv, WK, UN, TY, LB, MD, i64_id, simprocAttr, ↓CV, PE, ag_fb, hc, b1, b2, hb, Int.toNat_natCast, ↓ih']
      simp only [visF, hb, if_true]
    | false =>
      have ih' := ih (i + 1) m (seen.set (ns.getD i 0).toNat true) (f ++ [ns.getD i 0]) (f.length + 1) (by omega) (by omega) (by simp [hs]) (by simp; omega) (by simp)
      rw [e4] at ih'
      clear ih hmem
      rw [step_i_firstPath_c1_0]
      simp only [S_i_firstPath_c1_0, Tryd.f96, SLM, simprocAttr]
      simp -implicitDefEqProofs (maxSteps := 2000000) (disch := first | assumption | (refine Shut.mk ?_; kernel_rfl) | omega | (simp only [GT]; done) | (simp only [LN] <;> omega) | fail) only [↓WD, ↓kAsg, ↓kRet, ↓clash_free, ↓WDD, ↓kOpD_callv, WK, UN, TY, LB, MD, i64_id, simprocAttr, ↓CV, PE, ag_fb, hc, b1, b2, hb, Int.toNat_natCast, ↓st_boolC4, ↓kc_g, ints_take, ints_snoc, List.length_append, ↓ih']
      simp only [visF, hb, Bool.false_eq_true, if_false]

theorem ev_visA {L n : Nat} (hn : 4 ≤ n) (hL : 2 ^ 60 ≤ L) {I : Int → Prop} {gf : FuncId} {caps : List D} {size : Nat} {p l : Int} {ns : List Int} (kc_g : ∀ {R : Type} {n : Nat} {hq : H} {k : A → H → Option R} (x : Int), 2 ≤ n → I x → kCall env (evCall env L n) hq gf (.d (.int .i64 x) :: caps.map A.d) k = k (.d (.bool false)) hq) (hI : ∀ x ∈ ns, I x) (hr : ∀ x, I x → 0 ≤ x ∧ x < size) (hsz : size ≤ 4294967290) (hnl : ns.length ≤ 4294967290) (seen : List Bool) (hs : seen.length = size) (r : List Bool × List Int) (he : visF ns seen [] = r) (hpos : (0 : Int) < r.2.length) :
    evCall env L n 96 [.d (.int .i64 p), .d (.int .i64 l), .d (.ivs ns.length (ints ns)), .ptr 0 0 0, .ptr 1 0 0, .ptr 2 0 0] [.box [.sl 3 0 0 size], .box [.d (.fn gf caps)], .box [.sl 4 0 0 0], .arr (boolC seen) 1 0, .arr [] 0 0]
    = some (.d (.bool false), [.box [.sl 3 0 0 size], .box [.d (.fn gf caps)], .box [.sl 4 1 0 1], .arr (boolC r.1) 1 0, .arr (stepsD [⟨p, l, r.2⟩]) 3 1]) := by
  have loop_c := fun {R : Type} {n : Nat} (hn : 3 ≤ n) {k : Exit → List A → H → Option R} => @loop_visA R L n hn hL I gf caps size p l ns [] 0 0 0 (fun {R n hq k} => kc_g) hI hr (by omega) hnl k ns.length 0 L seen [] 0 (by omega) (by omega) hs (by simp) rfl
  simp only [List.drop_zero, he, ints_nil, Int.natCast_zero] at loop_c
  have hb : r.2.length ≤ size := by
    have h1 := visF_cnt ns seen [] fun x hx => by rw [hs]; exact hr x (hI x hx)
    have h2 := unseen_le seen
    rw [he] at h1
    simp only [List.length_nil, Nat.zero_add] at h1
    omega
  have et : (ints r.2).take r.2.length = ints r.2 := ints_take (Nat.le_refl _)
  obtain ⟨n, rfl⟩ : ∃ m, n = m + 1 := ⟨n - 1, by omega⟩
  rw [fn_i_firstPath_c1]
  simp only [S_i_firstPath_c1, Tryd.f96, SLM, simprocAttr]
  simp -implicitDefEqProofs (maxSteps := 2000000) (disch := first | assumption | (refine Shut.mk ?_; kernel_rfl) | omega | (simp only [GT]; done) | (simp only [LN] <;> omega) | fail) only [↓WD, ↓kAsg, ↓kRet, ↓clash_free, ↓WDD, ↓kOpD_callv, WK, UN, TY, LB, MD, i64_id, simprocAttr, ↓CV, PE, ↓loop_c, hpos, et]
  rfl

theorem ev_visB {L n : Nat} (hn : 4 ≤ n) (hL : 2 ^ 60 ≤ L) {I : Int → Prop} {gf : FuncId} {caps : List D} {size : Nat} {p l : Int} {ns : List Int} (kc_g : ∀ {R : Type} {n : Nat} {hq : H} {k : A → H → Option R} (x : Int), 2 ≤ n → I x → kCall env (evCall env L n) hq gf (.d (.int .i64 x) :: caps.map A.d) k = k (.d (.bool false)) hq) (hI : ∀ x ∈ ns, I x) (hr : ∀ x, I x → 0 ≤ x ∧ x < size) (hsz : size ≤ 4294967290) (hnl : ns.length ≤ 4294967290) (seen : List Bool) (hs : seen.length = size) (st : List PStep) (hst : st.length ≤ 4294967290) (r : List Bool × List Int) (he : visF ns seen [] = r) :
    evCall env L n 96 [.d (.int .i64 p), .d (.int .i64 l), .sl 3 0 0 ns.length, .ptr 0 0 0, .ptr 1 0 0, .ptr 2 0 0] [.box [.sl 4 0 0 size], .box [.d (.fn gf caps)], .box [.sl 5 0 0 st.length], .arr (ints ns) 1 0, .arr (boolC seen) 1 0, .arr (stepsD st) 3 0]
    = some (.d (.bool false), [.box [.sl 4 0 0 size], .box [.d (.fn gf caps)], .box [.sl 5 (if r.2 = [] then 0 else 1) 0 (addP st p l r.2).length], .arr (ints ns) 1 0, .arr (boolC r.1) 1 0, .arr (stepsD (addP st p l r.2)) 3 (if r.2 = [] then 0 else 1)]) := by
  have loop_c := fun {R : Type} {n : Nat} (hn : 3 ≤ n) {k : Exit → List A → H → Option R} => @loop_visB R L n hn hL I gf caps size p l ns (stepsD st) 3 0 st.length (fun {R n hq k} => kc_g) hI hr (by omega) hnl k ns.length 0 L seen [] 0 (by omega) (by omega) hs (by simp) rfl
  simp only [List.drop_zero, he, ints_nil, Int.natCast_zero] at loop_c
  have hb : r.2.length ≤ size := by
    have h1 := visF_cnt ns seen [] fun x hx => by rw [hs]; exact hr x (hI x hx)
    have h2 := unseen_le seen
    rw [he] at h1
    simp only [List.length_nil, Nat.zero_add] at h1
    omega
  have et : (ints r.2).take r.2.length = ints r.2 := ints_take (Nat.le_refl _)
  have es : (stepsD st).take (st.length * 3) = stepsD st := steps_take (Nat.le_refl _)
  unfold addP
  by_cases hf : r.2 = []
  · rw [if_pos hf, if_pos hf]
    have hz : r.2.length = 0 := by rw [hf]; rfl
    rw [hz] at loop_c
    obtain ⟨n, rfl⟩ : ∃ m, n = m + 1 := ⟨n - 1, by omega⟩
    rw [fn_i_firstPath_c1]
    simp only [S_i_firstPath_c1, Tryd.f96, SLM, simprocAttr]
    simp -implicitDefEqProofs (maxSteps := 2000000) (disch := first | assumption | (refine Shut.mk ?_; kernel_rfl) | omega | (simp only [GT]; done) | (simp only [LN] <;> omega) | fail) only [↓WD, ↓kAsg, ↓kRet, ↓clash_free, ↓WDD, ↓kOpD_callv, WK, UN, TY, LB, MD, i64_id, simprocAttr, ↓CV, PE, ↓loop_c, Int.natCast_zero, Int.lt_irrefl]
  · rw [if_neg hf, if_neg hf]
    have hpos : (0 : Int) < r.2.length := by have := List.length_pos_iff.2 hf; omega
    obtain ⟨n, rfl⟩ : ∃ m, n = m + 1 := ⟨n - 1, by omega⟩
    rw [fn_i_firstPath_c1]
    simp only [S_i_firstPath_c1, Tryd.f96, SLM, simprocAttr]
    simp -implicitDefEqProofs (maxSteps := 2000000) (disch := first | assumption | (refine Shut.mk ?_; kernel_rfl) | omega | (simp only [GT]; done) | (simp only [LN] <;> omega) | fail) only [↓WD, ↓kAsg, ↓kRet, ↓clash_free, ↓WDD, ↓kOpD_callv, WK, UN, TY, LB, MD, i64_id, simprocAttr, ↓CV, PE, ↓loop_c, hpos, et, es, steps_snoc, List.length_append]

end Ev
end Go.Proofs.YtojaohcpgelhmaaDoor
