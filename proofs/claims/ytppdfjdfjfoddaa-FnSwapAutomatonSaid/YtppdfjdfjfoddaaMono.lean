/-
  Automata that are drawn: a valid one.
-/
import Derived.Test.YtppdfjdfjfoddaaSafe
import Derived.Test.YtppdfjdfjfoddaaDraw2
import Derived.Test.YtppdfjdfjfoddaaEnvF
import Derived.Test.YtppdfjdfjfoddaaEvDef
section
set_option linter.unusedSimpArgs false
set_option linter.unusedVariables false
set_option maxRecDepth 8000
set_option pp.maxSteps 6000
set_option maxHeartbeats 4000000
namespace Go.Proofs.Ytppdfjdfjfoddaa
namespace Ev
theorem m_l3Safe : (env.hint 137).mode = 0 := by kernel_rfl
theorem m_l3Over : (env.hint 107).mode = 0 := by kernel_rfl
theorem xpe {c : List UInt8} (hc : c.length ≤ 2000) (al : Int) (p : Int) (hp : 0 ≤ p) (hp2 : p ≤ 900000000) :
  ∃ (nx : List (List Int)) (ac : List Bool) (q : Int), 1 ≤ nx.length ∧ nx.length ≤ 5 ∧ ac.length = nx.length ∧ (∀ r ∈ nx, r.length = (letters al).length) ∧ p ≤ q ∧ q ≤ p + 50 ∧ (∀ (R : Type) (L n : Nat) (hq : H) (k : A → H → Option R), 6 ≤ n → 2 ^ 60 ≤ L → kCall env (evCall env L n) (O.box [A.d (D.ivs c.length (bytesL c)), A.d (D.int .i64 p)] :: hq) 107 (.ptr 0 0 0 :: [.d (.int .i64 al)]) k = k (autD al nx ac) (O.box [A.d (D.ivs c.length (bytesL c)), A.d (D.int .i64 q)] :: hq)) := by
 obtain ⟨v, v0, v1, _, kd1⟩ := x35 hc p 2 hp (by omega)
 by_cases h1 : v = 0
 ·subst h1
  obtain ⟨w, hw, kd2⟩ := x8x hc [3, 2, 4, 1] (by simp) (by simp) (p + 1) (by omega) (by omega)
  have hw1 : 1 ≤ w ∧ w ≤ 4 := by simp at hw; omega
  obtain ⟨nx, ac, q, g1, g2, g3, g4, g5, he⟩ := xoi hc al w (s := w.toNat) (by omega) (by omega) (by omega) (p + 1 + 1) (by omega) (by omega)
  have kd3 := fun {R : Type} {L n : Nat} {hq : H} {k : A → H → Option R} (hn : 4 ≤ n) (hL : 2 ^ 60 ≤ L) => kCall_rd (R := R) (h := hq) (k := k) m_l3Safe (by simp [idsL, idsA]) (by simp [autD, idsA, idsL]) (he L n hn hL)
  simp only [ints, List.map_cons, List.map_nil, List.length_cons, List.length_nil, Nat.zero_add, Nat.reduceAdd] at kd2
  refine ⟨nx, ac, q, by omega, by omega, by omega, g3, by omega, by omega, fun R L n hq k hn hL => kCall_rd m_l3Over (by simp [idsL, idsA]) (by simp [autD, idsA, idsL]) ?_⟩
  unfold autD at kd3 ⊢
  clear he g3
  obtain ⟨n, rfl⟩ : ∃ m, n = m + 1 := ⟨n - 1, by omega⟩
  rw [xkg]
  simp only [xha, Try.f107, SLM, simprocAttr]
  simp -implicitDefEqProofs (maxSteps := 2000000) (disch := first | assumption | (refine Shut.mk ?_; kernel_rfl) | omega | (simp only [GT]; done) | (simp only [LN] <;> omega) | fail) only [↓DN, ↓kAsg, ↓kRet, UP, simprocAttr, LA, ↓kd1, ↓kd2, ↓kd3]
 ·obtain ⟨w, hw, kd2⟩ := x8x hc [2, 3, 1, 4, 5] (by simp) (by simp) (p + 1) (by omega) (by omega)
  have hw1 : 1 ≤ w ∧ w ≤ 5 := by simp at hw; omega
  obtain ⟨nx, ac, q, g1, g2, g3, g4, g5, he⟩ := xhl hc al w (s := w.toNat) (by omega) (by omega) (by omega) (p + 1 + 1) (by omega) (by omega)
  have kd3 := fun {R : Type} {L n : Nat} {hq : H} {k : A → H → Option R} (hn : 3 ≤ n) (hL : 2 ^ 60 ≤ L) => kd_l3Random (R := R) (L := L) (n := n) (hq := hq) (k := k) hn hL he
  simp only [ints, List.map_cons, List.map_nil, List.length_cons, List.length_nil, Nat.zero_add, Nat.reduceAdd] at kd2
  simp only [autA, autO] at kd3
  refine ⟨nx, ac, q, by omega, by omega, by omega, g3, by omega, by omega, fun R L n hq k hn hL => kCall_rd m_l3Over (by simp [idsL, idsA]) (by simp [autD, idsA, idsL]) ?_⟩
  have hH : Has (O.box [A.d (D.ivs c.length (bytesL c)), A.d (D.int .i64 q)] :: .arr [] 0 0 :: .arr [] 0 0 :: .box [.d (.int .i64 al), .sl 5 0 0 nx.length, .sl 6 0 0 ac.length] :: .arr [.int .i64 2, .int .i64 3, .int .i64 1, .int .i64 4, .int .i64 5] 1 0 :: .vec (refsV 7 nx ++ nilsA 0) 1 0 :: .arr (bools ac) 1 0 :: rowsO nx) 5 nx ac := by
   have := has_at2 (h := [O.box [A.d (D.ivs c.length (bytesL c)), A.d (D.int .i64 q)], .arr [] 0 0, .arr [] 0 0, .box [.d (.int .i64 al), .sl 5 0 0 nx.length, .sl 6 0 0 ac.length], .arr [.int .i64 2, .int .i64 3, .int .i64 1, .int .i64 4, .int .i64 5] 1 0]) (v := 5) (rs := nx) (ac := ac) (p := []) rfl
   simpa using this
  obtain ⟨h2, st_out, st_keep, st_trim⟩ := fin_aut (n := nx.length) (m := ac.length) (al := al) hH (by omega) rfl rfl
  unfold autD at st_out ⊢
  clear he g3 hH
  obtain ⟨n, rfl⟩ : ∃ m, n = m + 1 := ⟨n - 1, by omega⟩
  rw [xkg]
  simp only [xha, Try.f107, SLM, simprocAttr]
  simp -implicitDefEqProofs (maxSteps := 2000000) (disch := first | assumption | (refine Shut.mk ?_; kernel_rfl) | omega | (simp only [GT]; done) | (simp only [LN] <;> omega) | fail) only [↓DN, ↓kAsg, ↓kRet, UP, simprocAttr, LA, h1, ↓kd1, ↓kd2, ↓kd3, ↓st_out, ↓st_keep, ↓st_trim]
end Ev
end Go.Proofs.Ytppdfjdfjfoddaa
end

/-!
  The texts of automata, parsed by the reference: worked out by the kernel.
-/
section
set_option maxRecDepth 1000000
namespace Go.Proofs.Ytppdfjdfjfoddaa
namespace Ev
def intsB : Nat → List D → Bool
 | 0, [] => true
 | n + 1, .int .i64 _ :: ds => intsB n ds
 | _, _ => false
def rowsB (w : Nat) : Nat → List D → Bool
 | 0, [] => true
 | n + 1, .ivs k cs :: ds => intsB k cs && (k == w) && rowsB w n ds
 | _, _ => false
def boolsB : Nat → List D → Bool
 | 0, [] => true
 | n + 1, .bool _ :: ds => boolsB n ds
 | _, _ => false
def autShape : Option (A × H) → Bool
 | some (.tup [.agg [.d (.int .i64 al), .d (.ivs n rs), .d (.ivs m bs)], .d (.bool true)], []) => rowsB (letters al).length n rs && boolsB m bs && (m == n) && decide (1 ≤ n ∧ n ≤ 12)
 | _ => false
def texts3 : List (List UInt8) := [[97, 98, 32, 43, 49, 44, 48, 32, 45, 49, 44, 49], [97, 98, 32, 43, 48, 44, 49, 32, 43, 50, 44, 49, 32, 45, 50, 44, 50], [97, 99, 32, 43, 49, 44, 50, 32, 43, 49, 44, 50, 32, 45, 50, 44, 50], [98, 32, 43, 49, 32, 45, 49], [97, 98, 99, 32, 43, 49, 44, 48, 44, 50, 32, 43, 50, 44, 48, 44, 49, 32, 45, 50, 44, 50, 44, 50], [45, 32, 43], [45, 32, 45], [97, 32, 43, 49, 32, 45, 48], [97, 98, 32, 43, 48, 44, 49, 32, 45, 48, 44, 49], [98, 99, 32, 43, 49, 44, 50, 32, 43, 50, 44, 48, 32, 45, 50, 44, 50], [97, 98, 32, 43, 49, 44, 50, 32, 45, 49, 44, 51, 32, 43, 52, 44, 50, 32, 45, 49, 44, 51, 32, 43, 52, 44, 50], [97, 98, 99, 32, 43, 48, 44, 49, 44, 48, 32, 43, 48, 44, 49, 44, 50, 32, 45, 50, 44, 50, 44, 50]]
end Ev
end Go.Proofs.Ytppdfjdfjfoddaa
end

/-!
  Texts of automata, parsed by the reference: worked out by the kernel (part 1).
-/
section
set_option maxRecDepth 1000000
namespace Go.Proofs.Ytppdfjdfjfoddaa
namespace Ev
theorem text3_10 : autShape (evCall env 3000 12 104 [.d (.str [97, 98, 32, 43, 49, 44, 50, 32, 45, 49, 44, 51, 32, 43, 52, 44, 50, 32, 45, 49, 44, 51, 32, 43, 52, 44, 50])] []) = true := by kernel_rfl
theorem text3_6 : autShape (evCall env 3000 12 104 [.d (.str [45, 32, 45])] []) = true := by kernel_rfl
end Ev
end Go.Proofs.Ytppdfjdfjfoddaa
end

/-!
  Texts of automata, parsed by the reference: worked out by the kernel (part 2).
-/
section
set_option maxRecDepth 1000000
namespace Go.Proofs.Ytppdfjdfjfoddaa
namespace Ev
theorem text3_4 : autShape (evCall env 3000 12 104 [.d (.str [97, 98, 99, 32, 43, 49, 44, 48, 44, 50, 32, 43, 50, 44, 48, 44, 49, 32, 45, 50, 44, 50, 44, 50])] []) = true := by kernel_rfl
theorem text3_5 : autShape (evCall env 3000 12 104 [.d (.str [45, 32, 43])] []) = true := by kernel_rfl
end Ev
end Go.Proofs.Ytppdfjdfjfoddaa
end

/-!
  Texts of automata, parsed by the reference: worked out by the kernel (part 3).
-/
section
set_option maxRecDepth 1000000
namespace Go.Proofs.Ytppdfjdfjfoddaa
namespace Ev
theorem text3_11 : autShape (evCall env 3000 12 104 [.d (.str [97, 98, 99, 32, 43, 48, 44, 49, 44, 48, 32, 43, 48, 44, 49, 44, 50, 32, 45, 50, 44, 50, 44, 50])] []) = true := by kernel_rfl
theorem text3_7 : autShape (evCall env 3000 12 104 [.d (.str [97, 32, 43, 49, 32, 45, 48])] []) = true := by kernel_rfl
end Ev
end Go.Proofs.Ytppdfjdfjfoddaa
end

/-!
  Texts of automata, parsed by the reference: worked out by the kernel (part 4).
-/
section
set_option maxRecDepth 1000000
namespace Go.Proofs.Ytppdfjdfjfoddaa
namespace Ev
theorem text3_1 : autShape (evCall env 3000 12 104 [.d (.str [97, 98, 32, 43, 48, 44, 49, 32, 43, 50, 44, 49, 32, 45, 50, 44, 50])] []) = true := by kernel_rfl
theorem text3_3 : autShape (evCall env 3000 12 104 [.d (.str [98, 32, 43, 49, 32, 45, 49])] []) = true := by kernel_rfl
end Ev
end Go.Proofs.Ytppdfjdfjfoddaa
end

/-!
  Texts of automata, parsed by the reference: worked out by the kernel (part 5).
-/
section
set_option maxRecDepth 1000000
namespace Go.Proofs.Ytppdfjdfjfoddaa
namespace Ev
theorem text3_2 : autShape (evCall env 3000 12 104 [.d (.str [97, 99, 32, 43, 49, 44, 50, 32, 43, 49, 44, 50, 32, 45, 50, 44, 50])] []) = true := by kernel_rfl
theorem text3_8 : autShape (evCall env 3000 12 104 [.d (.str [97, 98, 32, 43, 48, 44, 49, 32, 45, 48, 44, 49])] []) = true := by kernel_rfl
end Ev
end Go.Proofs.Ytppdfjdfjfoddaa
end

/-!
  Texts of automata, parsed by the reference: worked out by the kernel (part 6).
-/
section
set_option maxRecDepth 1000000
namespace Go.Proofs.Ytppdfjdfjfoddaa
namespace Ev
theorem text3_9 : autShape (evCall env 3000 12 104 [.d (.str [98, 99, 32, 43, 49, 44, 50, 32, 43, 50, 44, 48, 32, 45, 50, 44, 50])] []) = true := by kernel_rfl
theorem text3_0 : autShape (evCall env 3000 12 104 [.d (.str [97, 98, 32, 43, 49, 44, 48, 32, 45, 49, 44, 49])] []) = true := by kernel_rfl
end Ev
end Go.Proofs.Ytppdfjdfjfoddaa
end

/-!
  All texts of automata are parsed.
-/
section
set_option maxRecDepth 1000000
namespace Go.Proofs.Ytppdfjdfjfoddaa
namespace Ev
theorem text3_all : ∀ t ∈ texts3, autShape (evCall env 3000 12 104 [.d (.str t)] []) = true := by
 intro t ht
 simp only [texts3, List.mem_cons, List.not_mem_nil, or_false] at ht
 rcases ht with rfl | rfl | rfl | rfl | rfl | rfl | rfl | rfl | rfl | rfl | rfl | rfl
 ·exact text3_0
 ·exact text3_1
 ·exact text3_2
 ·exact text3_3
 ·exact text3_4
 ·exact text3_5
 ·exact text3_6
 ·exact text3_7
 ·exact text3_8
 ·exact text3_9
 ·exact text3_10
 ·exact text3_11
end Ev
end Go.Proofs.Ytppdfjdfjfoddaa
end

/-!
  More rounds and deeper calls answer the same.
-/
section
set_option linter.unusedSimpArgs false
set_option linter.unusedVariables false
namespace Go.Proofs.Ytppdfjdfjfoddaa
namespace Ev
def More (c1 c2 : CallF) : Prop := ∀ f args h r, c1 f args h = some r → c2 f args h = some r
section
variable {E : Env} {c1 c2 : CallF} (hc : More c1 c2)
include hc
theorem aCall_more {hint : FuncId → Hint} {h : H} {f : FuncId} {args : List A} {r : A × H} (he : aCall c1 hint h f args = some r) : aCall c2 hint h f args = some r := by
 unfold aCall at he ⊢
 generalize (hint f).mode = m at *
 have key : ∀ (fs : List A) (g : Option (A × H) → Option (A × H)), g none = none → g (c1 f fs []) = some r → g (c2 f fs []) = some r := by
  intro fs g h0 h1
  cases h2 : c1 f fs [] with
  | none => rw [h2, h0] at h1; cases h1
  | some q => rw [h2] at h1; rw [hc _ _ _ _ h2]; exact h1
 match m with
 | 0 => exact hc _ _ _ _ he
 | 1 =>
  simp only at he ⊢
  cases hf : frzAs h args with
  | none => rw [hf] at he; cases he
  | some q => rw [hf] at he; exact key q.1 (fun o => match o with | some (r, []) => if plainA r then some (r, h) else none | _ => none) rfl he
 | 3 =>
  simp only at he ⊢
  cases hf : frzAs h args with
  | none => rw [hf] at he; cases he
  | some q => rw [hf] at he; exact key q.1 (fun o => match o with | some (r, h2) => if cleanA r && h2.all cleanO then some (mapA (back [] h.length h2.length) r, h ++ h2.map (mapO (back [] h.length h2.length))) else none | none => none) rfl he
 | 2 =>
  simp only at he ⊢
  cases hf : frzAs h args with
  | none => rw [hf] at he; cases he
  | some q => rw [hf] at he; exact key q.1 (fun o => match o with | some (r, []) => some (r, q.2) | some (r, h2) => some (mapA (back [] q.2.length h2.length) r, q.2 ++ h2.map (mapO (back [] q.2.length h2.length))) | none => none) rfl he
 | m + 4 =>
  simp only at he ⊢
  cases hf : frzAs h args with
  | none => rw [hf] at he; cases he
  | some q => rw [hf] at he; exact key q.1 (fun o => match o with | some (r, []) => some (r, q.2) | some (r, h2) => some (mapA (back [] q.2.length h2.length) r, q.2 ++ h2.map (mapO (back [] q.2.length h2.length))) | none => none) rfl he
theorem aCallee_more {hint : FuncId → Hint} {h : H} {c : A} {args : List A} {r : A × H} (he : aCallee c1 hint h c args = some r) : aCallee c2 hint h c args = some r := by
 unfold aCallee at he ⊢
 split at he
 ·exact aCall_more hc he
 ·exact aCall_more hc he
 ·cases he
theorem evCallee_more {h : H} {c : Callee} {tys : List TypeId} {vs : List A} {r : A × H} (he : evCallee E c1 h c tys vs = some r) : evCallee E c2 h c tys vs = some r := by
 unfold evCallee at he ⊢
 split at he
 ·split at he
  ·exact aCallee_more hc he
  ·cases he
 ·exact he
 ·cases he
theorem evOp_more {thaw : List Nat} {h : H} {o : Oper} {vs : List A} {r : A × H} (he : evOp E c1 thaw h o vs = some r) : evOp E c2 thaw h o vs = some r := by
 unfold evOp at he ⊢
 split at he <;> first | exact evCallee_more hc he | exact he
theorem evOpF_more {thaw : List Nat} {h : H} {o : Oper} {vs : List A} {r : A × H × List Nat × Nat} (he : evOpF E c1 thaw h o vs = some r) : evOpF E c2 thaw h o vs = some r := by
 unfold evOpF at he ⊢
 simp only at he ⊢
 split at he
 ·rename_i a h1 h2
  rw [evOp_more hc h2]
  exact he
 ·cases he
theorem evStep_more {thaw : List Nat} {ops : List Oper} {o : Oper} {s : List A} {h : H} {r : List A × H} (he : evStep E c1 thaw ops o s h = some r) : evStep E c2 thaw ops o s h = some r := by
 unfold evStep at he ⊢
 cases hw : aWant ops s o with
 | none => rw [hw] at he; cases he
 | some b =>
  rw [hw] at he
  cases b with
  | false => exact he
  | true =>
   simp only at he ⊢
   cases hv : aEvals s (opds o.op) with
   | none => rw [hv] at he; cases he
   | some vs =>
    rw [hv] at he
    simp only at he ⊢
    by_cases hi : isCall o.op = true
    ·rw [if_pos hi] at he ⊢
     cases hf : evOpF E c1 thaw h o vs with
     | none => rw [hf] at he; cases he
     | some q => rw [hf] at he; rw [evOpF_more hc hf]; exact he
    ·rw [if_neg hi] at he ⊢
     cases hf : evOp E c1 thaw h o vs with
     | none => rw [hf] at he; cases he
     | some q => rw [hf] at he; rw [evOp_more hc hf]; exact he
theorem evOps_more {thaw : List Nat} {ops : List Oper} : ∀ {os : List Oper} {s : List A} {h : H} {r : List A × H}, evOps E c1 thaw ops os s h = some r → evOps E c2 thaw ops os s h = some r
 | [], s, h, r, he => he
 | o :: os, s, h, r, he => by
  unfold evOps at he ⊢
  cases hs : evStep E c1 thaw ops o s h with
  | none => rw [hs] at he; cases he
  | some q => rw [hs] at he; rw [evStep_more hc hs]; exact evOps_more he
theorem evStepD_more {thaw : List Nat} {ops : List Oper} {o : Oper} {s : List A} {h : H} {r : List A × H × Foot} (he : evStepD E c1 thaw ops o s h = some r) : evStepD E c2 thaw ops o s h = some r := by
 unfold evStepD at he ⊢
 cases hw : aWant ops s o with
 | none => rw [hw] at he; cases he
 | some b =>
  rw [hw] at he
  cases b with
  | false => exact he
  | true =>
   simp only at he ⊢
   cases hv : aEvals s (opds o.op) with
   | none => rw [hv] at he; cases he
   | some vs =>
    rw [hv] at he
    simp only at he ⊢
    by_cases hi : pureOp o.op = true
    ·rw [if_pos hi] at he ⊢
     cases hf : evOp E c1 thaw h o vs with
     | none => rw [hf] at he; cases he
     | some q => rw [hf] at he; rw [evOp_more hc hf]; exact he
    ·rw [if_neg hi] at he ⊢
     by_cases hj : shallow o.op = true
     ·rw [if_pos hj] at he ⊢
      cases hf : evOp E c1 thaw h o vs with
      | none => rw [hf] at he; cases he
      | some q => rw [hf] at he; rw [evOp_more hc hf]; exact he
     rw [if_neg hj] at he ⊢
     cases hf : evOpF E c1 thaw h o vs with
     | none => rw [hf] at he; cases he
     | some q => rw [hf] at he; rw [evOpF_more hc hf]; exact he
theorem evOpsD_more {thaw : List Nat} {ops : List Oper} : ∀ {os : List Oper} {s : List A} {h : H} {r : List A × H × List Foot}, evOpsD E c1 thaw ops os s h = some r → evOpsD E c2 thaw ops os s h = some r
 | [], s, h, r, he => he
 | o :: os, s, h, r, he => by
  unfold evOpsD at he ⊢
  cases hs : evStepD E c1 thaw ops o s h with
  | none => rw [hs] at he; cases he
  | some q =>
   rw [hs] at he
   rw [evStepD_more hc hs]
   simp only at he ⊢
   cases h2 : evOpsD E c1 thaw ops os q.1 q.2.1 with
   | none => rw [h2] at he; cases he
   | some z => rw [h2] at he; rw [evOpsD_more h2]; exact he
theorem evRegion_more {thaw : List Nat} {ops : Array Oper} {draw : Bool} {s : List A} {h : H} {r : List A × H} (he : evRegion E c1 thaw ops draw s h = some r) : evRegion E c2 thaw ops draw s h = some r := by
 unfold evRegion at he ⊢
 by_cases hd : draw = true
 ·rw [if_pos hd] at he ⊢
  cases ho : evOpsD E c1 thaw ops.toList ops.toList s h with
  | none => rw [ho] at he; cases he
  | some q => rw [ho] at he; rw [evOpsD_more hc ho]; exact he
 ·rw [if_neg hd] at he ⊢
  exact evOps_more hc he
end
theorem evLoop_more {b1 b2 : List A → H → Option (Exit × List A × H)} (hb : ∀ s h r, b1 s h = some r → b2 s h = some r) {nf : Nat} {m : List Bool} : ∀ {n1 n2 : Nat} {s : List A} {h : H} {r : Exit × List A × H}, n1 ≤ n2 → evLoop b1 nf m n1 s h = some r → evLoop b2 nf m n2 s h = some r
 | 0, n2, s, h, r, _, he => by simp [evLoop] at he
 | n1 + 1, 0, s, h, r, hn, he => by omega
 | n1 + 1, n2 + 1, s, h, r, hn, he => by
  unfold evLoop at he ⊢
  cases hs : b1 s h with
  | none => rw [hs] at he; cases he
  | some q =>
   rw [hs] at he
   rw [hb _ _ _ hs]
   obtain ⟨e, s1, h1⟩ := q
   cases e with
   | normal => exact evLoop_more hb (by omega) he
   | _ => exact he
theorem evCode_more {E : Env} {c1 c2 : CallF} (hc : More c1 c2) {L1 L2 nf : Nat} (hL : L1 ≤ L2) {thaw : List Nat} {live : List Bool} : ∀ (c : Code) {s : List A} {h : H} {r : Exit × List A × H}, evCode E c1 L1 nf thaw live c s h = some r → evCode E c2 L2 nf thaw live c s h = some r := by
 intro c
 induction c with
 | region i ops draw =>
  intro s h r he
  unfold evCode at he ⊢
  cases hr : evRegion E c1 thaw ops draw s h with
  | none => rw [hr] at he; cases he
  | some q => rw [hr] at he; rw [evRegion_more hc hr]; exact he
 | seq a b iha ihb =>
  intro s h r he
  unfold evCode at he ⊢
  cases ha : evCode E c1 L1 nf thaw live a s h with
  | none => rw [ha] at he; cases he
  | some q =>
   rw [ha] at he
   rw [iha ha]
   obtain ⟨e, s1, h1⟩ := q
   cases e with
   | normal => exact ihb he
   | _ => exact he
 | cond x a b iha ihb =>
  intro s h r he
  unfold evCode at he ⊢
  cases hv : aEval s x with
  | none => rw [hv] at he; cases he
  | some v =>
   rw [hv] at he
   cases v with
   | d y =>
    cases y with
    | bool b =>
     cases b with
     | true => exact iha he
     | false => exact ihb he
    | _ => cases he
   | _ => cases he
 | block i a iha =>
  intro s h r he
  unfold evCode at he ⊢
  cases ha : evCode E c1 L1 nf thaw live a s h with
  | none => rw [ha] at he; cases he
  | some q => rw [ha] at he; rw [iha ha]; exact he
 | loop a iha =>
  intro s h r he
  unfold evCode at he ⊢
  exact evLoop_more (fun s h r => iha) hL he
 | _ => intro s h r he; simp only [evCode] at he ⊢; first | exact he | cases he
theorem evBody_more {E : Env} {c1 c2 : CallF} (hc : More c1 c2) {L1 L2 : Nat} (hL : L1 ≤ L2) {f : FuncId} {fn : Func} {c : Code} {args : List A} {h : H} {r : A × H} (he : evBody E c1 L1 f fn c args h = some r) : evBody E c2 L2 f fn c args h = some r := by
 unfold evBody at he ⊢
 split at he
 ·rename_i e s h1 hcd
  rw [evCode_more hc hL c hcd]
  exact he
 ·cases he
theorem evCall_more {E : Env} {L1 L2 : Nat} (hL : L1 ≤ L2) : ∀ {n1 n2 : Nat}, n1 ≤ n2 → More (evCall E L1 n1) (evCall E L2 n2)
 | 0, n2, _ => by intro f args h r he; simp [evCall] at he
 | n1 + 1, 0, hn => by omega
 | n1 + 1, n2 + 1, hn => by
  intro f args h r he
  have ih := evCall_more (E := E) hL (n1 := n1) (n2 := n2) (by omega)
  unfold evCall at he ⊢
  cases hp : E.prim f with
  | some g => rw [hp] at he; exact he
  | none =>
   rw [hp] at he
   simp only at he ⊢
   cases hf : E.P.funcs[f]? with
   | none => rw [hf] at he; cases he
   | some fn =>
    rw [hf] at he
    simp only at he ⊢
    cases hb : fn.body with
    | none => rw [hb] at he; cases he
    | some c =>
     rw [hb] at he
     simp only at he ⊢
     by_cases hnm : (fn.name == "runtime.NumGoroutine") = true
     ·rw [if_pos hnm] at he; cases he
     ·rw [if_neg hnm] at he ⊢
      exact evBody_more ih hL he
end Ev
end Go.Proofs.Ytppdfjdfjfoddaa
end
