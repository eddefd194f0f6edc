/-
  The letters of an alphabet: the reference's.
-/
import Derived.Test.YtojaohcpgelhmaaDoorEdges
import Derived.Test.YtojaohcpgelhmaaDoorDraw1
import Derived.Test.YtojaohcpgelhmaaDoorEvDef
import Derived.Test.YtojaohcpgelhmaaDoorSysI
section
set_option linter.unusedSimpArgs false
set_option linter.unusedVariables false
set_option maxRecDepth 8000
set_option maxHeartbeats 4000000
set_option pp.maxSteps 6000
namespace Go.Proofs.YtojaohcpgelhmaaDoor
namespace Ev

theorem loop_s_l1Letters {R : Type} {L n : Nat} (hn : 1 ≤ n) {a : Int} {k : Exit → List A → H → Option R} : ∀ (i : Int) (m : Nat) (l : List Int) (len : Nat) (h0 : 0 ≤ i) (hi : i ≤ 6) (hm : 6 - i < m) (hl : len = l.length) (hlen : (l.length : Int) ≤ i),
    kLoop env (evCall env L n) L 0 [] (true :: false :: true :: true :: true :: false :: false :: false :: false :: false :: false :: false :: false :: false :: false :: false :: false :: false :: []) (lp_s_l1Letters 0) (false :: true :: false :: false :: false :: true :: true :: true :: true :: true :: true :: true :: true :: true :: true :: true :: true :: true :: []) m (.d (.int .i64 a) :: .junk :: .d .nils :: .sl 0 0 0 len :: .d (.int .i64 i) :: .junk :: .junk :: .junk :: .junk :: .junk :: .junk :: .junk :: .junk :: .junk :: .junk :: .junk :: .junk :: .junk :: []) [.arr (ints l) 1 0] k
    = k (.exit 0) (.d (.int .i64 a) :: .junk :: .d .nils :: .sl 0 0 0 (len + ((restL (6 - i).toNat).filter (bitAt a)).length) :: .d (.int .i64 6) :: .junk :: .junk :: .junk :: .junk :: .junk :: .junk :: .junk :: .junk :: .junk :: .junk :: .junk :: .junk :: .junk :: []) [.arr (ints (l ++ (restL (6 - i).toNat).filter (bitAt a))) 1 0] := by
  intro i m l len h0 hi hm hl hlen
  obtain ⟨j, hj⟩ : ∃ j : Nat, (j : Int) = (6 : Int) - i := ⟨((6 : Int) - i).toNat, by omega⟩
  induction j generalizing i m l len with
  | zero =>
    obtain ⟨m, rfl⟩ : ∃ q, m = q + 1 := ⟨m - 1, by omega⟩
    obtain rfl : i = 6 := by omega
    rw [step_s_l1Letters_0]
    simp only [S_s_l1Letters_0, Tryd.f103, SLM, simprocAttr]
    simp -implicitDefEqProofs (maxSteps := 2000000) (disch := first | assumption | (refine Shut.mk ?_; kernel_rfl) | omega | (simp only [GT]; done) | (simp only [LN] <;> omega) | fail) only [↓WD, ↓kAsg, ↓kRet, ↓clash_free, ↓WDD, ↓kOpD_callv, WK, UN, TY, LB, MD, i64_id, simprocAttr, ↓CV, ↓kc_s_l1Has]
    simp only [restL, List.filter_nil, List.append_nil, List.length_nil, Nat.add_zero]
  | succ j ih =>
    obtain ⟨m, rfl⟩ : ∃ q, m = q + 1 := ⟨m - 1, by omega⟩
    have hc : i < 6 := by omega
    have e1 : (6 - i).toNat = j + 1 := by omega
    have e2 : (6 - (i + 1)).toNat = j := by omega
    have hr : restL (j + 1) = i :: restL j := by simp only [restL]; congr 1; omega
    rw [e1, hr, List.filter_cons]
    cases hb : bitAt a i with
    | true =>
      rw [step_s_l1Letters_0]
      simp only [S_s_l1Letters_0, Tryd.f103, SLM, simprocAttr]
      simp -implicitDefEqProofs (maxSteps := 2000000) (disch := first | assumption | (refine Shut.mk ?_; kernel_rfl) | omega | (simp only [GT]; done) | (simp only [LN] <;> omega) | fail) only [↓WD, ↓kAsg, ↓kRet, ↓clash_free, ↓WDD, ↓kOpD_callv, WK, UN, TY, LB, MD, i64_id, simprocAttr, ↓CV, ↓kc_s_l1Has, ↓ih, hc, hb, e2]
      simp only [List.append_assoc, List.cons_append, List.nil_append, Nat.add_assoc, Nat.add_comm 1]
    | false =>
      rw [step_s_l1Letters_0]
      simp only [S_s_l1Letters_0, Tryd.f103, SLM, simprocAttr]
      simp -implicitDefEqProofs (maxSteps := 2000000) (disch := first | assumption | (refine Shut.mk ?_; kernel_rfl) | omega | (simp only [GT]; done) | (simp only [LN] <;> omega) | fail) only [↓WD, ↓kAsg, ↓kRet, ↓clash_free, ↓WDD, ↓kOpD_callv, WK, UN, TY, LB, MD, i64_id, simprocAttr, ↓CV, ↓kc_s_l1Has, ↓ih, hc, hb, e2]

theorem restL6 : restL (6 - (0 : Int)).toNat = [0, 1, 2, 3, 4, 5] := rfl

theorem ev_s_l1Letters {L n : Nat} (hn : 2 ≤ n) (a : Int) (hL : 2 ^ 60 ≤ L) : evCall env L n 103 [.d (.int .i64 a)] [] = some (.d (.ivs (letters a).length (ints (letters a))), []) := by
  unfold letters
  rw [← restL6]
  obtain ⟨n, rfl⟩ : ∃ m, n = m + 1 := ⟨n - 1, by omega⟩
  rw [fn_s_l1Letters]
  simp only [S_s_l1Letters, Tryd.f103, SLM, simprocAttr]
  simp -implicitDefEqProofs (maxSteps := 2000000) (disch := first | assumption | (refine Shut.mk ?_; kernel_rfl) | omega | (simp only [GT]; done) | (simp only [LN] <;> omega) | fail) only [↓WD, ↓kAsg, ↓kRet, ↓clash_free, ↓WDD, ↓kOpD_callv, WK, UN, TY, LB, MD, i64_id, simprocAttr, ↓CV, ↓kc_s_l1Has, nil_ints, ↓loop_s_l1Letters]
theorem kc_s_l1Letters {R : Type} {L n : Nat} {hq : H} {k : A → H → Option R} (hn : 2 ≤ n) (a : Int) (hL : 2 ^ 60 ≤ L) : kCall env (evCall env L n) hq 103 [.d (.int .i64 a)] k = k (.d (.ivs (letters a).length (ints (letters a)))) hq :=
  kCall_still rfl (ev_s_l1Letters hn a hL) rfl (.inr rfl)

end Ev
end Go.Proofs.YtojaohcpgelhmaaDoor
end

/-!
  Words that are drawn.
-/
section
set_option linter.unusedSimpArgs false
set_option linter.unusedVariables false
set_option maxRecDepth 8000
set_option maxHeartbeats 4000000
set_option pp.maxSteps 6000
namespace Go.Proofs.YtojaohcpgelhmaaDoor
namespace Ev

/-! ### long words -/

end Ev
end Go.Proofs.YtojaohcpgelhmaaDoor
end

/-!
  The random source opened; arguments of the exchanges that are drawn.
-/
section
set_option linter.unusedSimpArgs false
set_option linter.unusedVariables false
set_option maxRecDepth 8000
set_option maxHeartbeats 4000000
set_option pp.maxSteps 6000
namespace Go.Proofs.YtojaohcpgelhmaaDoor
namespace Ev

/-- The bytes that the source is made of. -/
def src (c : List UInt8) : List UInt8 := if 2000 < c.length then c.take 2000 else c
theorem src_len (c : List UInt8) : (src c).length ≤ 2000 := by
  unfold src; split
  · rw [List.length_take]; omega
  · omega

theorem m_l19Open : (env.hint 22).mode = 2 := by kernel_rfl

theorem ev_open {L n : Nat} (hn : 1 ≤ n) (c0 : List UInt8) (hc : c0.length ≤ 4294967296) : evCall env L n 22 [.d (.ivs c0.length (bytesL c0))] [] = some (.ptr 0 0 0, [O.box [A.d (D.ivs (src c0).length (bytesL (src c0))), A.d (D.int .i64 0)]]) := by
  unfold src
  by_cases h : (2000 : Int) < c0.length
  · have h' : 2000 < c0.length := by omega
    obtain ⟨n, rfl⟩ : ∃ m, n = m + 1 := ⟨n - 1, by omega⟩
    rw [fn_s_l19Open]
    simp only [S_s_l19Open, Tryd.f22, SLM, simprocAttr]
    simp -implicitDefEqProofs (maxSteps := 2000000) (disch := first | assumption | (refine Shut.mk ?_; kernel_rfl) | omega | (simp only [GT]; done) | (simp only [LN] <;> omega) | fail) only [↓WD, ↓kAsg, ↓kRet, ↓clash_free, ↓WDD, ↓kOpD_callv, WK, UN, TY, LB, MD, i64_id, simprocAttr, ↓CV, h, h']
  · have h' : ¬ 2000 < c0.length := by omega
    obtain ⟨n, rfl⟩ : ∃ m, n = m + 1 := ⟨n - 1, by omega⟩
    rw [fn_s_l19Open]
    simp only [S_s_l19Open, Tryd.f22, SLM, simprocAttr]
    simp -implicitDefEqProofs (maxSteps := 2000000) (disch := first | assumption | (refine Shut.mk ?_; kernel_rfl) | omega | (simp only [GT]; done) | (simp only [LN] <;> omega) | fail) only [↓WD, ↓kAsg, ↓kRet, ↓clash_free, ↓WDD, ↓kOpD_callv, WK, UN, TY, LB, MD, i64_id, simprocAttr, ↓CV, h, h']

end Ev
end Go.Proofs.YtojaohcpgelhmaaDoor
end

/-!
  More rounds and deeper calls answer the same.
-/
section
set_option linter.unusedSimpArgs false
set_option linter.unusedVariables false
namespace Go.Proofs.YtojaohcpgelhmaaDoor
namespace Ev

/-- What the one answers, the other answers too. -/
def More (c1 c2 : CallF) : Prop := ∀ f args h r, c1 f args h = some r → c2 f args h = some r

section
variable {E : Env} {c1 c2 : CallF} (hc : More c1 c2)
include hc

theorem aCall_more {hint : FuncId → Hint} {h : H} {f : FuncId} {args : List A} {r : A × H} (he : aCall c1 hint h f args = some r) : aCall c2 hint h f args = some r := by
  unfold aCall at he ⊢
  generalize (hint f).mode = m at *
  have key : ∀ (fs : List A) (g : Option (A × H) → Option (A × H)), g none = none → g (c1 f fs []) = some r → g (c2 f fs []) = some r := by
    intro fs g h0 h1
    cases h2 : c1 f fs [] with
    | none => rw [h2, h0] at h1; cases h1
    | some q => rw [h2] at h1; rw [hc _ _ _ _ h2]; exact h1
  match m with
  | 0 => exact hc _ _ _ _ he
  | 1 =>
    simp only at he ⊢
    cases hf : frzAs h args with
    | none => rw [hf] at he; cases he
    | some q => rw [hf] at he; exact key q.1 (fun o => match o with | some (r, []) => if plainA r then some (r, h) else none | _ => none) rfl he
  | 3 =>
    simp only at he ⊢
    cases hf : frzAs h args with
    | none => rw [hf] at he; cases he
    | some q => rw [hf] at he; exact key q.1 (fun o => match o with | some (r, h2) => if cleanA r && h2.all cleanO then some (mapA (back [] h.length h2.length) r, h ++ h2.map (mapO (back [] h.length h2.length))) else none | none => none) rfl he
  | 2 =>
    simp only at he ⊢
    cases hf : frzAs h args with
    | none => rw [hf] at he; cases he
    | some q => rw [hf] at he; exact key q.1 (fun o => match o with | some (r, []) => some (r, q.2) | some (r, h2) => some (mapA (back [] q.2.length h2.length) r, q.2 ++ h2.map (mapO (back [] q.2.length h2.length))) | none => none) rfl he
  | m + 4 =>
    simp only at he ⊢
    cases hf : frzAs h args with
    | none => rw [hf] at he; cases he
    | some q => rw [hf] at he; exact key q.1 (fun o => match o with | some (r, []) => some (r, q.2) | some (r, h2) => some (mapA (back [] q.2.length h2.length) r, q.2 ++ h2.map (mapO (back [] q.2.length h2.length))) | none => none) rfl he

theorem aCallee_more {hint : FuncId → Hint} {h : H} {c : A} {args : List A} {r : A × H} (he : aCallee c1 hint h c args = some r) : aCallee c2 hint h c args = some r := by
  unfold aCallee at he ⊢
  split at he
  · exact aCall_more hc he
  · exact aCall_more hc he
  · cases he

theorem evCallee_more {h : H} {c : Callee} {tys : List TypeId} {vs : List A} {r : A × H} (he : evCallee E c1 h c tys vs = some r) : evCallee E c2 h c tys vs = some r := by
  unfold evCallee at he ⊢
  split at he
  · split at he
    · exact aCallee_more hc he
    · cases he
  · exact he
  · cases he

theorem evOp_more {thaw : List Nat} {h : H} {o : Oper} {vs : List A} {r : A × H} (he : evOp E c1 thaw h o vs = some r) : evOp E c2 thaw h o vs = some r := by
  unfold evOp at he ⊢
  split at he <;> first | exact evCallee_more hc he | exact he

theorem evOpF_more {thaw : List Nat} {h : H} {o : Oper} {vs : List A} {r : A × H × List Nat × Nat} (he : evOpF E c1 thaw h o vs = some r) : evOpF E c2 thaw h o vs = some r := by
  unfold evOpF at he ⊢
  simp only at he ⊢
  split at he
  · rename_i a h1 h2
    rw [evOp_more hc h2]
    exact he
  · cases he

theorem evStep_more {thaw : List Nat} {ops : List Oper} {o : Oper} {s : List A} {h : H} {r : List A × H} (he : evStep E c1 thaw ops o s h = some r) : evStep E c2 thaw ops o s h = some r := by
  unfold evStep at he ⊢
  cases hw : aWant ops s o with
  | none => rw [hw] at he; cases he
  | some b =>
    rw [hw] at he
    cases b with
    | false => exact he
    | true =>
      simp only at he ⊢
      cases hv : aEvals s (opds o.op) with
      | none => rw [hv] at he; cases he
      | some vs =>
        rw [hv] at he
        simp only at he ⊢
        by_cases hi : isCall o.op = true
        · rw [if_pos hi] at he ⊢
          cases hf : evOpF E c1 thaw h o vs with
          | none => rw [hf] at he; cases he
          | some q => rw [hf] at he; rw [evOpF_more hc hf]; exact he
        · rw [if_neg hi] at he ⊢
          cases hf : evOp E c1 thaw h o vs with
          | none => rw [hf] at he; cases he
          | some q => rw [hf] at he; rw [evOp_more hc hf]; exact he

theorem evOps_more {thaw : List Nat} {ops : List Oper} : ∀ {os : List Oper} {s : List A} {h : H} {r : List A × H}, evOps E c1 thaw ops os s h = some r → evOps E c2 thaw ops os s h = some r
  | [], s, h, r, he => he
  | o :: os, s, h, r, he => by
    unfold evOps at he ⊢
    cases hs : evStep E c1 thaw ops o s h with
    | none => rw [hs] at he; cases he
    | some q => rw [hs] at he; rw [evStep_more hc hs]; exact evOps_more he

theorem evStepD_more {thaw : List Nat} {ops : List Oper} {o : Oper} {s : List A} {h : H} {r : List A × H × Foot} (he : evStepD E c1 thaw ops o s h = some r) : evStepD E c2 thaw ops o s h = some r := by
  unfold evStepD at he ⊢
  cases hw : aWant ops s o with
  | none => rw [hw] at he; cases he
  | some b =>
    rw [hw] at he
    cases b with
    | false => exact he
    | true =>
      simp only at he ⊢
      cases hv : aEvals s (opds o.op) with
      | none => rw [hv] at he; cases he
      | some vs =>
        rw [hv] at he
        simp only at he ⊢
        by_cases hi : pureOp o.op = true
        · rw [if_pos hi] at he ⊢
          cases hf : evOp E c1 thaw h o vs with
          | none => rw [hf] at he; cases he
          | some q => rw [hf] at he; rw [evOp_more hc hf]; exact he
        · rw [if_neg hi] at he ⊢
          by_cases hj : shallow o.op = true
          · rw [if_pos hj] at he ⊢
            cases hf : evOp E c1 thaw h o vs with
            | none => rw [hf] at he; cases he
            | some q => rw [hf] at he; rw [evOp_more hc hf]; exact he
          rw [if_neg hj] at he ⊢
          cases hf : evOpF E c1 thaw h o vs with
          | none => rw [hf] at he; cases he
          | some q => rw [hf] at he; rw [evOpF_more hc hf]; exact he

theorem evOpsD_more {thaw : List Nat} {ops : List Oper} : ∀ {os : List Oper} {s : List A} {h : H} {r : List A × H × List Foot}, evOpsD E c1 thaw ops os s h = some r → evOpsD E c2 thaw ops os s h = some r
  | [], s, h, r, he => he
  | o :: os, s, h, r, he => by
    unfold evOpsD at he ⊢
    cases hs : evStepD E c1 thaw ops o s h with
    | none => rw [hs] at he; cases he
    | some q =>
      rw [hs] at he
      rw [evStepD_more hc hs]
      simp only at he ⊢
      cases h2 : evOpsD E c1 thaw ops os q.1 q.2.1 with
      | none => rw [h2] at he; cases he
      | some z => rw [h2] at he; rw [evOpsD_more h2]; exact he

theorem evRegion_more {thaw : List Nat} {ops : Array Oper} {draw : Bool} {s : List A} {h : H} {r : List A × H} (he : evRegion E c1 thaw ops draw s h = some r) : evRegion E c2 thaw ops draw s h = some r := by
  unfold evRegion at he ⊢
  by_cases hd : draw = true
  · rw [if_pos hd] at he ⊢
    cases ho : evOpsD E c1 thaw ops.toList ops.toList s h with
    | none => rw [ho] at he; cases he
    | some q => rw [ho] at he; rw [evOpsD_more hc ho]; exact he
  · rw [if_neg hd] at he ⊢
    exact evOps_more hc he
end

theorem evLoop_more {b1 b2 : List A → H → Option (Exit × List A × H)} (hb : ∀ s h r, b1 s h = some r → b2 s h = some r) {nf : Nat} {m : List Bool} : ∀ {n1 n2 : Nat} {s : List A} {h : H} {r : Exit × List A × H}, n1 ≤ n2 → evLoop b1 nf m n1 s h = some r → evLoop b2 nf m n2 s h = some r
  | 0, n2, s, h, r, _, he => by simp [evLoop] at he
  | n1 + 1, 0, s, h, r, hn, he => by omega
  | n1 + 1, n2 + 1, s, h, r, hn, he => by
    unfold evLoop at he ⊢
    cases hs : b1 s h with
    | none => rw [hs] at he; cases he
    | some q =>
      rw [hs] at he
      rw [hb _ _ _ hs]
      obtain ⟨e, s1, h1⟩ := q
      cases e with
      | normal => exact evLoop_more hb (by omega) he
      | _ => exact he

theorem evCode_more {E : Env} {c1 c2 : CallF} (hc : More c1 c2) {L1 L2 nf : Nat} (hL : L1 ≤ L2) {thaw : List Nat} {live : List Bool} : ∀ (c : Code) {s : List A} {h : H} {r : Exit × List A × H}, evCode E c1 L1 nf thaw live c s h = some r → evCode E c2 L2 nf thaw live c s h = some r := by
  intro c
  induction c with
  | region i ops draw =>
    intro s h r he
    unfold evCode at he ⊢
    cases hr : evRegion E c1 thaw ops draw s h with
    | none => rw [hr] at he; cases he
    | some q => rw [hr] at he; rw [evRegion_more hc hr]; exact he
  | seq a b iha ihb =>
    intro s h r he
    unfold evCode at he ⊢
    cases ha : evCode E c1 L1 nf thaw live a s h with
    | none => rw [ha] at he; cases he
    | some q =>
      rw [ha] at he
      rw [iha ha]
      obtain ⟨e, s1, h1⟩ := q
      cases e with
      | normal => exact ihb he
      | _ => exact he
  | cond x a b iha ihb =>
    intro s h r he
    unfold evCode at he ⊢
    cases hv : aEval s x with
    | none => rw [hv] at he; cases he
    | some v =>
      rw [hv] at he
      cases v with
      | d y =>
        cases y with
        | bool b =>
          cases b with
          | true => exact iha he
          | false => exact ihb he
        | _ => cases he
      | _ => cases he
  | block i a iha =>
    intro s h r he
    unfold evCode at he ⊢
    cases ha : evCode E c1 L1 nf thaw live a s h with
    | none => rw [ha] at he; cases he
    | some q => rw [ha] at he; rw [iha ha]; exact he
  | loop a iha =>
    intro s h r he
    unfold evCode at he ⊢
    exact evLoop_more (fun s h r => iha) hL he
  | _ => intro s h r he; simp only [evCode] at he ⊢; first | exact he | cases he

theorem evBody_more {E : Env} {c1 c2 : CallF} (hc : More c1 c2) {L1 L2 : Nat} (hL : L1 ≤ L2) {f : FuncId} {fn : Func} {c : Code} {args : List A} {h : H} {r : A × H} (he : evBody E c1 L1 f fn c args h = some r) : evBody E c2 L2 f fn c args h = some r := by
  unfold evBody at he ⊢
  split at he
  · rename_i e s h1 hcd
    rw [evCode_more hc hL c hcd]
    exact he
  · cases he

/-- More rounds and deeper calls answer the same. -/
theorem evCall_more {E : Env} {L1 L2 : Nat} (hL : L1 ≤ L2) : ∀ {n1 n2 : Nat}, n1 ≤ n2 → More (evCall E L1 n1) (evCall E L2 n2)
  | 0, n2, _ => by intro f args h r he; simp [evCall] at he
  | n1 + 1, 0, hn => by omega
  | n1 + 1, n2 + 1, hn => by
    intro f args h r he
    have ih := evCall_more (E := E) hL (n1 := n1) (n2 := n2) (by omega)
    unfold evCall at he ⊢
    cases hp : E.prim f with
    | some g => rw [hp] at he; exact he
    | none =>
      rw [hp] at he
      simp only at he ⊢
      cases hf : E.P.funcs[f]? with
      | none => rw [hf] at he; cases he
      | some fn =>
        rw [hf] at he
        simp only at he ⊢
        cases hb : fn.body with
        | none => rw [hb] at he; cases he
        | some c =>
          rw [hb] at he
          simp only at he ⊢
          by_cases hnm : (fn.name == "runtime.NumGoroutine") = true
          · rw [if_pos hnm] at he; cases he
          · rw [if_neg hnm] at he ⊢
            exact evBody_more ih hL he

end Ev
end Go.Proofs.YtojaohcpgelhmaaDoor
end

/-!
  Systems that are drawn.
-/
section
set_option linter.unusedSimpArgs false
set_option linter.unusedVariables false
set_option maxRecDepth 8000
set_option maxHeartbeats 4000000
set_option pp.maxSteps 6000
namespace Go.Proofs.YtojaohcpgelhmaaDoor
namespace Ev

/-- The cells of edges that are still none are not said to have a size. -/
def eE (l : List Edge) : Nat := if l = [] then 0 else 3
theorem eE_snoc {l : List Edge} {x : Edge} : eE (l ++ [x]) = 3 := by simp [eE]
theorem eE_or (l : List Edge) : eE l = 0 ∨ eE l = 3 := by unfold eE; split <;> simp
theorem ex_loop_l2Random_2 {c : List UInt8} (hc : c.length ≤ 2000) {al st few f i : Int} {ls : List Int} (hi0 : 0 ≤ i) (hi1 : i < ls.length) (hls : ls.length ≤ 6) : ∀ (j : Nat) (t p : Int) (es : List Edge) (len e : Nat) (hlen : len = es.length) (he : e = eE es) (h0 : 0 ≤ t) (hi : t + j = st) (hst : st ≤ 100) (hl : es.length + j ≤ 100000) (hp : 0 ≤ p) (hp2 : p + j ≤ 900000000),
    ∃ (es2 : List Edge) (q : Int), es2.length ≤ es.length + j ∧ p ≤ q ∧ q ≤ p + j ∧ ∀ (R : Type) (L n m : Nat) (k : Exit → List A → H → Option R), 2 ≤ n → 2 ^ 60 ≤ L → j < m →
    kLoop env (evCall env L n) L 1 [] (true :: false :: true :: true :: false :: false :: false :: false :: true :: true :: true :: true :: true :: true :: false :: false :: false :: false :: false :: false :: false :: false :: false :: false :: false :: false :: false :: false :: false :: false :: false :: false :: false :: false :: false :: false :: false :: false :: false :: false :: false :: false :: false :: false :: false :: false :: false :: false :: false :: false :: false :: false :: []) (lp_s_l2Random 2) (false :: true :: false :: false :: true :: true :: true :: true :: false :: false :: false :: false :: false :: false :: true :: true :: true :: true :: true :: true :: true :: true :: true :: true :: true :: true :: true :: true :: true :: true :: true :: true :: true :: true :: true :: true :: true :: true :: true :: true :: true :: true :: true :: true :: true :: true :: true :: true :: true :: true :: true :: true :: []) m (.ptr 0 0 0 :: .junk :: .d (.int .i64 st) :: .d (.int .i64 few) :: .junk :: .junk :: .junk :: .junk :: .ptr 1 0 0 :: .ptr 2 0 0 :: .d (.ivs ls.length (ints ls)) :: .d (.int .i64 f) :: .d (.int .i64 i) :: .d (.int .i64 t) :: .junk :: .junk :: .junk :: .junk :: .junk :: .junk :: .junk :: .junk :: .junk :: .junk :: .junk :: .junk :: .junk :: .junk :: .junk :: .junk :: .junk :: .junk :: .junk :: .junk :: .junk :: .junk :: .junk :: .junk :: .junk :: .junk :: .junk :: .junk :: .junk :: .junk :: .junk :: .junk :: .junk :: .junk :: .junk :: .junk :: .junk :: .junk :: []) [O.box [A.d (D.ivs c.length (bytesL c)), A.d (D.int .i64 p)], .box [.d (.int .i64 0), .d (.int .i64 0), .sl 3 0 0 0], .box [.d (.int .i64 al), .d (.int .i64 st), .sl 4 0 0 len], .arr [] 0 0, .arr (edgesD es) e 0] k
    = k (.exit 4) (.ptr 0 0 0 :: .junk :: .d (.int .i64 st) :: .d (.int .i64 few) :: .junk :: .junk :: .junk :: .junk :: .ptr 1 0 0 :: .ptr 2 0 0 :: .d (.ivs ls.length (ints ls)) :: .d (.int .i64 f) :: .d (.int .i64 i) :: .d (.int .i64 st) :: .junk :: .junk :: .junk :: .junk :: .junk :: .junk :: .junk :: .junk :: .junk :: .junk :: .junk :: .junk :: .junk :: .junk :: .junk :: .junk :: .junk :: .junk :: .junk :: .junk :: .junk :: .junk :: .junk :: .junk :: .junk :: .junk :: .junk :: .junk :: .junk :: .junk :: .junk :: .junk :: .junk :: .junk :: .junk :: .junk :: .junk :: .junk :: []) [O.box [A.d (D.ivs c.length (bytesL c)), A.d (D.int .i64 q)], .box [.d (.int .i64 0), .d (.int .i64 0), .sl 3 0 0 0], .box [.d (.int .i64 al), .d (.int .i64 st), .sl 4 0 0 es2.length], .arr [] 0 0, .arr (edgesD es2) (eE es2) 0] := by
  intro j
  induction j with
  | zero =>
    intro t p es len e hlen he h0 hi hst hl hp hp2
    obtain rfl : t = st := by omega
    refine ⟨es, p, by omega, by omega, by omega, fun R L n m k hn hL hm => ?_⟩
    obtain ⟨m, rfl⟩ : ∃ q, m = q + 1 := ⟨m - 1, by omega⟩
    subst hlen
    subst he
    rw [step_s_l2Random_2]
    simp only [S_s_l2Random_2, Tryd.f81, SLM, simprocAttr]
    simp -implicitDefEqProofs (maxSteps := 2000000) (disch := first | assumption | (refine Shut.mk ?_; kernel_rfl) | omega | (simp only [GT]; done) | (simp only [LN] <;> omega) | fail) only [↓WD, ↓kAsg, ↓kRet, ↓clash_free, ↓WDD, ↓kOpD_callv, WK, UN, TY, LB, MD, i64_id, simprocAttr, ↓CV, ↓kc_s_l1Letters, Int.lt_irrefl]
  | succ j ih =>
    intro t p es len e hlen he h0 hi hst hl hp hp2
    have hlt : t < st := by omega
    have hk : i.toNat < ls.length := by omega
    obtain ⟨v, v0, _, _, kd⟩ := ex_pick hc p few hp (by omega)
    subst hlen
    by_cases hv : v = 0
    · obtain ⟨es2, q, g1, g2, g3, kd2⟩ := ih (t + 1) (p + 1) (es ++ [⟨f, ls.getD i.toNat 0, t⟩]) (es.length + 1) 3 (by simp) eE_snoc.symm (by omega) (by omega) hst (by simp; omega) (by omega) (by omega)
      refine ⟨es2, q, by simp at g1; omega, by omega, by omega, fun R L n m k hn hL hm => ?_⟩
      obtain ⟨m, rfl⟩ : ∃ q, m = q + 1 := ⟨m - 1, by omega⟩
      rcases eE_or es with h1 | h1
      · have he0 : e = 0 := by omega
        subst he0
        rw [step_s_l2Random_2]
        simp only [S_s_l2Random_2, Tryd.f81, SLM, simprocAttr]
        simp -implicitDefEqProofs (maxSteps := 2000000) (disch := first | assumption | (refine Shut.mk ?_; kernel_rfl) | omega | (simp only [GT]; done) | (simp only [LN] <;> omega) | fail) only [↓WD, ↓kAsg, ↓kRet, ↓clash_free, ↓WDD, ↓kOpD_callv, WK, UN, TY, LB, MD, i64_id, simprocAttr, ↓CV, ↓kc_s_l1Letters, LE, hlt, ↓kd, hv, u_ints, c_int, ↓kd2]
      · have he0 : e = 3 := by omega
        subst he0
        rw [step_s_l2Random_2]
        simp only [S_s_l2Random_2, Tryd.f81, SLM, simprocAttr]
        simp -implicitDefEqProofs (maxSteps := 2000000) (disch := first | assumption | (refine Shut.mk ?_; kernel_rfl) | omega | (simp only [GT]; done) | (simp only [LN] <;> omega) | fail) only [↓WD, ↓kAsg, ↓kRet, ↓clash_free, ↓WDD, ↓kOpD_callv, WK, UN, TY, LB, MD, i64_id, simprocAttr, ↓CV, ↓kc_s_l1Letters, LE, hlt, ↓kd, hv, u_ints, c_int, ↓kd2]
    · obtain ⟨es2, q, g1, g2, g3, kd2⟩ := ih (t + 1) (p + 1) es es.length e rfl he (by omega) (by omega) hst (by omega) (by omega) (by omega)
      refine ⟨es2, q, by omega, by omega, by omega, fun R L n m k hn hL hm => ?_⟩
      obtain ⟨m, rfl⟩ : ∃ q, m = q + 1 := ⟨m - 1, by omega⟩
      rw [step_s_l2Random_2]
      simp only [S_s_l2Random_2, Tryd.f81, SLM, simprocAttr]
      simp -implicitDefEqProofs (maxSteps := 2000000) (disch := first | assumption | (refine Shut.mk ?_; kernel_rfl) | omega | (simp only [GT]; done) | (simp only [LN] <;> omega) | fail) only [↓WD, ↓kAsg, ↓kRet, ↓clash_free, ↓WDD, ↓kOpD_callv, WK, UN, TY, LB, MD, i64_id, simprocAttr, ↓CV, ↓kc_s_l1Letters, LE, hlt, ↓kd, hv, u_ints, c_int, ↓kd2]

theorem ex_loop_l2Random_1 {c : List UInt8} (hc : c.length ≤ 2000) {al st few f : Int} {ls : List Int} (hst0 : 0 ≤ st) (hst : st ≤ 100) (hls : ls.length ≤ 6) : ∀ (j : Nat) (i p : Int) (es : List Edge) (len e : Nat) (hlen : len = es.length) (he : e = eE es) (h0 : 0 ≤ i) (hi : i + j = ls.length) (hl : es.length + j * 100 ≤ 90000) (hp : 0 ≤ p) (hp2 : p + j * 100 ≤ 800000000),
    ∃ (es2 : List Edge) (q : Int), es2.length ≤ es.length + j * 100 ∧ p ≤ q ∧ q ≤ p + j * 100 ∧ ∀ (R : Type) (L n m : Nat) (k : Exit → List A → H → Option R), 2 ≤ n → 2 ^ 60 ≤ L → j < m →
    kLoop env (evCall env L n) L 1 [] (true :: false :: true :: true :: false :: false :: false :: false :: true :: true :: true :: true :: true :: true :: false :: false :: false :: false :: false :: false :: false :: false :: false :: false :: false :: false :: false :: false :: false :: false :: false :: false :: false :: false :: false :: false :: false :: false :: false :: false :: false :: false :: false :: false :: false :: false :: false :: false :: false :: false :: false :: false :: []) (lp_s_l2Random 1) (false :: true :: false :: false :: true :: true :: true :: true :: false :: false :: false :: false :: false :: true :: true :: true :: true :: true :: true :: true :: true :: true :: true :: true :: true :: true :: true :: true :: true :: true :: true :: true :: true :: true :: true :: true :: true :: true :: true :: true :: true :: true :: true :: true :: true :: true :: true :: true :: true :: true :: true :: true :: []) m (.ptr 0 0 0 :: .junk :: .d (.int .i64 st) :: .d (.int .i64 few) :: .junk :: .junk :: .junk :: .junk :: .ptr 1 0 0 :: .ptr 2 0 0 :: .d (.ivs ls.length (ints ls)) :: .d (.int .i64 f) :: .d (.int .i64 i) :: .junk :: .junk :: .junk :: .junk :: .junk :: .junk :: .junk :: .junk :: .junk :: .junk :: .junk :: .junk :: .junk :: .junk :: .junk :: .junk :: .junk :: .junk :: .junk :: .junk :: .junk :: .junk :: .junk :: .junk :: .junk :: .junk :: .junk :: .junk :: .junk :: .junk :: .junk :: .junk :: .junk :: .junk :: .junk :: .junk :: .junk :: .junk :: .junk :: []) [O.box [A.d (D.ivs c.length (bytesL c)), A.d (D.int .i64 p)], .box [.d (.int .i64 0), .d (.int .i64 0), .sl 3 0 0 0], .box [.d (.int .i64 al), .d (.int .i64 st), .sl 4 0 0 len], .arr [] 0 0, .arr (edgesD es) e 0] k
    = k (.exit 2) (.ptr 0 0 0 :: .junk :: .d (.int .i64 st) :: .d (.int .i64 few) :: .junk :: .junk :: .junk :: .junk :: .ptr 1 0 0 :: .ptr 2 0 0 :: .d (.ivs ls.length (ints ls)) :: .d (.int .i64 f) :: .d (.int .i64 (ls.length)) :: .junk :: .junk :: .junk :: .junk :: .junk :: .junk :: .junk :: .junk :: .junk :: .junk :: .junk :: .junk :: .junk :: .junk :: .junk :: .junk :: .junk :: .junk :: .junk :: .junk :: .junk :: .junk :: .junk :: .junk :: .junk :: .junk :: .junk :: .junk :: .junk :: .junk :: .junk :: .junk :: .junk :: .junk :: .junk :: .junk :: .junk :: .junk :: .junk :: []) [O.box [A.d (D.ivs c.length (bytesL c)), A.d (D.int .i64 q)], .box [.d (.int .i64 0), .d (.int .i64 0), .sl 3 0 0 0], .box [.d (.int .i64 al), .d (.int .i64 st), .sl 4 0 0 es2.length], .arr [] 0 0, .arr (edgesD es2) (eE es2) 0] := by
  intro j
  induction j with
  | zero =>
    intro i p es len e hlen he h0 hi hl hp hp2
    obtain rfl : i = ls.length := by omega
    refine ⟨es, p, by omega, by omega, by omega, fun R L n m k hn hL hm => ?_⟩
    obtain ⟨m, rfl⟩ : ∃ q, m = q + 1 := ⟨m - 1, by omega⟩
    subst hlen
    subst he
    rw [step_s_l2Random_1]
    simp only [S_s_l2Random_1, Tryd.f81, SLM, simprocAttr]
    simp -implicitDefEqProofs (maxSteps := 2000000) (disch := first | assumption | (refine Shut.mk ?_; kernel_rfl) | omega | (simp only [GT]; done) | (simp only [LN] <;> omega) | fail) only [↓WD, ↓kAsg, ↓kRet, ↓clash_free, ↓WDD, ↓kOpD_callv, WK, UN, TY, LB, MD, i64_id, simprocAttr, ↓CV, ↓kc_s_l1Letters, Int.lt_irrefl]
  | succ j ih =>
    intro i p es len e hlen he h0 hi hl hp hp2
    have hlt : i < ls.length := by omega
    obtain ⟨es1, q1, a1, a2, a3, kd⟩ := ex_loop_l2Random_2 hc (al := al) (st := st) (few := few) (f := f) (i := i) (ls := ls) h0 hlt hls st.toNat 0 p es len e hlen he (by omega) (by omega) hst (by omega) hp (by omega)
    obtain ⟨es2, q, g1, g2, g3, kd2⟩ := ih (i + 1) q1 es1 es1.length (eE es1) rfl rfl (by omega) (by omega) (by omega) (by omega) (by omega)
    refine ⟨es2, q, by omega, by omega, by omega, fun R L n m k hn hL hm => ?_⟩
    obtain ⟨m, rfl⟩ : ∃ q, m = q + 1 := ⟨m - 1, by omega⟩
    rw [step_s_l2Random_1]
    simp only [S_s_l2Random_1, Tryd.f81, SLM, simprocAttr]
    simp -implicitDefEqProofs (maxSteps := 2000000) (disch := first | assumption | (refine Shut.mk ?_; kernel_rfl) | omega | (simp only [GT]; done) | (simp only [LN] <;> omega) | fail) only [↓WD, ↓kAsg, ↓kRet, ↓clash_free, ↓WDD, ↓kOpD_callv, WK, UN, TY, LB, MD, i64_id, simprocAttr, ↓CV, ↓kc_s_l1Letters, LE, hlt, ↓kd, ↓kd2]

theorem ex_loop_l2Random_0 {c : List UInt8} (hc : c.length ≤ 2000) {al st few : Int} {ls : List Int} (hst0 : 0 ≤ st) (hst : st ≤ 100) (hls : ls.length ≤ 6) : ∀ (j : Nat) (f p : Int) (es : List Edge) (len e : Nat) (hlen : len = es.length) (he : e = eE es) (h0 : 0 ≤ f) (hi : f + j = st) (hl : es.length + j * 600 ≤ 80000) (hp : 0 ≤ p) (hp2 : p + j * 600 ≤ 700000000),
    ∃ (es2 : List Edge) (q : Int), es2.length ≤ es.length + j * 600 ∧ p ≤ q ∧ q ≤ p + j * 600 ∧ ∀ (R : Type) (L n m : Nat) (k : Exit → List A → H → Option R), 2 ≤ n → 2 ^ 60 ≤ L → j < m →
    kLoop env (evCall env L n) L 1 [] (true :: false :: true :: true :: false :: false :: false :: false :: true :: true :: true :: true :: true :: true :: false :: false :: false :: false :: false :: false :: false :: false :: false :: false :: false :: false :: false :: false :: false :: false :: false :: false :: false :: false :: false :: false :: false :: false :: false :: false :: false :: false :: false :: false :: false :: false :: false :: false :: false :: false :: false :: false :: []) (lp_s_l2Random 0) (false :: true :: false :: false :: true :: true :: true :: true :: false :: false :: false :: false :: true :: true :: true :: true :: true :: true :: true :: true :: true :: true :: true :: true :: true :: true :: true :: true :: true :: true :: true :: true :: true :: true :: true :: true :: true :: true :: true :: true :: true :: true :: true :: true :: true :: true :: true :: true :: true :: true :: true :: true :: []) m (.ptr 0 0 0 :: .junk :: .d (.int .i64 st) :: .d (.int .i64 few) :: .junk :: .junk :: .junk :: .junk :: .ptr 1 0 0 :: .ptr 2 0 0 :: .d (.ivs ls.length (ints ls)) :: .d (.int .i64 f) :: .junk :: .junk :: .junk :: .junk :: .junk :: .junk :: .junk :: .junk :: .junk :: .junk :: .junk :: .junk :: .junk :: .junk :: .junk :: .junk :: .junk :: .junk :: .junk :: .junk :: .junk :: .junk :: .junk :: .junk :: .junk :: .junk :: .junk :: .junk :: .junk :: .junk :: .junk :: .junk :: .junk :: .junk :: .junk :: .junk :: .junk :: .junk :: .junk :: .junk :: []) [O.box [A.d (D.ivs c.length (bytesL c)), A.d (D.int .i64 p)], .box [.d (.int .i64 0), .d (.int .i64 0), .sl 3 0 0 0], .box [.d (.int .i64 al), .d (.int .i64 st), .sl 4 0 0 len], .arr [] 0 0, .arr (edgesD es) e 0] k
    = k (.exit 0) (.ptr 0 0 0 :: .junk :: .d (.int .i64 st) :: .d (.int .i64 few) :: .junk :: .junk :: .junk :: .junk :: .ptr 1 0 0 :: .ptr 2 0 0 :: .d (.ivs ls.length (ints ls)) :: .d (.int .i64 st) :: .junk :: .junk :: .junk :: .junk :: .junk :: .junk :: .junk :: .junk :: .junk :: .junk :: .junk :: .junk :: .junk :: .junk :: .junk :: .junk :: .junk :: .junk :: .junk :: .junk :: .junk :: .junk :: .junk :: .junk :: .junk :: .junk :: .junk :: .junk :: .junk :: .junk :: .junk :: .junk :: .junk :: .junk :: .junk :: .junk :: .junk :: .junk :: .junk :: .junk :: []) [O.box [A.d (D.ivs c.length (bytesL c)), A.d (D.int .i64 q)], .box [.d (.int .i64 0), .d (.int .i64 0), .sl 3 0 0 0], .box [.d (.int .i64 al), .d (.int .i64 st), .sl 4 0 0 es2.length], .arr [] 0 0, .arr (edgesD es2) (eE es2) 0] := by
  intro j
  induction j with
  | zero =>
    intro f p es len e hlen he h0 hi hl hp hp2
    obtain rfl : f = st := by omega
    refine ⟨es, p, by omega, by omega, by omega, fun R L n m k hn hL hm => ?_⟩
    obtain ⟨m, rfl⟩ : ∃ q, m = q + 1 := ⟨m - 1, by omega⟩
    subst hlen
    subst he
    rw [step_s_l2Random_0]
    simp only [S_s_l2Random_0, Tryd.f81, SLM, simprocAttr]
    simp -implicitDefEqProofs (maxSteps := 2000000) (disch := first | assumption | (refine Shut.mk ?_; kernel_rfl) | omega | (simp only [GT]; done) | (simp only [LN] <;> omega) | fail) only [↓WD, ↓kAsg, ↓kRet, ↓clash_free, ↓WDD, ↓kOpD_callv, WK, UN, TY, LB, MD, i64_id, simprocAttr, ↓CV, ↓kc_s_l1Letters, Int.lt_irrefl]
  | succ j ih =>
    intro f p es len e hlen he h0 hi hl hp hp2
    have hlt : f < st := by omega
    obtain ⟨es1, q1, a1, a2, a3, kd⟩ := ex_loop_l2Random_1 hc (al := al) (st := st) (few := few) (f := f) (ls := ls) hst0 hst hls ls.length 0 p es len e hlen he (by omega) (by omega) (by omega) hp (by omega)
    obtain ⟨es2, q, g1, g2, g3, kd2⟩ := ih (f + 1) q1 es1 es1.length (eE es1) rfl rfl (by omega) (by omega) (by omega) (by omega) (by omega)
    refine ⟨es2, q, by omega, by omega, by omega, fun R L n m k hn hL hm => ?_⟩
    obtain ⟨m, rfl⟩ : ∃ q, m = q + 1 := ⟨m - 1, by omega⟩
    rw [step_s_l2Random_0]
    simp only [S_s_l2Random_0, Tryd.f81, SLM, simprocAttr]
    simp -implicitDefEqProofs (maxSteps := 2000000) (disch := first | assumption | (refine Shut.mk ?_; kernel_rfl) | omega | (simp only [GT]; done) | (simp only [LN] <;> omega) | fail) only [↓WD, ↓kAsg, ↓kRet, ↓clash_free, ↓WDD, ↓kOpD_callv, WK, UN, TY, LB, MD, i64_id, simprocAttr, ↓CV, ↓kc_s_l1Letters, LE, hlt, ↓kd, ↓kd2]

theorem m_l2Random : (env.hint 81).mode = 0 := by kernel_rfl

theorem ex_l2Random {c : List UInt8} (hc : c.length ≤ 2000) (al st few : Int) (hst0 : 0 ≤ st) (hst : st ≤ 100) (p : Int) (hp : 0 ≤ p) (hp2 : p ≤ 600000000) : ∃ (es : List Edge) (q : Int), es.length ≤ 60000 ∧ p ≤ q ∧ q ≤ p + 60000 ∧ (∀ (R : Type) (L n : Nat) (hq : H) (k : A → H → Option R), 4 ≤ n → 2 ^ 60 ≤ L → kCall env (evCall env L n) (O.box [A.d (D.ivs c.length (bytesL c)), A.d (D.int .i64 p)] :: hq) 81 (.ptr 0 0 0 :: [.d (.int .i64 al), .d (.int .i64 st), .d (.int .i64 few)]) k = k (.agg [.d (.int .i64 al), .d (.int .i64 st), .d (.ivs es.length (edgesD es))]) (O.box [A.d (D.ivs c.length (bytesL c)), A.d (D.int .i64 q)] :: hq)) := by
  have hll := letters_len al
  obtain ⟨es, q, g1, g2, g3, kd⟩ := ex_loop_l2Random_0 hc (al := al) (st := st) (few := few) (ls := letters al) hst0 hst hll st.toNat 0 p [] 0 0 rfl rfl (by omega) (by omega) (by simp; omega) hp (by omega)
  simp only [edgesD_nil] at kd
  simp only [List.length_nil, Nat.zero_add] at g1
  refine ⟨es, q, by omega, by omega, by omega, fun R L n hq k hn hL => kCall_rd m_l2Random rfl rfl ?_⟩
  rcases eE_or es with h1 | h1
  · have he0 : es = [] := by unfold eE at h1; split at h1 <;> simp_all
    subst he0
    obtain ⟨n, rfl⟩ : ∃ m, n = m + 1 := ⟨n - 1, by omega⟩
    rw [fn_s_l2Random]
    simp only [S_s_l2Random, Tryd.f81, SLM, simprocAttr]
    simp -implicitDefEqProofs (maxSteps := 2000000) (disch := first | assumption | (refine Shut.mk ?_; kernel_rfl) | omega | (simp only [GT]; done) | (simp only [LN] <;> omega) | fail) only [↓WD, ↓kAsg, ↓kRet, ↓clash_free, ↓WDD, ↓kOpD_callv, WK, UN, TY, LB, MD, i64_id, simprocAttr, ↓CV, ↓kc_s_l1Letters, LE, ↓kd, h1, edgesD_nil, List.length_nil]
  · obtain ⟨n, rfl⟩ : ∃ m, n = m + 1 := ⟨n - 1, by omega⟩
    rw [fn_s_l2Random]
    simp only [S_s_l2Random, Tryd.f81, SLM, simprocAttr]
    simp -implicitDefEqProofs (maxSteps := 2000000) (disch := first | assumption | (refine Shut.mk ?_; kernel_rfl) | omega | (simp only [GT]; done) | (simp only [LN] <;> omega) | fail) only [↓WD, ↓kAsg, ↓kRet, ↓clash_free, ↓WDD, ↓kOpD_callv, WK, UN, TY, LB, MD, i64_id, simprocAttr, ↓CV, ↓kc_s_l1Letters, LE, ↓kd, h1]

end Ev
end Go.Proofs.YtojaohcpgelhmaaDoor
end

/-!
  Systems that are drawn: big ones, wrong ones, those of texts.
-/
section
set_option linter.unusedSimpArgs false
set_option linter.unusedVariables false
set_option maxRecDepth 8000
set_option maxHeartbeats 4000000
set_option pp.maxSteps 6000
namespace Go.Proofs.YtojaohcpgelhmaaDoor
namespace Ev

theorem ex_loop_l2Big {c : List UInt8} (hc : c.length ≤ 2000) : ∀ (j : Nat) (i p : Int) (es : List Edge) (len e : Nat) (hlen : len = es.length) (he : e = eE es) (h0 : 0 ≤ i) (hi : i + j = 16) (hl : es.length + j * 2 ≤ 100) (hp : 0 ≤ p) (hp2 : p + j * 2 ≤ 800000000),
    ∃ (es2 : List Edge) (q : Int), es2.length ≤ es.length + j * 2 ∧ p ≤ q ∧ q ≤ p + j * 2 ∧ ∀ (R : Type) (L n m : Nat) (k : Exit → List A → H → Option R), 2 ≤ n → 2 ^ 60 ≤ L → j < m →
    kLoop env (evCall env L n) L 1 [] (true :: false :: true :: true :: true :: false :: false :: false :: false :: false :: false :: false :: false :: false :: false :: false :: false :: false :: false :: false :: false :: false :: false :: false :: false :: false :: false :: false :: false :: false :: false :: false :: false :: false :: false :: false :: false :: false :: false :: []) (lp_s_l2Big 0) (false :: true :: false :: false :: false :: true :: true :: true :: true :: true :: true :: true :: true :: true :: true :: true :: true :: true :: true :: true :: true :: true :: true :: true :: true :: true :: true :: true :: true :: true :: true :: true :: true :: true :: true :: true :: true :: true :: true :: []) m (.ptr 0 0 0 :: .junk :: .ptr 1 0 0 :: .ptr 2 0 0 :: .d (.int .i64 i) :: .junk :: .junk :: .junk :: .junk :: .junk :: .junk :: .junk :: .junk :: .junk :: .junk :: .junk :: .junk :: .junk :: .junk :: .junk :: .junk :: .junk :: .junk :: .junk :: .junk :: .junk :: .junk :: .junk :: .junk :: .junk :: .junk :: .junk :: .junk :: .junk :: .junk :: .junk :: .junk :: .junk :: .junk :: []) [O.box [A.d (D.ivs c.length (bytesL c)), A.d (D.int .i64 p)], .box [.d (.int .i64 0), .d (.int .i64 0), .sl 3 0 0 0], .box [.d (.int .i64 3), .d (.int .i64 16), .sl 4 0 0 len], .arr [] 0 0, .arr (edgesD es) e 0] k
    = k (.exit 0) (.ptr 0 0 0 :: .junk :: .ptr 1 0 0 :: .ptr 2 0 0 :: .d (.int .i64 16) :: .junk :: .junk :: .junk :: .junk :: .junk :: .junk :: .junk :: .junk :: .junk :: .junk :: .junk :: .junk :: .junk :: .junk :: .junk :: .junk :: .junk :: .junk :: .junk :: .junk :: .junk :: .junk :: .junk :: .junk :: .junk :: .junk :: .junk :: .junk :: .junk :: .junk :: .junk :: .junk :: .junk :: .junk :: []) [O.box [A.d (D.ivs c.length (bytesL c)), A.d (D.int .i64 q)], .box [.d (.int .i64 0), .d (.int .i64 0), .sl 3 0 0 0], .box [.d (.int .i64 3), .d (.int .i64 16), .sl 4 0 0 es2.length], .arr [] 0 0, .arr (edgesD es2) (eE es2) 0] := by
  intro j
  induction j with
  | zero =>
    intro i p es len e hlen he h0 hi hl hp hp2
    obtain rfl : i = 16 := by omega
    refine ⟨es, p, by omega, by omega, by omega, fun R L n m k hn hL hm => ?_⟩
    obtain ⟨m, rfl⟩ : ∃ q, m = q + 1 := ⟨m - 1, by omega⟩
    subst hlen
    subst he
    rw [step_s_l2Big_0]
    simp only [S_s_l2Big_0, Tryd.f58, SLM, simprocAttr]
    simp -implicitDefEqProofs (maxSteps := 2000000) (disch := first | assumption | (refine Shut.mk ?_; kernel_rfl) | omega | (simp only [GT]; done) | (simp only [LN] <;> omega) | fail) only [↓WD, ↓kAsg, ↓kRet, ↓clash_free, ↓WDD, ↓kOpD_callv, WK, UN, TY, LB, MD, i64_id, simprocAttr, ↓CV, Int.lt_irrefl]
  | succ j ih =>
    intro i p es len e hlen he h0 hi hl hp hp2
    have hlt : i < 16 := by omega
    obtain ⟨v, v0, _, _, kd⟩ := ex_pick hc p 3 hp (by omega)
    subst hlen
    by_cases hv : v = 0
    · subst hv
      obtain ⟨u, u0, u1, _, kd1⟩ := ex_pick hc (p + 1) 16 (by omega) (by omega)
      obtain ⟨es2, q, g1, g2, g3, kd2⟩ := ih (i + 1) (p + 1 + 1) (es ++ [⟨i, 0, (i + 1).tmod 16⟩] ++ [⟨i, 1, u⟩]) (es.length + 1 + 1) 3 (by simp) eE_snoc.symm (by omega) (by omega) (by simp; omega) (by omega) (by omega)
      refine ⟨es2, q, by simp at g1; omega, by omega, by omega, fun R L n m k hn hL hm => ?_⟩
      obtain ⟨m, rfl⟩ : ∃ q, m = q + 1 := ⟨m - 1, by omega⟩
      rcases eE_or es with h1 | h1
      · have he0 : e = 0 := by omega
        subst he0
        rw [step_s_l2Big_0]
        simp only [S_s_l2Big_0, Tryd.f58, SLM, simprocAttr]
        simp -implicitDefEqProofs (maxSteps := 2000000) (disch := first | assumption | (refine Shut.mk ?_; kernel_rfl) | omega | (simp only [GT]; done) | (simp only [LN] <;> omega) | fail) only [↓WD, ↓kAsg, ↓kRet, ↓clash_free, ↓WDD, ↓kOpD_callv, WK, UN, TY, LB, MD, i64_id, simprocAttr, ↓CV, LE, hlt, ↓kd, ↓kd1, ↓kd2]
      · have he0 : e = 3 := by omega
        subst he0
        rw [step_s_l2Big_0]
        simp only [S_s_l2Big_0, Tryd.f58, SLM, simprocAttr]
        simp -implicitDefEqProofs (maxSteps := 2000000) (disch := first | assumption | (refine Shut.mk ?_; kernel_rfl) | omega | (simp only [GT]; done) | (simp only [LN] <;> omega) | fail) only [↓WD, ↓kAsg, ↓kRet, ↓clash_free, ↓WDD, ↓kOpD_callv, WK, UN, TY, LB, MD, i64_id, simprocAttr, ↓CV, LE, hlt, ↓kd, ↓kd1, ↓kd2]
    · obtain ⟨es2, q, g1, g2, g3, kd2⟩ := ih (i + 1) (p + 1) (es ++ [⟨i, 0, (i + 1).tmod 16⟩]) (es.length + 1) 3 (by simp) eE_snoc.symm (by omega) (by omega) (by simp; omega) (by omega) (by omega)
      refine ⟨es2, q, by simp at g1; omega, by omega, by omega, fun R L n m k hn hL hm => ?_⟩
      obtain ⟨m, rfl⟩ : ∃ q, m = q + 1 := ⟨m - 1, by omega⟩
      rcases eE_or es with h1 | h1
      · have he0 : e = 0 := by omega
        subst he0
        rw [step_s_l2Big_0]
        simp only [S_s_l2Big_0, Tryd.f58, SLM, simprocAttr]
        simp -implicitDefEqProofs (maxSteps := 2000000) (disch := first | assumption | (refine Shut.mk ?_; kernel_rfl) | omega | (simp only [GT]; done) | (simp only [LN] <;> omega) | fail) only [↓WD, ↓kAsg, ↓kRet, ↓clash_free, ↓WDD, ↓kOpD_callv, WK, UN, TY, LB, MD, i64_id, simprocAttr, ↓CV, LE, hlt, ↓kd, hv, ↓kd2]
      · have he0 : e = 3 := by omega
        subst he0
        rw [step_s_l2Big_0]
        simp only [S_s_l2Big_0, Tryd.f58, SLM, simprocAttr]
        simp -implicitDefEqProofs (maxSteps := 2000000) (disch := first | assumption | (refine Shut.mk ?_; kernel_rfl) | omega | (simp only [GT]; done) | (simp only [LN] <;> omega) | fail) only [↓WD, ↓kAsg, ↓kRet, ↓clash_free, ↓WDD, ↓kOpD_callv, WK, UN, TY, LB, MD, i64_id, simprocAttr, ↓CV, LE, hlt, ↓kd, hv, ↓kd2]

theorem m_l2Big : (env.hint 58).mode = 0 := by kernel_rfl

theorem ex_l2Big {c : List UInt8} (hc : c.length ≤ 2000) (p : Int) (hp : 0 ≤ p) (hp2 : p ≤ 600000000) : ∃ (es : List Edge) (q : Int), es.length ≤ 60000 ∧ p ≤ q ∧ q ≤ p + 60000 ∧ (∀ (R : Type) (L n : Nat) (hq : H) (k : A → H → Option R), 4 ≤ n → 2 ^ 60 ≤ L → kCall env (evCall env L n) (O.box [A.d (D.ivs c.length (bytesL c)), A.d (D.int .i64 p)] :: hq) 58 (.ptr 0 0 0 :: []) k = k (.agg [.d (.int .i64 3), .d (.int .i64 16), .d (.ivs es.length (edgesD es))]) (O.box [A.d (D.ivs c.length (bytesL c)), A.d (D.int .i64 q)] :: hq)) := by
  obtain ⟨es, q, g1, g2, g3, kd⟩ := ex_loop_l2Big hc 16 0 p [] 0 0 rfl rfl (by omega) (by omega) (by simp) hp (by omega)
  simp only [edgesD_nil] at kd
  simp only [List.length_nil, Nat.zero_add] at g1
  refine ⟨es, q, by omega, by omega, by omega, fun R L n hq k hn hL => kCall_rd m_l2Big rfl rfl ?_⟩
  rcases eE_or es with h1 | h1
  · have he0 : es = [] := by unfold eE at h1; split at h1 <;> simp_all
    subst he0
    obtain ⟨n, rfl⟩ : ∃ m, n = m + 1 := ⟨n - 1, by omega⟩
    rw [fn_s_l2Big]
    simp only [S_s_l2Big, Tryd.f58, SLM, simprocAttr]
    simp -implicitDefEqProofs (maxSteps := 2000000) (disch := first | assumption | (refine Shut.mk ?_; kernel_rfl) | omega | (simp only [GT]; done) | (simp only [LN] <;> omega) | fail) only [↓WD, ↓kAsg, ↓kRet, ↓clash_free, ↓WDD, ↓kOpD_callv, WK, UN, TY, LB, MD, i64_id, simprocAttr, ↓CV, LE, ↓kd, h1, edgesD_nil, List.length_nil]
  · obtain ⟨n, rfl⟩ : ∃ m, n = m + 1 := ⟨n - 1, by omega⟩
    rw [fn_s_l2Big]
    simp only [S_s_l2Big, Tryd.f58, SLM, simprocAttr]
    simp -implicitDefEqProofs (maxSteps := 2000000) (disch := first | assumption | (refine Shut.mk ?_; kernel_rfl) | omega | (simp only [GT]; done) | (simp only [LN] <;> omega) | fail) only [↓WD, ↓kAsg, ↓kRet, ↓clash_free, ↓WDD, ↓kOpD_callv, WK, UN, TY, LB, MD, i64_id, simprocAttr, ↓CV, LE, ↓kd, h1]

/-! ### wrong ones -/

theorem m_l2Wrong : (env.hint 59).mode = 0 := by kernel_rfl

theorem splice0 {l : List Edge} {k : Nat} {v : Int} (h : k < l.length) : List.take (k * 3) (edgesD l) ++ [.int .i64 v] ++ List.drop (k * 3 + 1) (edgesD l) = edgesD (l.set k ⟨v, (l.getD k default).lt, (l.getD k default).to⟩) := edges_set0 h
theorem splice1 {l : List Edge} {k : Nat} {v : Int} (h : k < l.length) : List.take (k * 3 + 1) (edgesD l) ++ [.int .i64 v] ++ List.drop (k * 3 + 1 + 1) (edgesD l) = edgesD (l.set k ⟨(l.getD k default).fr, v, (l.getD k default).to⟩) := edges_set1 h
theorem splice2 {l : List Edge} {k : Nat} {v : Int} (h : k < l.length) : List.take (k * 3 + 2) (edgesD l) ++ [.int .i64 v] ++ List.drop (k * 3 + 2 + 1) (edgesD l) = edgesD (l.set k ⟨(l.getD k default).fr, (l.getD k default).lt, v⟩) := edges_set2 h

theorem ex_l2Wrong {c : List UInt8} (hc : c.length ≤ 2000) (al st : Int) (es : List Edge) (hes : es.length ≤ 70000) (p : Int) (hp : 0 ≤ p) (hp2 : p ≤ 600000000) : ∃ (al2 st2 : Int) (es2 : List Edge) (q : Int), es2.length ≤ 80000 ∧ p ≤ q ∧ q ≤ p + 60000 ∧ (∀ (R : Type) (L n : Nat) (hq : H) (k : A → H → Option R), 4 ≤ n → 2 ^ 60 ≤ L → kCall env (evCall env L n) (O.box [A.d (D.ivs c.length (bytesL c)), A.d (D.int .i64 p)] :: hq) 59 (.ptr 0 0 0 :: [.agg [.d (.int .i64 al), .d (.int .i64 st), .d (.ivs es.length (edgesD es))]]) k = k (.agg [.d (.int .i64 al2), .d (.int .i64 st2), .d (.ivs es2.length (edgesD es2))]) (O.box [A.d (D.ivs c.length (bytesL c)), A.d (D.int .i64 q)] :: hq)) := by
  obtain ⟨u, u0, u1, u2, kd⟩ := ex_pick hc p es.length hp (by omega)
  obtain ⟨v, v0, v1, _, kd1⟩ := ex_pick hc (p + 1) 30 (by omega) (by omega)
  have het : (edgesD es).take (es.length * 3) = edgesD es := edges_take (Nat.le_refl _)
  by_cases w0 : v = 0
  · subst w0
    obtain ⟨x, hx, kd2⟩ := ex_num hc [64, -1, 1, 63] (by simp) (by simp) (p + 1 + 1) (by omega) (by omega)
    simp only [ints, List.map_cons, List.map_nil, List.length_cons, List.length_nil, Nat.zero_add, Nat.reduceAdd] at kd2
    refine ⟨x, st, es, p + 1 + 1 + 1, by omega, by omega, by omega, fun R L n hq k hn hL => kCall_rd m_l2Wrong rfl rfl ?_⟩
    obtain ⟨n, rfl⟩ : ∃ m, n = m + 1 := ⟨n - 1, by omega⟩
    rw [fn_s_l2Wrong]
    simp only [S_s_l2Wrong, Tryd.f59, SLM, simprocAttr]
    simp -implicitDefEqProofs (maxSteps := 2000000) (disch := first | assumption | (refine Shut.mk ?_; kernel_rfl) | omega | (simp only [GT]; done) | (simp only [LN] <;> omega) | fail) only [↓WD, ↓kAsg, ↓kRet, ↓clash_free, ↓WDD, ↓kOpD_callv, WK, UN, TY, LB, MD, i64_id, simprocAttr, ↓CV, LE, ↓kd, ↓kd1, ↓kd2, het]
  by_cases w1 : v = 1
  · subst w1
    obtain ⟨x, hx, kd2⟩ := ex_num hc [0, 17, -1, 16, 1] (by simp) (by simp) (p + 1 + 1) (by omega) (by omega)
    simp only [ints, List.map_cons, List.map_nil, List.length_cons, List.length_nil, Nat.zero_add, Nat.reduceAdd] at kd2
    refine ⟨al, x, es, p + 1 + 1 + 1, by omega, by omega, by omega, fun R L n hq k hn hL => kCall_rd m_l2Wrong rfl rfl ?_⟩
    obtain ⟨n, rfl⟩ : ∃ m, n = m + 1 := ⟨n - 1, by omega⟩
    rw [fn_s_l2Wrong]
    simp only [S_s_l2Wrong, Tryd.f59, SLM, simprocAttr]
    simp -implicitDefEqProofs (maxSteps := 2000000) (disch := first | assumption | (refine Shut.mk ?_; kernel_rfl) | omega | (simp only [GT]; done) | (simp only [LN] <;> omega) | fail) only [↓WD, ↓kAsg, ↓kRet, ↓clash_free, ↓WDD, ↓kOpD_callv, WK, UN, TY, LB, MD, i64_id, simprocAttr, ↓CV, LE, ↓kd, ↓kd1, ↓kd2, het]
  by_cases w2 : v = 2
  · subst w2
    by_cases hpos : (0 : Int) < es.length
    · have hu : u < es.length := u1 (by omega)
      have hk : u.toNat < es.length := by omega
      obtain ⟨x, hx, kd2⟩ := ex_num hc [-1, 16, 0, 2] (by simp) (by simp) (p + 1 + 1) (by omega) (by omega)
      simp only [ints, List.map_cons, List.map_nil, List.length_cons, List.length_nil, Nat.zero_add, Nat.reduceAdd] at kd2
      have hsl : (es.set u.toNat ⟨x, (es.getD u.toNat default).lt, (es.getD u.toNat default).to⟩).length = es.length := by simp
      have hst : (edgesD (es.set u.toNat ⟨x, (es.getD u.toNat default).lt, (es.getD u.toNat default).to⟩)).take (es.length * 3) = edgesD (es.set u.toNat ⟨x, (es.getD u.toNat default).lt, (es.getD u.toNat default).to⟩) := edges_take (by omega)
      refine ⟨al, st, es.set u.toNat ⟨x, (es.getD u.toNat default).lt, (es.getD u.toNat default).to⟩, p + 1 + 1 + 1, by omega, by omega, by omega, fun R L n hq k hn hL => kCall_rd m_l2Wrong rfl rfl ?_⟩
      rw [hsl]
      obtain ⟨n, rfl⟩ : ∃ m, n = m + 1 := ⟨n - 1, by omega⟩
      rw [fn_s_l2Wrong]
      simp only [S_s_l2Wrong, Tryd.f59, SLM, simprocAttr]
      simp -implicitDefEqProofs (maxSteps := 2000000) (disch := first | assumption | (refine Shut.mk ?_; kernel_rfl) | omega | (simp only [GT]; done) | (simp only [LN] <;> omega) | fail) only [↓WD, ↓kAsg, ↓kRet, ↓clash_free, ↓WDD, ↓kOpD_callv, WK, UN, TY, LB, MD, i64_id, simprocAttr, ↓CV, LE, ↓kd, ↓kd1, ↓kd2, het, hpos, hu, splice0, hst]
    · refine ⟨al, st, es, p + 1 + 1, by omega, by omega, by omega, fun R L n hq k hn hL => kCall_rd m_l2Wrong rfl rfl ?_⟩
      obtain ⟨n, rfl⟩ : ∃ m, n = m + 1 := ⟨n - 1, by omega⟩
      rw [fn_s_l2Wrong]
      simp only [S_s_l2Wrong, Tryd.f59, SLM, simprocAttr]
      simp -implicitDefEqProofs (maxSteps := 2000000) (disch := first | assumption | (refine Shut.mk ?_; kernel_rfl) | omega | (simp only [GT]; done) | (simp only [LN] <;> omega) | fail) only [↓WD, ↓kAsg, ↓kRet, ↓clash_free, ↓WDD, ↓kOpD_callv, WK, UN, TY, LB, MD, i64_id, simprocAttr, ↓CV, LE, ↓kd, ↓kd1, het, hpos]
  by_cases w3 : v = 3
  · subst w3
    by_cases hpos : (0 : Int) < es.length
    · have hu : u < es.length := u1 (by omega)
      have hk : u.toNat < es.length := by omega
      obtain ⟨x, hx, kd2⟩ := ex_num hc [-1, 16, 0, 3] (by simp) (by simp) (p + 1 + 1) (by omega) (by omega)
      simp only [ints, List.map_cons, List.map_nil, List.length_cons, List.length_nil, Nat.zero_add, Nat.reduceAdd] at kd2
      have hsl : (es.set u.toNat ⟨(es.getD u.toNat default).fr, (es.getD u.toNat default).lt, x⟩).length = es.length := by simp
      have hst : (edgesD (es.set u.toNat ⟨(es.getD u.toNat default).fr, (es.getD u.toNat default).lt, x⟩)).take (es.length * 3) = edgesD (es.set u.toNat ⟨(es.getD u.toNat default).fr, (es.getD u.toNat default).lt, x⟩) := edges_take (by omega)
      refine ⟨al, st, es.set u.toNat ⟨(es.getD u.toNat default).fr, (es.getD u.toNat default).lt, x⟩, p + 1 + 1 + 1, by omega, by omega, by omega, fun R L n hq k hn hL => kCall_rd m_l2Wrong rfl rfl ?_⟩
      rw [hsl]
      obtain ⟨n, rfl⟩ : ∃ m, n = m + 1 := ⟨n - 1, by omega⟩
      rw [fn_s_l2Wrong]
      simp only [S_s_l2Wrong, Tryd.f59, SLM, simprocAttr]
      simp -implicitDefEqProofs (maxSteps := 2000000) (disch := first | assumption | (refine Shut.mk ?_; kernel_rfl) | omega | (simp only [GT]; done) | (simp only [LN] <;> omega) | fail) only [↓WD, ↓kAsg, ↓kRet, ↓clash_free, ↓WDD, ↓kOpD_callv, WK, UN, TY, LB, MD, i64_id, simprocAttr, ↓CV, LE, ↓kd, ↓kd1, ↓kd2, het, hpos, hu, splice2, hst]
    · refine ⟨al, st, es, p + 1 + 1, by omega, by omega, by omega, fun R L n hq k hn hL => kCall_rd m_l2Wrong rfl rfl ?_⟩
      obtain ⟨n, rfl⟩ : ∃ m, n = m + 1 := ⟨n - 1, by omega⟩
      rw [fn_s_l2Wrong]
      simp only [S_s_l2Wrong, Tryd.f59, SLM, simprocAttr]
      simp -implicitDefEqProofs (maxSteps := 2000000) (disch := first | assumption | (refine Shut.mk ?_; kernel_rfl) | omega | (simp only [GT]; done) | (simp only [LN] <;> omega) | fail) only [↓WD, ↓kAsg, ↓kRet, ↓clash_free, ↓WDD, ↓kOpD_callv, WK, UN, TY, LB, MD, i64_id, simprocAttr, ↓CV, LE, ↓kd, ↓kd1, het, hpos]
  by_cases w4 : v = 4
  · subst w4
    by_cases hpos : (0 : Int) < es.length
    · have hu : u < es.length := u1 (by omega)
      have hk : u.toNat < es.length := by omega
      obtain ⟨x, hx, kd2⟩ := ex_num hc [-1, 6, 70, 5, 0] (by simp) (by simp) (p + 1 + 1) (by omega) (by omega)
      simp only [ints, List.map_cons, List.map_nil, List.length_cons, List.length_nil, Nat.zero_add, Nat.reduceAdd] at kd2
      have hsl : (es.set u.toNat ⟨(es.getD u.toNat default).fr, x, (es.getD u.toNat default).to⟩).length = es.length := by simp
      have hst : (edgesD (es.set u.toNat ⟨(es.getD u.toNat default).fr, x, (es.getD u.toNat default).to⟩)).take (es.length * 3) = edgesD (es.set u.toNat ⟨(es.getD u.toNat default).fr, x, (es.getD u.toNat default).to⟩) := edges_take (by omega)
      refine ⟨al, st, es.set u.toNat ⟨(es.getD u.toNat default).fr, x, (es.getD u.toNat default).to⟩, p + 1 + 1 + 1, by omega, by omega, by omega, fun R L n hq k hn hL => kCall_rd m_l2Wrong rfl rfl ?_⟩
      rw [hsl]
      obtain ⟨n, rfl⟩ : ∃ m, n = m + 1 := ⟨n - 1, by omega⟩
      rw [fn_s_l2Wrong]
      simp only [S_s_l2Wrong, Tryd.f59, SLM, simprocAttr]
      simp -implicitDefEqProofs (maxSteps := 2000000) (disch := first | assumption | (refine Shut.mk ?_; kernel_rfl) | omega | (simp only [GT]; done) | (simp only [LN] <;> omega) | fail) only [↓WD, ↓kAsg, ↓kRet, ↓clash_free, ↓WDD, ↓kOpD_callv, WK, UN, TY, LB, MD, i64_id, simprocAttr, ↓CV, LE, ↓kd, ↓kd1, ↓kd2, het, hpos, hu, splice1, hst]
    · refine ⟨al, st, es, p + 1 + 1, by omega, by omega, by omega, fun R L n hq k hn hL => kCall_rd m_l2Wrong rfl rfl ?_⟩
      obtain ⟨n, rfl⟩ : ∃ m, n = m + 1 := ⟨n - 1, by omega⟩
      rw [fn_s_l2Wrong]
      simp only [S_s_l2Wrong, Tryd.f59, SLM, simprocAttr]
      simp -implicitDefEqProofs (maxSteps := 2000000) (disch := first | assumption | (refine Shut.mk ?_; kernel_rfl) | omega | (simp only [GT]; done) | (simp only [LN] <;> omega) | fail) only [↓WD, ↓kAsg, ↓kRet, ↓clash_free, ↓WDD, ↓kOpD_callv, WK, UN, TY, LB, MD, i64_id, simprocAttr, ↓CV, LE, ↓kd, ↓kd1, het, hpos]
  by_cases w5 : v = 5
  · subst w5
    by_cases hpos : (0 : Int) < es.length
    · have hu : u < es.length := u1 (by omega)
      have hk : u.toNat < es.length := by omega
      have hst : (edgesD (es ++ [es.getD u.toNat default])).take ((es.length + 1) * 3) = edgesD (es ++ [es.getD u.toNat default]) := edges_take (by simp)
      refine ⟨al, st, es ++ [es.getD u.toNat default], p + 1 + 1, by simp; omega, by omega, by omega, fun R L n hq k hn hL => kCall_rd m_l2Wrong rfl rfl ?_⟩
      obtain ⟨n, rfl⟩ : ∃ m, n = m + 1 := ⟨n - 1, by omega⟩
      rw [fn_s_l2Wrong]
      simp only [S_s_l2Wrong, Tryd.f59, SLM, simprocAttr]
      simp -implicitDefEqProofs (maxSteps := 2000000) (disch := first | assumption | (refine Shut.mk ?_; kernel_rfl) | omega | (simp only [GT]; done) | (simp only [LN] <;> omega) | fail) only [↓WD, ↓kAsg, ↓kRet, ↓clash_free, ↓WDD, ↓kOpD_callv, WK, UN, TY, LB, MD, i64_id, simprocAttr, ↓CV, LE, ↓kd, ↓kd1, het, hpos, hu, hst, List.length_append]
    · refine ⟨al, st, es, p + 1 + 1, by omega, by omega, by omega, fun R L n hq k hn hL => kCall_rd m_l2Wrong rfl rfl ?_⟩
      obtain ⟨n, rfl⟩ : ∃ m, n = m + 1 := ⟨n - 1, by omega⟩
      rw [fn_s_l2Wrong]
      simp only [S_s_l2Wrong, Tryd.f59, SLM, simprocAttr]
      simp -implicitDefEqProofs (maxSteps := 2000000) (disch := first | assumption | (refine Shut.mk ?_; kernel_rfl) | omega | (simp only [GT]; done) | (simp only [LN] <;> omega) | fail) only [↓WD, ↓kAsg, ↓kRet, ↓clash_free, ↓WDD, ↓kOpD_callv, WK, UN, TY, LB, MD, i64_id, simprocAttr, ↓CV, LE, ↓kd, ↓kd1, het, hpos]
  by_cases w6 : v = 6
  · subst w6
    obtain ⟨x, x0, _, _, kd2⟩ := ex_pick hc (p + 1 + 1) 4 (by omega) (by omega)
    obtain ⟨y, y0, _, _, kd3⟩ := ex_pick hc (p + 1 + 1 + 1) 3 (by omega) (by omega)
    obtain ⟨z, z0, _, _, kd4⟩ := ex_pick hc (p + 1 + 1 + 1 + 1) 4 (by omega) (by omega)
    have hst : (edgesD (es ++ [⟨x, y, z⟩])).take ((es.length + 1) * 3) = edgesD (es ++ [⟨x, y, z⟩]) := edges_take (by simp)
    refine ⟨al, st, es ++ [⟨x, y, z⟩], p + 1 + 1 + 1 + 1 + 1, by simp; omega, by omega, by omega, fun R L n hq k hn hL => kCall_rd m_l2Wrong rfl rfl ?_⟩
    obtain ⟨n, rfl⟩ : ∃ m, n = m + 1 := ⟨n - 1, by omega⟩
    rw [fn_s_l2Wrong]
    simp only [S_s_l2Wrong, Tryd.f59, SLM, simprocAttr]
    simp -implicitDefEqProofs (maxSteps := 2000000) (disch := first | assumption | (refine Shut.mk ?_; kernel_rfl) | omega | (simp only [GT]; done) | (simp only [LN] <;> omega) | fail) only [↓WD, ↓kAsg, ↓kRet, ↓clash_free, ↓WDD, ↓kOpD_callv, WK, UN, TY, LB, MD, i64_id, simprocAttr, ↓CV, LE, ↓kd, ↓kd1, ↓kd2, ↓kd3, ↓kd4, het, hst, List.length_append]
  refine ⟨al, st, es, p + 1 + 1, by omega, by omega, by omega, fun R L n hq k hn hL => kCall_rd m_l2Wrong rfl rfl ?_⟩
  obtain ⟨n, rfl⟩ : ∃ m, n = m + 1 := ⟨n - 1, by omega⟩
  rw [fn_s_l2Wrong]
  simp only [S_s_l2Wrong, Tryd.f59, SLM, simprocAttr]
  simp -implicitDefEqProofs (maxSteps := 2000000) (disch := first | assumption | (refine Shut.mk ?_; kernel_rfl) | omega | (simp only [GT]; done) | (simp only [LN] <;> omega) | fail) only [↓WD, ↓kAsg, ↓kRet, ↓clash_free, ↓WDD, ↓kOpD_callv, WK, UN, TY, LB, MD, i64_id, simprocAttr, ↓CV, LE, ↓kd, ↓kd1, het, w0, w1, w2, w3, w4, w5, w6]

end Ev
end Go.Proofs.YtojaohcpgelhmaaDoor
end
