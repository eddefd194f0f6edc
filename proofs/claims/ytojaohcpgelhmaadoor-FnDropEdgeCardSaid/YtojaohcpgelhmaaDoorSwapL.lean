/-
  Systems that are drawn, by any of the ways.
-/
import Derived.Test.YtojaohcpgelhmaaDoorDrawT
import Derived.Test.YtojaohcpgelhmaaDoorDrawP
import Derived.Test.YtojaohcpgelhmaaDoorSwapW
section
set_option linter.unusedSimpArgs false
set_option linter.unusedVariables false
set_option maxRecDepth 8000
set_option maxHeartbeats 4000000
set_option pp.maxSteps 6000
namespace Go.Proofs.YtojaohcpgelhmaaDoor
namespace Ev

theorem tripB_edges : ∀ (n : Nat) (cs : List D), tripB n cs = true → ∃ l : List Edge, l.length = n ∧ cs = edgesD l
  | 0, [], _ => ⟨[], rfl, rfl⟩
  | 0, _ :: _, h => by simp [tripB] at h
  | n + 1, cs, h => by
    unfold tripB at h
    split at h
    · exfalso; omega
    · rename_i m a b c ds heq
      cases heq
      obtain ⟨l, h1, h2⟩ := tripB_edges n _ h
      exact ⟨⟨a, b, c⟩ :: l, by simp [h1], by rw [h2, edgesD_cons]⟩
    · cases h

theorem shape_sys {r : Option (A × H)} (h : sysShape r = true) : ∃ (al st : Int) (l : List Edge) (ok : Bool), l.length ≤ 100 ∧ r = some (.tup [.agg [.d (.int .i64 al), .d (.int .i64 st), .d (.ivs l.length (edgesD l))], .d (.bool ok)], []) := by
  unfold sysShape at h
  split at h
  · rename_i al st n cs ok
    simp only [Bool.and_eq_true, decide_eq_true_eq] at h
    obtain ⟨l, h1, h2⟩ := tripB_edges _ _ h.1
    subst h1
    subst h2
    exact ⟨al, st, l, ok, h.2, rfl⟩
  · cases h

/-- A text of these is parsed: to some system. -/
theorem ex_ParseSystem {t : List UInt8} (ht : t ∈ texts2) : ∃ (al st : Int) (l : List Edge) (ok : Bool), l.length ≤ 100 ∧ ∀ (L n : Nat), 12 ≤ n → 2 ^ 60 ≤ L → evCall env L n 78 [.d (.str t)] [] = some (.tup [.agg [.d (.int .i64 al), .d (.int .i64 st), .d (.ivs l.length (edgesD l))], .d (.bool ok)], []) := by
  obtain ⟨al, st, l, ok, h1, h2⟩ := shape_sys (text2_all t ht)
  exact ⟨al, st, l, ok, h1, fun L n hn hL => evCall_more (by omega) hn _ _ _ _ h2⟩

theorem m_l2Draw : (env.hint 60).mode = 0 := by kernel_rfl
theorem m_l2Any : (env.hint 23).mode = 0 := by kernel_rfl

theorem ev_s_l2Texts {L n : Nat} (hn : 1 ≤ n) : evCall env L n 80 [] [] = some (.d (.ivs 11 (strsL texts2)), []) := by
  obtain ⟨n, rfl⟩ : ∃ m, n = m + 1 := ⟨n - 1, by omega⟩
  kernel_rfl

theorem kc_s_l2Texts {R : Type} {L n : Nat} {hq : H} {k : A → H → Option R} (hn : 1 ≤ n) : kCall env (evCall env L n) hq 80 [] k = k (.d (.ivs 11 (strsL texts2))) hq :=
  kCall_still rfl (ev_s_l2Texts hn) rfl (.inr rfl)

theorem ex_l2Draw {c : List UInt8} (hc : c.length ≤ 2000) (p : Int) (hp : 0 ≤ p) (hp2 : p ≤ 500000000) : ∃ (al st : Int) (es : List Edge) (q : Int), es.length ≤ 60000 ∧ p ≤ q ∧ q ≤ p + 70000 ∧ (∀ (R : Type) (L n : Nat) (hq : H) (k : A → H → Option R), 14 ≤ n → 2 ^ 60 ≤ L → kCall env (evCall env L n) (O.box [A.d (D.ivs c.length (bytesL c)), A.d (D.int .i64 p)] :: hq) 60 (.ptr 0 0 0 :: []) k = k (.agg [.d (.int .i64 al), .d (.int .i64 st), .d (.ivs es.length (edgesD es))]) (O.box [A.d (D.ivs c.length (bytesL c)), A.d (D.int .i64 q)] :: hq)) := by
  obtain ⟨v, v0, v1, _, kd1⟩ := ex_pick hc p 3 hp (by omega)
  have rest : ∀ p1 : Int, 0 ≤ p1 → p1 ≤ 500000010 → ∃ (al st few : Int) (es : List Edge) (q : Int), (0 ≤ st ∧ st ≤ 100) ∧ es.length ≤ 60000 ∧ p1 ≤ q ∧ q ≤ p1 + 60010 ∧
      (∀ (R : Type) (L n id : Nat) (hq : H) (k : A → H → Option R), 2 ≤ n → 2 ^ 60 ≤ L → hq[id]? = some (.arr (ints [3, 6, 7, 5, 1, 0, 12]) 1 0) → kCall env (evCall env L n) (O.box [A.d (D.ivs c.length (bytesL c)), A.d (D.int .i64 p1)] :: hq) 61 [.ptr 0 0 0, .sl (id + 1) 0 0 7] k = k (.d (.int .i64 al)) (O.box [A.d (D.ivs c.length (bytesL c)), A.d (D.int .i64 (p1 + 1))] :: hq)) ∧
      (∀ (R : Type) (L n id : Nat) (hq : H) (k : A → H → Option R), 2 ≤ n → 2 ^ 60 ≤ L → hq[id]? = some (.arr (ints [3, 2, 4, 1, 5]) 1 0) → kCall env (evCall env L n) (O.box [A.d (D.ivs c.length (bytesL c)), A.d (D.int .i64 (p1 + 1))] :: hq) 61 [.ptr 0 0 0, .sl (id + 1) 0 0 5] k = k (.d (.int .i64 st)) (O.box [A.d (D.ivs c.length (bytesL c)), A.d (D.int .i64 (p1 + 1 + 1))] :: hq)) ∧
      (∀ (R : Type) (L n id : Nat) (hq : H) (k : A → H → Option R), 2 ≤ n → 2 ^ 60 ≤ L → hq[id]? = some (.arr (ints [3, 2, 4, 6]) 1 0) → kCall env (evCall env L n) (O.box [A.d (D.ivs c.length (bytesL c)), A.d (D.int .i64 (p1 + 1 + 1))] :: hq) 61 [.ptr 0 0 0, .sl (id + 1) 0 0 4] k = k (.d (.int .i64 few)) (O.box [A.d (D.ivs c.length (bytesL c)), A.d (D.int .i64 (p1 + 1 + 1 + 1))] :: hq)) ∧
      (∀ (R : Type) (L n : Nat) (hq : H) (k : A → H → Option R), 4 ≤ n → 2 ^ 60 ≤ L → kCall env (evCall env L n) (O.box [A.d (D.ivs c.length (bytesL c)), A.d (D.int .i64 (p1 + 1 + 1 + 1))] :: hq) 81 (.ptr 0 0 0 :: [.d (.int .i64 al), .d (.int .i64 st), .d (.int .i64 few)]) k = k (.agg [.d (.int .i64 al), .d (.int .i64 st), .d (.ivs es.length (edgesD es))]) (O.box [A.d (D.ivs c.length (bytesL c)), A.d (D.int .i64 q)] :: hq)) := by
    intro p1 h0 h1
    obtain ⟨al, _, k1⟩ := ex_num hc [3, 6, 7, 5, 1, 0, 12] (by simp) (by simp) p1 h0 (by omega)
    obtain ⟨st, hst, k2⟩ := ex_num hc [3, 2, 4, 1, 5] (by simp) (by simp) (p1 + 1) (by omega) (by omega)
    obtain ⟨few, _, k3⟩ := ex_num hc [3, 2, 4, 6] (by simp) (by simp) (p1 + 1 + 1) (by omega) (by omega)
    have hst2 : 0 ≤ st ∧ st ≤ 100 := by simp at hst; omega
    obtain ⟨es, q, g1, g2, g3, k4⟩ := ex_l2Random hc al st few hst2.1 hst2.2 (p1 + 1 + 1 + 1) (by omega) (by omega)
    exact ⟨al, st, few, es, q, hst2, g1, by omega, by omega, k1, k2, k3, k4⟩
  by_cases hv : v = 0
  · subst hv
    obtain ⟨t, ht, kd2⟩ := ex_ofD hc texts2 (by simp [texts2]) (by simp [texts2]) (p + 1) (by omega) (by omega)
    have e11 : texts2.length = 11 := rfl
    rw [e11] at kd2
    obtain ⟨al, st, es, ok, hes, he⟩ := ex_ParseSystem ht
    have kc_p : ∀ {R : Type} {L n : Nat} {hq : H} {k : A → H → Option R}, 12 ≤ n → 2 ^ 60 ≤ L → kCall env (evCall env L n) hq 78 [.d (.str t)] k = k (.tup [.agg [.d (.int .i64 al), .d (.int .i64 st), .d (.ivs es.length (edgesD es))], .d (.bool ok)]) hq := fun hn hL => kCall_still rfl (he _ _ hn hL) rfl (.inr rfl)
    cases ok with
    | true =>
      refine ⟨al, st, es, p + 1 + 1, by omega, by omega, by omega, fun R L n hq k hn hL => kCall_rd m_l2Draw rfl rfl ?_⟩
      obtain ⟨n, rfl⟩ : ∃ m, n = m + 1 := ⟨n - 1, by omega⟩
      rw [fn_s_l2Draw]
      simp only [S_s_l2Draw, Tryd.f60, SLM, simprocAttr]
      simp -implicitDefEqProofs (maxSteps := 2000000) (disch := first | assumption | (refine Shut.mk ?_; kernel_rfl) | omega | (simp only [GT]; done) | (simp only [LN] <;> omega) | fail) only [↓WD, ↓kAsg, ↓kRet, ↓clash_free, ↓WDD, ↓kOpD_callv, WK, UN, TY, LB, MD, i64_id, simprocAttr, ↓CV, ↓kc_s_l2Texts, LE, ↓kd1, ↓kd2, ↓kc_p]
    | false =>
      obtain ⟨al', st', few, es', q, hst, g1, g2, g3, k1, k2, k3, k4⟩ := rest (p + 1 + 1) (by omega) (by omega)
      simp only [ints, List.map_cons, List.map_nil] at k1 k2 k3
      refine ⟨al', st', es', q, g1, by omega, by omega, fun R L n hq k hn hL => kCall_rd m_l2Draw rfl rfl ?_⟩
      have kd3 := fun {R : Type} {L n id : Nat} {hq : H} {k : A → H → Option R} => k1 R L n id hq k
      have kd4 := fun {R : Type} {L n id : Nat} {hq : H} {k : A → H → Option R} => k2 R L n id hq k
      have kd5 := fun {R : Type} {L n id : Nat} {hq : H} {k : A → H → Option R} => k3 R L n id hq k
      have kd6 := fun {R : Type} {L n : Nat} {hq : H} {k : A → H → Option R} => k4 R L n hq k
      obtain ⟨n, rfl⟩ : ∃ m, n = m + 1 := ⟨n - 1, by omega⟩
      rw [fn_s_l2Draw]
      simp only [S_s_l2Draw, Tryd.f60, SLM, simprocAttr]
      simp -implicitDefEqProofs (maxSteps := 2000000) (disch := first | assumption | (refine Shut.mk ?_; kernel_rfl) | omega | (simp only [GT]; done) | (simp only [LN] <;> omega) | fail) only [↓WD, ↓kAsg, ↓kRet, ↓clash_free, ↓WDD, ↓kOpD_callv, WK, UN, TY, LB, MD, i64_id, simprocAttr, ↓CV, ↓kc_s_l2Texts, LE, ↓kd1, ↓kd2, ↓kc_p, ↓kd3, ↓kd4, ↓kd5, ↓kd6]
  · obtain ⟨al', st', few, es', q, hst, g1, g2, g3, k1, k2, k3, k4⟩ := rest (p + 1) (by omega) (by omega)
    simp only [ints, List.map_cons, List.map_nil] at k1 k2 k3
    refine ⟨al', st', es', q, g1, by omega, by omega, fun R L n hq k hn hL => kCall_rd m_l2Draw rfl rfl ?_⟩
    have kd3 := fun {R : Type} {L n id : Nat} {hq : H} {k : A → H → Option R} => k1 R L n id hq k
    have kd4 := fun {R : Type} {L n id : Nat} {hq : H} {k : A → H → Option R} => k2 R L n id hq k
    have kd5 := fun {R : Type} {L n id : Nat} {hq : H} {k : A → H → Option R} => k3 R L n id hq k
    have kd6 := fun {R : Type} {L n : Nat} {hq : H} {k : A → H → Option R} => k4 R L n hq k
    obtain ⟨n, rfl⟩ : ∃ m, n = m + 1 := ⟨n - 1, by omega⟩
    rw [fn_s_l2Draw]
    simp only [S_s_l2Draw, Tryd.f60, SLM, simprocAttr]
    simp -implicitDefEqProofs (maxSteps := 2000000) (disch := first | assumption | (refine Shut.mk ?_; kernel_rfl) | omega | (simp only [GT]; done) | (simp only [LN] <;> omega) | fail) only [↓WD, ↓kAsg, ↓kRet, ↓clash_free, ↓WDD, ↓kOpD_callv, WK, UN, TY, LB, MD, i64_id, simprocAttr, ↓CV, ↓kc_s_l2Texts, LE, ↓kd1, hv, ↓kd3, ↓kd4, ↓kd5, ↓kd6]

theorem ex_l2Any {c : List UInt8} (hc : c.length ≤ 2000) (p : Int) (hp : 0 ≤ p) (hp2 : p ≤ 400000000) : ∃ (al st : Int) (es : List Edge) (q : Int), es.length ≤ 80000 ∧ p ≤ q ∧ q ≤ p + 200000 ∧ (∀ (R : Type) (L n : Nat) (hq : H) (k : A → H → Option R), 15 ≤ n → 2 ^ 60 ≤ L → kCall env (evCall env L n) (O.box [A.d (D.ivs c.length (bytesL c)), A.d (D.int .i64 p)] :: hq) 23 (.ptr 0 0 0 :: []) k = k (.agg [.d (.int .i64 al), .d (.int .i64 st), .d (.ivs es.length (edgesD es))]) (O.box [A.d (D.ivs c.length (bytesL c)), A.d (D.int .i64 q)] :: hq)) := by
  obtain ⟨v, v0, v1, _, kd1⟩ := ex_pick hc p 12 hp (by omega)
  by_cases hv : v = 0
  · subst hv
    obtain ⟨es, q, g1, g2, g3, kd2⟩ := ex_l2Big hc (p + 1) (by omega) (by omega)
    refine ⟨3, 16, es, q, by omega, by omega, by omega, fun R L n hq k hn hL => kCall_rd m_l2Any rfl rfl ?_⟩
    obtain ⟨n, rfl⟩ : ∃ m, n = m + 1 := ⟨n - 1, by omega⟩
    rw [fn_s_l2Any]
    simp only [S_s_l2Any, Tryd.f23, SLM, simprocAttr]
    simp -implicitDefEqProofs (maxSteps := 2000000) (disch := first | assumption | (refine Shut.mk ?_; kernel_rfl) | omega | (simp only [GT]; done) | (simp only [LN] <;> omega) | fail) only [↓WD, ↓kAsg, ↓kRet, ↓clash_free, ↓WDD, ↓kOpD_callv, WK, UN, TY, LB, MD, i64_id, simprocAttr, ↓CV, LE, ↓kd1, ↓kd2]
  · obtain ⟨al, st, es, q, g1, g2, g3, kd2⟩ := ex_l2Draw hc (p + 1) (by omega) (by omega)
    obtain ⟨al2, st2, es2, q2, b1, b2, b3, kd3⟩ := ex_l2Wrong hc al st es (by omega) q (by omega) (by omega)
    refine ⟨al2, st2, es2, q2, b1, by omega, by omega, fun R L n hq k hn hL => kCall_rd m_l2Any rfl rfl ?_⟩
    obtain ⟨n, rfl⟩ : ∃ m, n = m + 1 := ⟨n - 1, by omega⟩
    rw [fn_s_l2Any]
    simp only [S_s_l2Any, Tryd.f23, SLM, simprocAttr]
    simp -implicitDefEqProofs (maxSteps := 2000000) (disch := first | assumption | (refine Shut.mk ?_; kernel_rfl) | omega | (simp only [GT]; done) | (simp only [LN] <;> omega) | fail) only [↓WD, ↓kAsg, ↓kRet, ↓clash_free, ↓WDD, ↓kOpD_callv, WK, UN, TY, LB, MD, i64_id, simprocAttr, ↓CV, LE, ↓kd1, hv, ↓kd2, ↓kd3]

end Ev
end Go.Proofs.YtojaohcpgelhmaaDoor
end

/-!
  A function that draws, with its source at any place in memory; the source opened beside other things.
-/
section
set_option linter.unusedSimpArgs false
set_option linter.unusedVariables false
set_option maxRecDepth 8000
set_option maxHeartbeats 4000000
set_option pp.maxSteps 6000
namespace Go.Proofs.YtojaohcpgelhmaaDoor
namespace Ev

mutual
theorem mapA_same {f g : Nat → Option Nat} (hfg : ∀ k, f k = none → g k = none) : ∀ a : A, idsA (mapA f a) = [] → mapA g a = mapA f a
  | .d x, _ => by simp only [mapA]
  | .sl id gen off len, h => by
    simp only [mapA] at h ⊢
    cases hf : f id with
    | none => rw [hfg id hf]
    | some m => rw [hf] at h; simp [idsA] at h
  | .ptr id gen off, h => by
    simp only [mapA] at h ⊢
    cases hf : f id with
    | none => rw [hfg id hf]
    | some m => rw [hf] at h; simp [idsA] at h
  | .clo c caps, h => by simp only [mapA, idsA] at h ⊢; rw [mapAs_same hfg caps h]
  | .agg cs, h => by simp only [mapA, idsA] at h ⊢; rw [mapAs_same hfg cs h]
  | .tup cs, h => by simp only [mapA, idsA] at h ⊢; rw [mapAs_same hfg cs h]
  | .junk, _ => by simp only [mapA]
theorem mapAs_same {f g : Nat → Option Nat} (hfg : ∀ k, f k = none → g k = none) : ∀ l : List A, idsL (mapAs f l) = [] → mapAs g l = mapAs f l
  | [], _ => by simp only [mapAs]
  | a :: l, h => by
    simp only [mapAs, idsL, List.append_eq_nil_iff] at h
    simp only [mapAs]
    rw [mapA_same hfg a h.1, mapAs_same hfg l h.2]
end

theorem mapA_d {f : Nat → Option Nat} {a : A} {x : D} (h : mapA f a = .d x) : a = .d x := by
  cases a with
  | d y => simpa [mapA] using h
  | sl id gen off len => simp only [mapA] at h; split at h <;> cases h
  | ptr id gen off => simp only [mapA] at h; split at h <;> cases h
  | clo c caps => simp [mapA] at h
  | agg cs => simp [mapA] at h
  | tup cs => simp [mapA] at h
  | junk => simp [mapA] at h

theorem mapO_rd {f : Nat → Option Nat} {o : O} {c : List UInt8} {q : Int} (h : mapO f o = O.box [A.d (D.ivs c.length (bytesL c)), A.d (D.int .i64 q)]) : o = O.box [A.d (D.ivs c.length (bytesL c)), A.d (D.int .i64 q)] := by
  cases o with
  | box cs =>
    simp only [mapO, O.box.injEq] at h
    match cs, h with
    | [a, b], h =>
      simp only [mapAs, List.cons.injEq, and_true] at h
      rw [mapA_d h.1, mapA_d h.2]
    | [], h => simp [mapAs] at h
    | [_], h => simp [mapAs] at h
    | _ :: _ :: _ :: _, h => simp [mapAs] at h
  | _ => simp [mapO] at h

/-- What a drawing function does with its source alone, it does with the source at any place. -/
theorem kd_any {L n m : Nat} {f : FuncId} {args : List A} {c : List UInt8} {p q : Int} {r : A} (ha : idsL args = []) (hr : idsA r = [])
    (kd : ∀ (R : Type) (L n : Nat) (hq : H) (k : A → H → Option R), m ≤ n → 2 ^ 60 ≤ L → kCall env (evCall env L n) (O.box [A.d (D.ivs c.length (bytesL c)), A.d (D.int .i64 p)] :: hq) f (.ptr 0 0 0 :: args) k = k r (O.box [A.d (D.ivs c.length (bytesL c)), A.d (D.int .i64 q)] :: hq))
    {R : Type} {hq : H} {k : A → H → Option R} {i : Nat} (hn : m ≤ n) (hL : 2 ^ 60 ≤ L) (hi : hq[i]? = some (O.box [A.d (D.ivs c.length (bytesL c)), A.d (D.int .i64 p)])) :
    kCall env (evCall env L n) hq f (.ptr i 0 0 :: args) k = k r (hq.set i (O.box [A.d (D.ivs c.length (bytesL c)), A.d (D.int .i64 q)])) := by
  have h0 := kd (A × H) L n [] (fun a h => some (a, h)) hn hL
  generalize evCall env L n = call at h0 ⊢
  have hid : ∀ j, idsL (A.ptr j 0 0 :: args) = [j] := fun j => by simp [idsL, idsA, ha]
  have hre : ∀ (h : H) (j : Nat), h[j]? = some (O.box [A.d (D.ivs c.length (bytesL c)), A.d (D.int .i64 p)]) → reach fuelR h [j] [] = [j] := by
    intro h j hj
    have e1 : reach fuelR h [j] [] = match h[j]? with
      | some (.box cs) => reach (fuelR - 1) h ([] ++ idsL cs) ([] ++ [j])
      | some (.vec cs _ _) => reach (fuelR - 1) h ([] ++ idsL cs) ([] ++ [j])
      | some .void => reach (fuelR - 1) h [] []
      | some _ => reach (fuelR - 1) h [] ([] ++ [j])
      | none => reach (fuelR - 1) h [] [] := rfl
    rw [e1, hj]
    rfl
  have hpk : ∀ (h : H) (j : Nat), h[j]? = some (O.box [A.d (D.ivs c.length (bytesL c)), A.d (D.int .i64 p)]) → pack h [j] = [O.box [A.d (D.ivs c.length (bytesL c)), A.d (D.int .i64 p)]] := by
    intro h j hj
    simp only [pack, List.map_cons, List.map_nil, List.getD_eq_getElem?_getD, hj]
    rfl
  have hma : ∀ j, mapAs (place [j]) (A.ptr j 0 0 :: args) = A.ptr 0 0 0 :: args := by
    intro j
    simp only [mapAs, mapAs_none _ ha]
    simp [mapA, place]
  have hcl : ∀ (h : H) (j : Nat), h[j]? = some (O.box [A.d (D.ivs c.length (bytesL c)), A.d (D.int .i64 p)]) → closed h [j] [j] = true := by
    intro h j hj
    simp only [closed, List.all_cons, List.all_nil, hj]
    simp [idsL, idsA]
  unfold kCall at h0 ⊢
  rw [hid, hre hq i hi, hpk hq i hi, hma]
  rw [hid, hre [O.box [A.d (D.ivs c.length (bytesL c)), A.d (D.int .i64 p)]] 0 rfl, hpk [O.box [A.d (D.ivs c.length (bytesL c)), A.d (D.int .i64 p)]] 0 rfl, hma] at h0
  cases hc : aCall call env.hint [O.box [A.d (D.ivs c.length (bytesL c)), A.d (D.int .i64 p)]] f (A.ptr 0 0 0 :: args) with
  | none => rw [hc] at h0; simp at h0
  | some y =>
    obtain ⟨a, h1⟩ := y
    rw [hc] at h0
    simp only [hcl [O.box [A.d (D.ivs c.length (bytesL c)), A.d (D.int .i64 p)]] 0 rfl, hcl hq i hi, and_true, List.length_cons, List.length_nil] at h0 ⊢
    split at h0
    · rename_i hlen
      rw [if_pos hlen]
      simp only [Option.some.injEq, Prod.mk.injEq] at h0
      obtain ⟨g1, g2⟩ := h0
      match h1, hlen, g1, g2 with
      | o :: rest, hlen, g1, g2 =>
        simp only [putBack, List.set_cons_zero, List.cons_append, List.nil_append, List.cons.injEq, List.map_eq_nil_iff] at g2
        obtain ⟨g2, rfl⟩ := g2
        have ho := mapO_rd g2
        subst ho
        have ga : mapA (back [i] hq.length 1) a = r := by
          rw [mapA_same (f := back [0] 1 1) (g := back [i] hq.length 1) ?_ a (by have := g1; simp only [List.length_cons, List.length_nil, Nat.zero_add] at this; rw [this]; exact hr)]
          · simpa using g1
          · intro j hj
            unfold back at hj ⊢
            by_cases h0 : j < [i].length
            · have : j = 0 := by simp at h0; exact h0
              subst this
              simp at hj
            · have h0' : ¬ j < [0].length := by simpa using h0
              rw [if_neg h0'] at hj
              rw [if_neg h0]
              split at hj
              · cases hj
              · rename_i h2; rw [if_neg h2]
        simp only [List.length_cons, List.length_nil, Nat.zero_add]
        rw [ga]
        congr 1
        simp [putBack, mapO, mapAs, mapA]
    · simp at h0

/-- The source is opened beside other things. -/
theorem kc_openA {R : Type} {L n : Nat} {hq : H} {k : A → H → Option R} (c0 : List UInt8) (hn : 1 ≤ n) (hc : c0.length ≤ 4294967296) : kCall env (evCall env L n) hq 22 [.d (.ivs c0.length (bytesL c0))] k = k (.ptr hq.length 0 0) (hq ++ [O.box [A.d (D.ivs (src c0).length (bytesL (src c0))), A.d (D.int .i64 0)]]) := by
  have he := ev_open (L := L) hn c0 hc
  unfold kCall
  have h1 : reach fuelR hq (idsL [A.d (D.ivs c0.length (bytesL c0))]) [] = [] := rfl
  have h2 : pack hq [] = [] := rfl
  have h3 : mapAs (place []) [A.d (D.ivs c0.length (bytesL c0))] = [A.d (D.ivs c0.length (bytesL c0))] := rfl
  rw [h1, h2, h3]
  have h4 : aCall (evCall env L n) env.hint [] 22 [A.d (D.ivs c0.length (bytesL c0))] = some (.ptr 0 0 0, [O.box [A.d (D.ivs (src c0).length (bytesL (src c0))), A.d (D.int .i64 0)]]) := by
    unfold aCall
    rw [m_l19Open]
    have h5 : frzAs ([] : H) [A.d (D.ivs c0.length (bytesL c0))] = some ([A.d (D.ivs c0.length (bytesL c0))], []) := rfl
    simp only [h5, he]
    rfl
  rw [h4]
  have hcl : closed hq [] (idsL [A.d (D.ivs c0.length (bytesL c0))]) = true := rfl
  simp only [hcl, List.length_nil, Nat.zero_le, and_self, if_true]
  congr 1

end Ev
end Go.Proofs.YtojaohcpgelhmaaDoor
end

/-!
  Edges that are drawn, with a system.
-/
section
set_option linter.unusedSimpArgs false
set_option linter.unusedVariables false
set_option maxRecDepth 8000
set_option maxHeartbeats 4000000
set_option pp.maxSteps 6000
namespace Go.Proofs.YtojaohcpgelhmaaDoor
namespace Ev

theorem m_l17Edge : (env.hint 46).mode = 0 := by kernel_rfl

theorem ex_l17Edge {c : List UInt8} (hc : c.length ≤ 2000) (al st : Int) (es : List Edge) (hes : es.length ≤ 80000) (p : Int) (hp : 0 ≤ p) (hp2 : p ≤ 600000000) : ∃ (a b d q : Int), p ≤ q ∧ q ≤ p + 10 ∧ (∀ (R : Type) (L n : Nat) (hq : H) (k : A → H → Option R), 4 ≤ n → 2 ^ 60 ≤ L → kCall env (evCall env L n) (O.box [A.d (D.ivs c.length (bytesL c)), A.d (D.int .i64 p)] :: hq) 46 (.ptr 0 0 0 :: [.agg [.d (.int .i64 al), .d (.int .i64 st), .d (.ivs es.length (edgesD es))]]) k = k (.agg [.d (.int .i64 a), .d (.int .i64 b), .d (.int .i64 d)]) (O.box [A.d (D.ivs c.length (bytesL c)), A.d (D.int .i64 q)] :: hq)) := by
  have rest : ∀ p1 : Int, 0 ≤ p1 → p1 ≤ 600000005 → ∃ (x u l t : Int), (0 ≤ x ∧ x < 5) ∧ (0 ≤ u ∧ u ≤ 1) ∧
      (∀ (R : Type) (L n : Nat) (hq : H) (k : A → H → Option R), 1 ≤ n → 2 ^ 60 ≤ L → kCall env (evCall env L n) (O.box [A.d (D.ivs c.length (bytesL c)), A.d (D.int .i64 p1)] :: hq) 57 (.ptr 0 0 0 :: [.d (.int .i64 5)]) k = k (.d (.int .i64 x)) (O.box [A.d (D.ivs c.length (bytesL c)), A.d (D.int .i64 (p1 + 1))] :: hq)) ∧
      (∀ (R : Type) (L n id : Nat) (hq : H) (k : A → H → Option R), 2 ≤ n → 2 ^ 60 ≤ L → hq[id]? = some (.arr (ints [0, 0, 0, 1]) 1 0) → kCall env (evCall env L n) (O.box [A.d (D.ivs c.length (bytesL c)), A.d (D.int .i64 (p1 + 1))] :: hq) 61 [.ptr 0 0 0, .sl (id + 1) 0 0 4] k = k (.d (.int .i64 u)) (O.box [A.d (D.ivs c.length (bytesL c)), A.d (D.int .i64 (p1 + 1 + 1))] :: hq)) ∧
      (∀ (R : Type) (L n : Nat) (hq : H) (k : A → H → Option R), 1 ≤ n → 2 ^ 60 ≤ L → kCall env (evCall env L n) (O.box [A.d (D.ivs c.length (bytesL c)), A.d (D.int .i64 (p1 + 1 + 1))] :: hq) 57 (.ptr 0 0 0 :: [.d (.int .i64 4)]) k = k (.d (.int .i64 l)) (O.box [A.d (D.ivs c.length (bytesL c)), A.d (D.int .i64 (p1 + 1 + 1 + 1))] :: hq)) ∧
      (∀ (R : Type) (L n : Nat) (hq : H) (k : A → H → Option R), 1 ≤ n → 2 ^ 60 ≤ L → kCall env (evCall env L n) (O.box [A.d (D.ivs c.length (bytesL c)), A.d (D.int .i64 (p1 + 1 + 1 + 1))] :: hq) 57 (.ptr 0 0 0 :: [.d (.int .i64 5)]) k = k (.d (.int .i64 t)) (O.box [A.d (D.ivs c.length (bytesL c)), A.d (D.int .i64 (p1 + 1 + 1 + 1 + 1))] :: hq)) := by
    intro p1 h0 h1
    obtain ⟨x, x0, x1, _, k1⟩ := ex_pick hc p1 5 h0 (by omega)
    obtain ⟨u, hu, k2⟩ := ex_num hc [0, 0, 0, 1] (by simp) (by simp) (p1 + 1) (by omega) (by omega)
    obtain ⟨l, _, _, _, k3⟩ := ex_pick hc (p1 + 1 + 1) 4 (by omega) (by omega)
    obtain ⟨t, _, _, _, k4⟩ := ex_pick hc (p1 + 1 + 1 + 1) 5 (by omega) (by omega)
    have hu2 : 0 ≤ u ∧ u ≤ 1 := by simp at hu; omega
    exact ⟨x, u, l, t, ⟨x0, x1 (by omega)⟩, hu2, k1, k2, k3, k4⟩
  by_cases hpos : (0 : Int) < es.length
  · obtain ⟨v, v0, v1, _, kd1⟩ := ex_pick hc p 2 hp (by omega)
    by_cases hv : v = 0
    · subst hv
      obtain ⟨u, u0, u1, _, kd2⟩ := ex_pick hc (p + 1) es.length (by omega) (by omega)
      have hu : u < es.length := u1 (by omega)
      have hk : u.toNat < es.length := by omega
      refine ⟨(es.getD u.toNat default).fr, (es.getD u.toNat default).lt, (es.getD u.toNat default).to, p + 1 + 1, by omega, by omega, fun R L n hq k hn hL => kCall_rd m_l17Edge rfl rfl ?_⟩
      obtain ⟨n, rfl⟩ : ∃ m, n = m + 1 := ⟨n - 1, by omega⟩
      rw [fn_s_l17Edge]
      simp only [S_s_l17Edge, Tryd.f46, SLM, simprocAttr]
      simp -implicitDefEqProofs (maxSteps := 2000000) (disch := first | assumption | (refine Shut.mk ?_; kernel_rfl) | omega | (simp only [GT]; done) | (simp only [LN] <;> omega) | fail) only [↓WD, ↓kAsg, ↓kRet, ↓clash_free, ↓WDD, ↓kOpD_callv, WK, UN, TY, LB, MD, i64_id, simprocAttr, ↓CV, LE, hpos, hu, ↓kd1, ↓kd2]
    · obtain ⟨x, u, l, t, hx, hu, k1, k2, k3, k4⟩ := rest (p + 1) (by omega) (by omega)
      simp only [ints, List.map_cons, List.map_nil] at k2
      refine ⟨x - u, l, t, p + 1 + 1 + 1 + 1 + 1, by omega, by omega, fun R L n hq k hn hL => kCall_rd m_l17Edge rfl rfl ?_⟩
      have kd3 := fun {R : Type} {L n : Nat} {hq : H} {k : A → H → Option R} => k1 R L n hq k
      have kd4 := fun {R : Type} {L n id : Nat} {hq : H} {k : A → H → Option R} => k2 R L n id hq k
      have kd5 := fun {R : Type} {L n : Nat} {hq : H} {k : A → H → Option R} => k3 R L n hq k
      have kd6 := fun {R : Type} {L n : Nat} {hq : H} {k : A → H → Option R} => k4 R L n hq k
      obtain ⟨n, rfl⟩ : ∃ m, n = m + 1 := ⟨n - 1, by omega⟩
      rw [fn_s_l17Edge]
      simp only [S_s_l17Edge, Tryd.f46, SLM, simprocAttr]
      simp -implicitDefEqProofs (maxSteps := 2000000) (disch := first | assumption | (refine Shut.mk ?_; kernel_rfl) | omega | (simp only [GT]; done) | (simp only [LN] <;> omega) | fail) only [↓WD, ↓kAsg, ↓kRet, ↓clash_free, ↓WDD, ↓kOpD_callv, WK, UN, TY, LB, MD, i64_id, simprocAttr, ↓CV, LE, hpos, hv, ↓kd1, ↓kd3, ↓kd4, ↓kd5, ↓kd6]
  · obtain ⟨x, u, l, t, hx, hu, k1, k2, k3, k4⟩ := rest p (by omega) (by omega)
    simp only [ints, List.map_cons, List.map_nil] at k2
    refine ⟨x - u, l, t, p + 1 + 1 + 1 + 1, by omega, by omega, fun R L n hq k hn hL => kCall_rd m_l17Edge rfl rfl ?_⟩
    have kd3 := fun {R : Type} {L n : Nat} {hq : H} {k : A → H → Option R} => k1 R L n hq k
    have kd4 := fun {R : Type} {L n id : Nat} {hq : H} {k : A → H → Option R} => k2 R L n id hq k
    have kd5 := fun {R : Type} {L n : Nat} {hq : H} {k : A → H → Option R} => k3 R L n hq k
    have kd6 := fun {R : Type} {L n : Nat} {hq : H} {k : A → H → Option R} => k4 R L n hq k
    obtain ⟨n, rfl⟩ : ∃ m, n = m + 1 := ⟨n - 1, by omega⟩
    rw [fn_s_l17Edge]
    simp only [S_s_l17Edge, Tryd.f46, SLM, simprocAttr]
    simp -implicitDefEqProofs (maxSteps := 2000000) (disch := first | assumption | (refine Shut.mk ?_; kernel_rfl) | omega | (simp only [GT]; done) | (simp only [LN] <;> omega) | fail) only [↓WD, ↓kAsg, ↓kRet, ↓clash_free, ↓WDD, ↓kOpD_callv, WK, UN, TY, LB, MD, i64_id, simprocAttr, ↓CV, LE, hpos, ↓kd3, ↓kd4, ↓kd5, ↓kd6]

theorem ex_DrawAddEdge (c0 : List UInt8) (hc0 : c0.length ≤ 4294967296) : ∃ (al st : Int) (es : List Edge) (a b d : Int), es.length ≤ 80000 ∧ ∀ (R : Type) (L n : Nat) (hq : H) (k : A → H → Option R), 16 ≤ n → 2 ^ 60 ≤ L → kCall env (evCall env L n) hq 14 [.d (.ivs c0.length (bytesL c0))] k = k (.tup [.agg [.d (.int .i64 al), .d (.int .i64 st), .d (.ivs es.length (edgesD es))], .agg [.d (.int .i64 a), .d (.int .i64 b), .d (.int .i64 d)]]) hq := by
  have hc := src_len c0
  generalize hcs : src c0 = c at hc
  obtain ⟨al, st, es, q, g1, g2, g3, kd1⟩ := ex_l2Any hc 0 (by omega) (by omega)
  obtain ⟨a, b, d, q2, q5, q6, kd2⟩ := ex_l17Edge hc al st es (by omega) q (by omega) (by omega)
  refine ⟨al, st, es, a, b, d, g1, fun R L n hq k hn hL => kCall_still rfl ?_ rfl (.inr rfl)⟩
  have kd_a := fun {R : Type} {hq : H} {k : A → H → Option R} {i : Nat} {L n : Nat} => @kd_any L n _ _ _ _ _ _ _ rfl rfl kd1 R hq k i
  have kd_b := fun {R : Type} {hq : H} {k : A → H → Option R} {i : Nat} {L n : Nat} => @kd_any L n _ _ _ _ _ _ _ rfl rfl kd2 R hq k i
  clear kd1 kd2
  obtain ⟨n, rfl⟩ : ∃ m, n = m + 1 := ⟨n - 1, by omega⟩
  rw [fn_s_DrawAddEdge]
  simp only [S_s_DrawAddEdge, Tryd.f14, SLM, simprocAttr]
  simp -implicitDefEqProofs (maxSteps := 2000000) (disch := first | assumption | (refine Shut.mk ?_; kernel_rfl) | omega | (simp only [GT]; done) | (simp only [LN] <;> omega) | fail) only [↓WD, ↓kAsg, ↓kRet, ↓clash_free, ↓WDD, ↓kOpD_callv, WK, UN, TY, LB, MD, i64_id, simprocAttr, ↓CV, LE, ↓kc_openA, hcs, ↓kd_a, ↓kd_b]

end Ev
end Go.Proofs.YtojaohcpgelhmaaDoor
end

/-!
  Letters and words exchanged: plain laws.
-/
section
set_option linter.unusedSimpArgs false
set_option linter.unusedVariables false
set_option maxRecDepth 8000
set_option maxHeartbeats 4000000
namespace Go.Proofs.YtojaohcpgelhmaaDoor
namespace Ev

end Ev
end Go.Proofs.YtojaohcpgelhmaaDoor
end
