/-
  Systems compared as the laws do; edges added to systems that are data.
-/
import Derived.Test.YtojaohcpgelhmaaDoorFnExactAddEdge
set_option linter.unusedSimpArgs false
set_option linter.unusedVariables false
set_option maxRecDepth 8000
set_option pp.maxSteps 6000
set_option maxHeartbeats 4000000
namespace Go.Proofs.YtojaohcpgelhmaaDoor
namespace Ev

theorem evBin_neE {h : H} {a b c d e f : Int} : evBin env .neq 38 h (.agg [.d (.int .i64 a), .d (.int .i64 b), .d (.int .i64 c)]) (.agg [.d (.int .i64 d), .d (.int .i64 e), .d (.int .i64 f)]) = some (.d (.bool (!decide ((⟨a, b, c⟩ : Edge) = ⟨d, e, f⟩))), h) := by
  have hc : env.eqs.contains (38, 3) = true := by kernel_rfl
  have h1 : aBin .neq (.agg [.d (.int .i64 a), .d (.int .i64 b), .d (.int .i64 c)]) (.agg [.d (.int .i64 d), .d (.int .i64 e), .d (.int .i64 f)]) = none := rfl
  have h2 : aNil env.P .neq 38 (.agg [.d (.int .i64 a), .d (.int .i64 b), .d (.int .i64 c)]) (.agg [.d (.int .i64 d), .d (.int .i64 e), .d (.int .i64 f)]) = none := by
    unfold aNil
    cases env.P.underlying 38 with
    | none => rfl
    | some t => cases t <;> rfl
  simp only [evBin, h1, h2, aEqAgg, intsA, Option.map_some, List.length_cons, List.length_nil, Nat.zero_add, Nat.reduceAdd, hc, and_self, if_true, eqlA]
  have : ([a, b, c] == [d, e, f]) = decide ((⟨a, b, c⟩ : Edge) = ⟨d, e, f⟩) := by rw [Bool.eq_iff_iff]; simp
  rw [this]

theorem loop_agSystems {R : Type} {L n : Nat} {al st : Int} {l : List Edge} (hl : l.length ≤ 4294967296) {k : Exit → List A → H → Option R} : ∀ (i : Int) (m : Nat) (h0 : 0 ≤ i) (hi : i ≤ l.length) (hm : (l.length : Int) - i < m),
    kLoop env (evCall env L n) L 0 [] (false :: false :: true :: true :: true :: true :: false :: false :: false :: false :: false :: false :: false :: false :: false :: false :: false :: false :: false :: false :: false :: false :: false :: false :: false :: false :: false :: false :: false :: false :: false :: false :: false :: false :: false :: false :: false :: false :: false :: false :: false :: false :: false :: false :: false :: []) (lp_agSystems 0) (true :: true :: false :: false :: false :: false :: true :: true :: true :: true :: true :: true :: true :: true :: true :: true :: true :: true :: true :: true :: true :: true :: true :: true :: true :: true :: true :: true :: true :: true :: true :: true :: true :: true :: true :: true :: true :: true :: true :: true :: true :: true :: true :: true :: true :: []) m (.junk :: .junk :: .ptr 0 0 0 :: .ptr 1 0 0 :: .d (.bool false) :: .d (.int .i64 i) :: .junk :: .junk :: .junk :: .junk :: .junk :: .junk :: .junk :: .junk :: .junk :: .junk :: .junk :: .junk :: .junk :: .junk :: .junk :: .junk :: .junk :: .junk :: .junk :: .junk :: .junk :: .junk :: .junk :: .junk :: .junk :: .junk :: .junk :: .junk :: .junk :: .junk :: .junk :: .junk :: .junk :: .junk :: .junk :: .junk :: .junk :: .junk :: .junk :: []) [.box [.d (.int .i64 al), .d (.int .i64 st), .d (.ivs l.length (edgesD l))], .box [.d (.int .i64 al), .d (.int .i64 st), .d (.ivs l.length (edgesD l))]] k
    = k (.exit 0) (.junk :: .junk :: .ptr 0 0 0 :: .ptr 1 0 0 :: .d (.bool false) :: .d (.int .i64 (l.length)) :: .junk :: .junk :: .junk :: .junk :: .junk :: .junk :: .junk :: .junk :: .junk :: .junk :: .junk :: .junk :: .junk :: .junk :: .junk :: .junk :: .junk :: .junk :: .junk :: .junk :: .junk :: .junk :: .junk :: .junk :: .junk :: .junk :: .junk :: .junk :: .junk :: .junk :: .junk :: .junk :: .junk :: .junk :: .junk :: .junk :: .junk :: .junk :: .junk :: []) [.box [.d (.int .i64 al), .d (.int .i64 st), .d (.ivs l.length (edgesD l))], .box [.d (.int .i64 al), .d (.int .i64 st), .d (.ivs l.length (edgesD l))]] := by
  intro i m h0 hi hm
  obtain ⟨j, hj⟩ : ∃ j : Nat, (j : Int) = (l.length : Int) - i := ⟨((l.length : Int) - i).toNat, by omega⟩
  induction j generalizing i m with
  | zero =>
    obtain ⟨m, rfl⟩ : ∃ q, m = q + 1 := ⟨m - 1, by omega⟩
    obtain rfl : i = l.length := by omega
    rw [step_agSystems_0]
    simp only [S_agSystems_0, Tryd.f9, SLM, simprocAttr]
    simp -implicitDefEqProofs (maxSteps := 2000000) (disch := first | assumption | (refine Shut.mk ?_; kernel_rfl) | omega | (simp only [GT]; done) | (simp only [LN] <;> omega) | fail) only [↓WD, ↓kAsg, ↓kRet, ↓clash_free, ↓WDD, ↓kOpD_callv, WK, UN, TY, LB, MD, i64_id, simprocAttr, ↓CV, LE, evBin_neE, Int.lt_irrefl]
  | succ j ih =>
    obtain ⟨m, rfl⟩ : ∃ q, m = q + 1 := ⟨m - 1, by omega⟩
    have hc : i < l.length := by omega
    have hk : i.toNat < l.length := by omega
    rw [step_agSystems_0]
    simp only [S_agSystems_0, Tryd.f9, SLM, simprocAttr]
    simp -implicitDefEqProofs (maxSteps := 2000000) (disch := first | assumption | (refine Shut.mk ?_; kernel_rfl) | omega | (simp only [GT]; done) | (simp only [LN] <;> omega) | fail) only [↓WD, ↓kAsg, ↓kRet, ↓clash_free, ↓WDD, ↓kOpD_callv, WK, UN, TY, LB, MD, i64_id, simprocAttr, ↓CV, LE, evBin_neE, hc, ↓ih]

theorem ev_agSystems {L n : Nat} (hn : 2 ≤ n) (al st : Int) (l : List Edge) (hl : l.length ≤ 4294967296) (hL : 2 ^ 60 ≤ L) : evCall env L n 9 [.agg [.d (.int .i64 al), .d (.int .i64 st), .d (.ivs l.length (edgesD l))], .agg [.d (.int .i64 al), .d (.int .i64 st), .d (.ivs l.length (edgesD l))]] [] = some (.d (.bool true), []) := by
  obtain ⟨n, rfl⟩ : ∃ m, n = m + 1 := ⟨n - 1, by omega⟩
  rw [fn_agSystems]
  simp only [S_agSystems, Tryd.f9, SLM, simprocAttr]
  simp -implicitDefEqProofs (maxSteps := 2000000) (disch := first | assumption | (refine Shut.mk ?_; kernel_rfl) | omega | (simp only [GT]; done) | (simp only [LN] <;> omega) | fail) only [↓WD, ↓kAsg, ↓kRet, ↓clash_free, ↓WDD, ↓kOpD_callv, WK, UN, TY, LB, MD, i64_id, simprocAttr, ↓CV, ↓loop_agSystems, LE]
theorem kc_agSystems {R : Type} {L n : Nat} {hq : H} {k : A → H → Option R} (hn : 2 ≤ n) (al st : Int) (l : List Edge) (hl : l.length ≤ 4294967296) (hL : 2 ^ 60 ≤ L) : kCall env (evCall env L n) hq 9 [.agg [.d (.int .i64 al), .d (.int .i64 st), .d (.ivs l.length (edgesD l))], .agg [.d (.int .i64 al), .d (.int .i64 st), .d (.ivs l.length (edgesD l))]] k = k (.d (.bool true)) hq :=
  kCall_still rfl (ev_agSystems hn al st l hl hL) rfl (.inl rfl)
theorem kl_agSystems {R : Type} {L n : Nat} {k : A → Option R} (hn : 2 ≤ n) (al st : Int) (l : List Edge) (hl : l.length ≤ 4294967296) (hL : 2 ^ 60 ≤ L) : kLent (evCall env L n) 9 [.agg [.d (.int .i64 al), .d (.int .i64 st), .d (.ivs l.length (edgesD l))], .agg [.d (.int .i64 al), .d (.int .i64 st), .d (.ivs l.length (edgesD l))]] k = k (.d (.bool true)) :=
  kLent_ev (ev_agSystems hn al st l hl hL) rfl
theorem kv_agSystems_1 {R : Type} {L n : Nat} {hq : H} {k : A → H → Option R} {id0 g0 o0 len0 : Nat} {al st : Int} {l : List Edge} : kCall env (evCall env L n) hq 9 [.agg [.d (.int .i64 al), .d (.int .i64 st), .sl id0 g0 o0 len0], .agg [.d (.int .i64 al), .d (.int .i64 st), .d (.ivs l.length (edgesD l))]] k = match box (lentA hq [.agg [.d (.int .i64 al), .d (.int .i64 st), .sl id0 g0 o0 len0], .agg [.d (.int .i64 al), .d (.int .i64 st), .d (.ivs l.length (edgesD l))]]) with
    | .mk (some fs) => kLent (evCall env L n) 9 fs fun r => k r hq
    | _ => none := kCall_lent mode_agSystems
theorem kv_agSystems_2 {R : Type} {L n : Nat} {hq : H} {k : A → H → Option R} {id1 g1 o1 len1 : Nat} {al st : Int} {l : List Edge} : kCall env (evCall env L n) hq 9 [.agg [.d (.int .i64 al), .d (.int .i64 st), .d (.ivs l.length (edgesD l))], .agg [.d (.int .i64 al), .d (.int .i64 st), .sl id1 g1 o1 len1]] k = match box (lentA hq [.agg [.d (.int .i64 al), .d (.int .i64 st), .d (.ivs l.length (edgesD l))], .agg [.d (.int .i64 al), .d (.int .i64 st), .sl id1 g1 o1 len1]]) with
    | .mk (some fs) => kLent (evCall env L n) 9 fs fun r => k r hq
    | _ => none := kCall_lent mode_agSystems
theorem kv_agSystems_3 {R : Type} {L n : Nat} {hq : H} {k : A → H → Option R} {id1 g1 o1 len1 : Nat} {id0 g0 o0 len0 : Nat} {al st : Int} : kCall env (evCall env L n) hq 9 [.agg [.d (.int .i64 al), .d (.int .i64 st), .sl id0 g0 o0 len0], .agg [.d (.int .i64 al), .d (.int .i64 st), .sl id1 g1 o1 len1]] k = match box (lentA hq [.agg [.d (.int .i64 al), .d (.int .i64 st), .sl id0 g0 o0 len0], .agg [.d (.int .i64 al), .d (.int .i64 st), .sl id1 g1 o1 len1]]) with
    | .mk (some fs) => kLent (evCall env L n) 9 fs fun r => k r hq
    | _ => none := kCall_lent mode_agSystems

theorem kv_agSystems_any {R : Type} {L n : Nat} {hq : H} {k : A → H → Option R} {id g o len : Nat} {a b : A} {x : A} : kCall env (evCall env L n) hq 9 [.agg [a, b, .sl id g o len], x] k = match box (lentA hq [.agg [a, b, .sl id g o len], x]) with
    | .mk (some fs) => kLent (evCall env L n) 9 fs fun r => k r hq
    | _ => none := kCall_lent mode_agSystems

theorem kl_agSystems_nil {R : Type} {L n : Nat} {k : A → Option R} (hn : 2 ≤ n) (al st : Int) (hL : 2 ^ 60 ≤ L) : kLent (evCall env L n) 9 [.agg [.d (.int .i64 al), .d (.int .i64 st), .d (.ivs 0 [])], .agg [.d (.int .i64 al), .d (.int .i64 st), .d (.ivs 0 [])]] k = k (.d (.bool true)) :=
  kl_agSystems (n := n) hn al st [] (by simp) hL

/-- A lent call, its arguments being data, that lays memory. -/
theorem kCall_lay0 {R : Type} {E : Env} {call : CallF} {h h2 : H} {f : FuncId} {args : List A} {r : A} {k : A → H → Option R} (hs : args.all still = true) (hm : (E.hint f).mode = 3) (hc : call f args [] = some (r, h2)) (hcl : (cleanA r && h2.all cleanO) = true) :
    kCall E call h f args k = k (mapA (back [] h.length h2.length) r) (h ++ h2.map (mapO (back [] h.length h2.length))) := by
  have hcall : aCall call E.hint [] f args = some (mapA (back [] 0 h2.length) r, h2.map (mapO (back [] 0 h2.length))) := by
    unfold aCall
    rw [hm]
    simp only [frzAs_still hs, hc, hcl, if_true, List.length_nil, List.nil_append]
  unfold kCall
  rw [stills_ids hs, reach_none, mapAs_none _ (stills_ids hs)]
  have : pack h [] = [] := rfl
  rw [this, hcall]
  have hb : ∀ i, (back [] 0 h2.length i).bind (back [] h.length h2.length) = back [] h.length h2.length i := by
    intro i
    unfold back
    simp only [List.length_nil, Nat.not_lt_zero, if_false, Nat.sub_zero, Nat.zero_add]
    split
    · rename_i hi; simp [hi]
    · rfl
  simp only [List.length_nil, Nat.zero_le, true_and, closed, List.all_nil, Bool.and_self, if_true, putBack, List.length_map]
  rw [mapA_mapA hb, List.map_map]
  congr 2
  apply List.map_congr_left
  intro o _
  exact mapO_mapO hb o

theorem kc_i_AddEdge_d {R : Type} {L n : Nat} {hq : H} {k : A → H → Option R} (hn : 7 ≤ n) (al st a b c : Int) (l : List Edge) (hl : l.length ≤ 4294967290) (hL : 2 ^ 60 ≤ L) :
    kCall env (evCall env L n) hq 15 [.agg [.d (.int .i64 al), .d (.int .i64 st), .d (.ivs l.length (edgesD l))], .agg [.d (.int .i64 a), .d (.int .i64 b), .d (.int .i64 c)]] k
    = k (.tup [.agg [.d (.int .i64 (oS (addS ⟨al, st, l⟩ ⟨a, b, c⟩)).al), .d (.int .i64 (oS (addS ⟨al, st, l⟩ ⟨a, b, c⟩)).st), .sl hq.length 0 0 (oS (addS ⟨al, st, l⟩ ⟨a, b, c⟩)).es.length], .d (.bool (addS ⟨al, st, l⟩ ⟨a, b, c⟩).isSome)]) (hq ++ [.arr (edgesD (oS (addS ⟨al, st, l⟩ ⟨a, b, c⟩)).es) (oZ (addS ⟨al, st, l⟩ ⟨a, b, c⟩)) 0]) := by
  rw [kCall_lay0 rfl mode_i_AddEdge (ev_i_AddEdge hn al st a b c l hl hL _ (add_same _ _)) (by simp only [cleanA, cleanAs, cleanD, cleanO, clean_edgesA, Bool.and_self, List.all_cons, List.all_nil])]
  simp [mapA, mapAs, back, mapO]

end Ev
end Go.Proofs.YtojaohcpgelhmaaDoor
