/-
  Searching for an edge, dropping it.
-/
import Derived.Test.YtojaohcpgelhmaaDoorSysI
section
set_option linter.unusedSimpArgs false
set_option linter.unusedVariables false
set_option maxRecDepth 8000
set_option pp.maxSteps 6000
set_option maxHeartbeats 4000000
namespace Go.Proofs.YtojaohcpgelhmaaDoor
namespace Ev

theorem conv_uint_int {h : H} {n : Int} {K : IntKind} : aConvert env.P h 81 3 (.d (.int K n)) = some (.d (.int .i64 (IntKind.i64.wrap n)), h) := aConv_int u_uint u_int
theorem half_fdiv {i j : Nat} : ((i : Int) + (j : Int)).fdiv (2 ^ min 1 IntKind.u64.bits) = (((i + j) / 2 : Nat) : Int) := by
  have : (2 : Int) ^ (min 1 IntKind.u64.bits) = 2 := by simp [IntKind.bits]
  rw [this, Int.fdiv_eq_ediv_of_nonneg _ (by omega)]
  omega

theorem loop_bsf {R : Type} {L n : Nat} (hn : 5 ≤ n) (hL : 2 ^ 60 ≤ L) {l : List Edge} {a b c : Int} (hl : l.length ≤ 4294967296) {k : Exit → List A → H → Option R} : ∀ (q i j m : Nat) (hij : i ≤ j) (hj : j ≤ l.length) (hq : j - i ≤ q) (hm : q < m),
    kLoop env (evCall env L n) L 0 [] (true :: false :: true :: false :: true :: false :: true :: true :: true :: true :: true :: false :: false :: false :: false :: false :: false :: false :: false :: false :: false :: false :: false :: false :: false :: false :: false :: false :: false :: false :: false :: false :: false :: false :: false :: false :: false :: false :: false :: false :: false :: false :: false :: false :: false :: false :: false :: false :: false :: []) (lp_slices_BinarySearchFunc_i_Edge_i_Edge_i_Edge 0) (false :: true :: false :: true :: false :: true :: false :: false :: false :: false :: false :: true :: true :: true :: true :: true :: true :: true :: true :: true :: true :: true :: true :: true :: true :: true :: true :: true :: true :: true :: true :: true :: true :: true :: true :: true :: true :: true :: true :: true :: true :: true :: true :: true :: true :: true :: true :: true :: true :: []) m (.d (.ivs l.length (edgesD l)) :: .junk :: .d (.fn 29 []) :: .junk :: .ptr 0 0 0 :: .junk :: .d (.int .i64 0) :: .d (.bool false) :: .d (.int .i64 (l.length)) :: .d (.int .i64 ((i : Int))) :: .d (.int .i64 ((j : Int))) :: .junk :: .junk :: .junk :: .junk :: .junk :: .junk :: .junk :: .junk :: .junk :: .junk :: .junk :: .junk :: .junk :: .junk :: .junk :: .junk :: .junk :: .junk :: .junk :: .junk :: .junk :: .junk :: .junk :: .junk :: .junk :: .junk :: .junk :: .junk :: .junk :: .junk :: .junk :: .junk :: .junk :: .junk :: .junk :: .junk :: .junk :: .junk :: []) [.box [.d (.int .i64 a), .d (.int .i64 b), .d (.int .i64 c)]] k
    = k (.exit 0) (.d (.ivs l.length (edgesD l)) :: .junk :: .d (.fn 29 []) :: .junk :: .ptr 0 0 0 :: .junk :: .d (.int .i64 0) :: .d (.bool false) :: .d (.int .i64 (l.length)) :: .d (.int .i64 ((bsF (fun h => beforeE (l.getD h default) ⟨a, b, c⟩) q i j : Nat))) :: .d (.int .i64 ((bsF (fun h => beforeE (l.getD h default) ⟨a, b, c⟩) q i j : Nat))) :: .junk :: .junk :: .junk :: .junk :: .junk :: .junk :: .junk :: .junk :: .junk :: .junk :: .junk :: .junk :: .junk :: .junk :: .junk :: .junk :: .junk :: .junk :: .junk :: .junk :: .junk :: .junk :: .junk :: .junk :: .junk :: .junk :: .junk :: .junk :: .junk :: .junk :: .junk :: .junk :: .junk :: .junk :: .junk :: .junk :: .junk :: .junk :: []) [.box [.d (.int .i64 a), .d (.int .i64 b), .d (.int .i64 c)]] := by
  intro q
  induction q with
  | zero =>
    intro i j m hij hj hq hm
    obtain ⟨m, rfl⟩ : ∃ q, m = q + 1 := ⟨m - 1, by omega⟩
    obtain rfl : i = j := by omega
    rw [step_slices_BinarySearchFunc_i_Edge_i_Edge_i_Edge_0]
    simp only [S_slices_BinarySearchFunc_i_Edge_i_Edge_i_Edge_0, Tryd.f47, SLM, simprocAttr]
    simp -implicitDefEqProofs (maxSteps := 2000000) (disch := first | assumption | (refine Shut.mk ?_; kernel_rfl) | omega | (simp only [GT]; done) | (simp only [LN] <;> omega) | fail) only [↓WD, ↓kAsg, ↓kRet, ↓clash_free, ↓WDD, ↓kOpD_callv, WK, UN, TY, LB, MD, i64_id, simprocAttr, ↓CV, LE, Int.lt_irrefl]
    rfl
  | succ q ih =>
    intro i j m hij hj hq hm
    obtain ⟨m, rfl⟩ : ∃ q, m = q + 1 := ⟨m - 1, by omega⟩
    by_cases h1 : i < j
    · have hc : (i : Int) < (j : Int) := by omega
      have hk : (i + j) / 2 < l.length := by omega
      have hlt := cmpE_lt (e := l.getD ((i + j) / 2) default) (f := ⟨a, b, c⟩)
      cases hb : beforeE (l.getD ((i + j) / 2) default) ⟨a, b, c⟩ with
      | true =>
        rw [hb] at hlt
        have hlt := of_decide_eq_true hlt
        have e1 : (((i + j) / 2 : Nat) : Int) + 1 = (((i + j) / 2 + 1 : Nat) : Int) := rfl
        have ih' := ih ((i + j) / 2 + 1) j m (by omega) hj (by omega) (by omega)
        rw [step_slices_BinarySearchFunc_i_Edge_i_Edge_i_Edge_0]
        simp only [S_slices_BinarySearchFunc_i_Edge_i_Edge_i_Edge_0, Tryd.f47, SLM, simprocAttr]
        simp -implicitDefEqProofs (maxSteps := 2000000) (disch := first | assumption | (refine Shut.mk ?_; kernel_rfl) | omega | (simp only [GT]; done) | (simp only [LN] <;> omega) | fail) only [↓WD, ↓kAsg, ↓kRet, ↓clash_free, ↓WDD, ↓kOpD_callv, WK, UN, TY, LB, MD, i64_id, simprocAttr, ↓CV, LE, hc, ↓conv_int_uint, ↓conv_uint_int, u64_id, i64_id, half_fdiv, Int.toNat_natCast, ↓kc_i_compareEdges, hlt, e1, ↓ih']
        simp only [bsF, h1, hb, if_true]
      | false =>
        rw [hb] at hlt
        have hlt := of_decide_eq_false hlt
        have ih' := ih i ((i + j) / 2) m (by omega) (by omega) (by omega) (by omega)
        rw [step_slices_BinarySearchFunc_i_Edge_i_Edge_i_Edge_0]
        simp only [S_slices_BinarySearchFunc_i_Edge_i_Edge_i_Edge_0, Tryd.f47, SLM, simprocAttr]
        simp -implicitDefEqProofs (maxSteps := 2000000) (disch := first | assumption | (refine Shut.mk ?_; kernel_rfl) | omega | (simp only [GT]; done) | (simp only [LN] <;> omega) | fail) only [↓WD, ↓kAsg, ↓kRet, ↓clash_free, ↓WDD, ↓kOpD_callv, WK, UN, TY, LB, MD, i64_id, simprocAttr, ↓CV, LE, hc, ↓conv_int_uint, ↓conv_uint_int, u64_id, i64_id, half_fdiv, Int.toNat_natCast, ↓kc_i_compareEdges, hlt, ↓ih']
        simp only [bsF, h1, hb, if_true, Bool.false_eq_true, if_false]
    · have hc : ¬ (i : Int) < (j : Int) := by omega
      obtain rfl : i = j := by omega
      rw [step_slices_BinarySearchFunc_i_Edge_i_Edge_i_Edge_0]
      simp only [S_slices_BinarySearchFunc_i_Edge_i_Edge_i_Edge_0, Tryd.f47, SLM, simprocAttr]
      simp -implicitDefEqProofs (maxSteps := 2000000) (disch := first | assumption | (refine Shut.mk ?_; kernel_rfl) | omega | (simp only [GT]; done) | (simp only [LN] <;> omega) | fail) only [↓WD, ↓kAsg, ↓kRet, ↓clash_free, ↓WDD, ↓kOpD_callv, WK, UN, TY, LB, MD, i64_id, simprocAttr, ↓CV, LE, hc]
      simp only [bsF, Nat.lt_irrefl, if_false]

theorem loop_bsf_top {R : Type} {L n m : Nat} (hn : 5 ≤ n) (hL : 2 ^ 60 ≤ L) {l : List Edge} {a b c : Int} (hl : l.length ≤ 4294967296) {k : Exit → List A → H → Option R} (hm : l.length < m) :
    kLoop env (evCall env L n) L 0 [] (true :: false :: true :: false :: true :: false :: true :: true :: true :: true :: true :: false :: false :: false :: false :: false :: false :: false :: false :: false :: false :: false :: false :: false :: false :: false :: false :: false :: false :: false :: false :: false :: false :: false :: false :: false :: false :: false :: false :: false :: false :: false :: false :: false :: false :: false :: false :: false :: false :: []) (lp_slices_BinarySearchFunc_i_Edge_i_Edge_i_Edge 0) (false :: true :: false :: true :: false :: true :: false :: false :: false :: false :: false :: true :: true :: true :: true :: true :: true :: true :: true :: true :: true :: true :: true :: true :: true :: true :: true :: true :: true :: true :: true :: true :: true :: true :: true :: true :: true :: true :: true :: true :: true :: true :: true :: true :: true :: true :: true :: true :: true :: []) m (.d (.ivs l.length (edgesD l)) :: .junk :: .d (.fn 29 []) :: .junk :: .ptr 0 0 0 :: .junk :: .d (.int .i64 0) :: .d (.bool false) :: .d (.int .i64 (l.length)) :: .d (.int .i64 0) :: .d (.int .i64 (l.length)) :: .junk :: .junk :: .junk :: .junk :: .junk :: .junk :: .junk :: .junk :: .junk :: .junk :: .junk :: .junk :: .junk :: .junk :: .junk :: .junk :: .junk :: .junk :: .junk :: .junk :: .junk :: .junk :: .junk :: .junk :: .junk :: .junk :: .junk :: .junk :: .junk :: .junk :: .junk :: .junk :: .junk :: .junk :: .junk :: .junk :: .junk :: .junk :: []) [.box [.d (.int .i64 a), .d (.int .i64 b), .d (.int .i64 c)]] k
    = k (.exit 0) (.d (.ivs l.length (edgesD l)) :: .junk :: .d (.fn 29 []) :: .junk :: .ptr 0 0 0 :: .junk :: .d (.int .i64 0) :: .d (.bool false) :: .d (.int .i64 (l.length)) :: .d (.int .i64 ((bsE l ⟨a, b, c⟩ : Nat))) :: .d (.int .i64 ((bsE l ⟨a, b, c⟩ : Nat))) :: .junk :: .junk :: .junk :: .junk :: .junk :: .junk :: .junk :: .junk :: .junk :: .junk :: .junk :: .junk :: .junk :: .junk :: .junk :: .junk :: .junk :: .junk :: .junk :: .junk :: .junk :: .junk :: .junk :: .junk :: .junk :: .junk :: .junk :: .junk :: .junk :: .junk :: .junk :: .junk :: .junk :: .junk :: .junk :: .junk :: .junk :: .junk :: []) [.box [.d (.int .i64 a), .d (.int .i64 b), .d (.int .i64 c)]] :=
  loop_bsf hn hL hl l.length 0 l.length m (Nat.zero_le _) (Nat.le_refl _) (by omega) hm

theorem ev_slices_BinarySearchFunc_i_Edge_i_Edge_i_Edge {L n : Nat} (hn : 6 ≤ n) (l : List Edge) (a b c : Int) (hl : l.length ≤ 4294967296) (hL : 2 ^ 60 ≤ L) : evCall env L n 47 [.d (.ivs l.length (edgesD l)), .agg [.d (.int .i64 a), .d (.int .i64 b), .d (.int .i64 c)], .d (.fn 29 [])] [] = some (.tup [.d (.int .i64 (bsE l ⟨a, b, c⟩ : Nat)), .d (.bool (hitE l ⟨a, b, c⟩))], []) := by
  unfold hitE
  have hle := bsE_le (l := l) (e := ⟨a, b, c⟩)
  by_cases h1 : bsE l ⟨a, b, c⟩ < l.length
  · have hc : ((bsE l ⟨a, b, c⟩ : Nat) : Int) < (l.length : Int) := by omega
    have hd : decide (bsE l ⟨a, b, c⟩ < l.length) = true := by simp [h1]
    have hz : decide (cmpE (l.getD (bsE l ⟨a, b, c⟩) default) ⟨a, b, c⟩ = 0) = decide (l.getD (bsE l ⟨a, b, c⟩) default = ⟨a, b, c⟩) := by simp only [cmpE_zero]
    obtain ⟨n, rfl⟩ : ∃ m, n = m + 1 := ⟨n - 1, by omega⟩
    rw [fn_slices_BinarySearchFunc_i_Edge_i_Edge_i_Edge]
    simp only [S_slices_BinarySearchFunc_i_Edge_i_Edge_i_Edge, Tryd.f47, SLM, simprocAttr]
    simp -implicitDefEqProofs (maxSteps := 2000000) (disch := first | assumption | (refine Shut.mk ?_; kernel_rfl) | omega | (simp only [GT]; done) | (simp only [LN] <;> omega) | fail) only [↓WD, ↓kAsg, ↓kRet, ↓clash_free, ↓WDD, ↓kOpD_callv, WK, UN, TY, LB, MD, i64_id, simprocAttr, ↓CV, LE, ↓kc_i_compareEdges, ↓loop_bsf_top, hc, hd, Int.toNat_natCast, hz]
  · have hc : ¬ ((bsE l ⟨a, b, c⟩ : Nat) : Int) < (l.length : Int) := by omega
    have hd : decide (bsE l ⟨a, b, c⟩ < l.length) = false := by simp [h1]
    obtain ⟨n, rfl⟩ : ∃ m, n = m + 1 := ⟨n - 1, by omega⟩
    rw [fn_slices_BinarySearchFunc_i_Edge_i_Edge_i_Edge]
    simp only [S_slices_BinarySearchFunc_i_Edge_i_Edge_i_Edge, Tryd.f47, SLM, simprocAttr]
    simp -implicitDefEqProofs (maxSteps := 2000000) (disch := first | assumption | (refine Shut.mk ?_; kernel_rfl) | omega | (simp only [GT]; done) | (simp only [LN] <;> omega) | fail) only [↓WD, ↓kAsg, ↓kRet, ↓clash_free, ↓WDD, ↓kOpD_callv, WK, UN, TY, LB, MD, i64_id, simprocAttr, ↓CV, LE, ↓kc_i_compareEdges, ↓loop_bsf_top, hc, hd, Int.toNat_natCast]
theorem kc_slices_BinarySearchFunc_i_Edge_i_Edge_i_Edge {R : Type} {L n : Nat} {hq : H} {k : A → H → Option R} (hn : 6 ≤ n) (l : List Edge) (a b c : Int) (hl : l.length ≤ 4294967296) (hL : 2 ^ 60 ≤ L) : kCall env (evCall env L n) hq 47 [.d (.ivs l.length (edgesD l)), .agg [.d (.int .i64 a), .d (.int .i64 b), .d (.int .i64 c)], .d (.fn 29 [])] k = k (.tup [.d (.int .i64 (bsE l ⟨a, b, c⟩ : Nat)), .d (.bool (hitE l ⟨a, b, c⟩))]) hq :=
  kCall_still rfl (ev_slices_BinarySearchFunc_i_Edge_i_Edge_i_Edge hn l a b c hl hL) rfl (.inl rfl)
theorem kl_slices_BinarySearchFunc_i_Edge_i_Edge_i_Edge {R : Type} {L n : Nat} {k : A → Option R} (hn : 6 ≤ n) (l : List Edge) (a b c : Int) (hl : l.length ≤ 4294967296) (hL : 2 ^ 60 ≤ L) : kLent (evCall env L n) 47 [.d (.ivs l.length (edgesD l)), .agg [.d (.int .i64 a), .d (.int .i64 b), .d (.int .i64 c)], .d (.fn 29 [])] k = k (.tup [.d (.int .i64 (bsE l ⟨a, b, c⟩ : Nat)), .d (.bool (hitE l ⟨a, b, c⟩))]) :=
  kLent_ev (ev_slices_BinarySearchFunc_i_Edge_i_Edge_i_Edge hn l a b c hl hL) rfl
theorem kv_slices_BinarySearchFunc_i_Edge_i_Edge_i_Edge_1 {R : Type} {L n : Nat} {hq : H} {k : A → H → Option R} {id0 g0 o0 len0 : Nat} {a b c : Int} : kCall env (evCall env L n) hq 47 [.sl id0 g0 o0 len0, .agg [.d (.int .i64 a), .d (.int .i64 b), .d (.int .i64 c)], .d (.fn 29 [])] k = match box (lentA hq [.sl id0 g0 o0 len0, .agg [.d (.int .i64 a), .d (.int .i64 b), .d (.int .i64 c)], .d (.fn 29 [])]) with
    | .mk (some fs) => kLent (evCall env L n) 47 fs fun r => k r hq
    | _ => none := kCall_lent mode_slices_BinarySearchFunc_i_Edge_i_Edge_i_Edge

theorem kv_search {R : Type} {L n : Nat} {hq : H} {k : A → H → Option R} {id0 g0 o0 len0 : Nat} {a b c : Int} : kCall env (evCall env L n) hq 47 [.sl id0 g0 o0 len0, .agg [.d (.int .i64 a), .d (.int .i64 b), .d (.int .i64 c)], .clo 29 []] k = match box (lentA hq [.sl id0 g0 o0 len0, .agg [.d (.int .i64 a), .d (.int .i64 b), .d (.int .i64 c)], .clo 29 []]) with
    | .mk (some fs) => kLent (evCall env L n) 47 fs fun r => k r hq
    | _ => none := kCall_lent mode_slices_BinarySearchFunc_i_Edge_i_Edge_i_Edge
theorem kv_search_d {R : Type} {L n : Nat} {hq : H} {k : A → H → Option R} {x : D} {a b c : Int} : kCall env (evCall env L n) hq 47 [.d x, .agg [.d (.int .i64 a), .d (.int .i64 b), .d (.int .i64 c)], .clo 29 []] k = match box (lentA hq [.d x, .agg [.d (.int .i64 a), .d (.int .i64 b), .d (.int .i64 c)], .clo 29 []]) with
    | .mk (some fs) => kLent (evCall env L n) 47 fs fun r => k r hq
    | _ => none := kCall_lent mode_slices_BinarySearchFunc_i_Edge_i_Edge_i_Edge

/-! ### copies, cuts -/

theorem set_sameO {h : H} {id : Nat} {o : O} (hi : h[id]? = some o) : h.set id o = h := by
  apply List.ext_getElem?
  intro j
  rw [List.getElem?_set]
  obtain ⟨hl, he⟩ := List.getElem?_eq_some_iff.1 hi
  by_cases e : id = j
  · subst e; simp [hl, he]
  · simp [e]

/-- A call by reference that reaches one slice of data and lays one object. -/
theorem kCall_refnew {R : Type} {E : Env} {call : CallF} {h : H} {f : FuncId} {args : List A} {r : A} {o : O} {k : A → H → Option R} {id e g e2 g2 : Nat} {cs cs2 : List D} (hi : h[id]? = some (.arr cs e g)) (hid : idsL args = [id]) (hm : (E.hint f).mode = 0) (he : call f (mapAs (place [id]) args) [.arr cs e g] = some (r, [.arr cs2 e2 g2, o])) :
    kCall E call h f args k = k (mapA (back [id] h.length 2) r) (h.set id (.arr cs2 e2 g2) ++ [mapO (back [id] h.length 2) o]) := by
  have hre : reach fuelR h [id] [] = [id] := by
    have e1 : reach fuelR h [id] [] = match h[id]? with
      | some (.box cs) => reach (fuelR - 1) h ([] ++ idsL cs) ([] ++ [id])
      | some (.vec cs _ _) => reach (fuelR - 1) h ([] ++ idsL cs) ([] ++ [id])
      | some .void => reach (fuelR - 1) h [] []
      | some _ => reach (fuelR - 1) h [] ([] ++ [id])
      | none => reach (fuelR - 1) h [] [] := rfl
    rw [e1, hi]; rfl
  have hpk : pack h [id] = [.arr cs e g] := by
    simp only [pack, List.map_cons, List.map_nil, List.getD_eq_getElem?_getD, hi]; rfl
  unfold kCall
  rw [hid, hre, hpk]
  have hc : aCall call E.hint [.arr cs e g] f (mapAs (place [id]) args) = some (r, [.arr cs2 e2 g2, o]) := by
    unfold aCall; rw [hm]; exact he
  rw [hc]
  have hcl : closed h [id] [id] = true := by
    simp only [closed, List.all_cons, List.all_nil, hi]; simp
  simp only [List.length_cons, List.length_nil, Nat.le_add_left, hcl, and_self, if_true]
  rfl

/-- A call by reference, its arguments being data, that lays memory. -/
theorem kCall_new0 {R : Type} {E : Env} {call : CallF} {h h2 : H} {f : FuncId} {args : List A} {r : A} {k : A → H → Option R} (hs : args.all still = true) (hm : (E.hint f).mode = 0) (hc : call f args [] = some (r, h2)) :
    kCall E call h f args k = k (mapA (back [] h.length h2.length) r) (h ++ h2.map (mapO (back [] h.length h2.length))) := by
  have hcall : aCall call E.hint [] f args = some (r, h2) := by
    unfold aCall
    rw [hm]
    exact hc
  unfold kCall
  rw [stills_ids hs, reach_none, mapAs_none _ (stills_ids hs)]
  have : pack h [] = [] := rfl
  rw [this, hcall]
  simp only [List.length_nil, Nat.zero_le, true_and, closed, List.all_nil, Bool.and_self, if_true, putBack]

theorem gClone_edges {l : List Edge} {g : Nat} (hl : l.length ≤ 4294967296) : gClone 3 [.sl 0 g 0 l.length] [.arr (edgesD l) 3 g] = some (.sl 1 0 0 l.length, [.arr (edgesD l) 3 g, .arr (edgesD l) 3 0]) := by
  have h1 : 0 + l.length * 3 ≤ (edgesD l).length := by rw [edgesD_length]; omega
  have h2 : sliceCells [.arr (edgesD l) 3 g] 3 (.sl 0 g 0 l.length) = some (l.length, edgesD l) := by
    simp only [sliceCells, List.getElem?_cons_zero, true_and, or_true, h1, if_true, List.drop_zero, edges_take (Nat.le_refl _)]
  have h3 : l.length ≤ maxNeed := by unfold maxNeed; omega
  simp only [gClone, h2, h3, if_true]
  rfl
theorem gClone_edges_d {l : List Edge} (hl : l.length ≤ 4294967296) : gClone 3 [.d (.ivs l.length (edgesD l))] [] = some (.sl 0 0 0 l.length, [.arr (edgesD l) 3 0]) := by
  have h2 : sliceCells [] 3 (.d (.ivs l.length (edgesD l))) = some (l.length, edgesD l) := by
    simp only [sliceCells, edgesD_length, if_true]
  have h3 : l.length ≤ maxNeed := by unfold maxNeed; omega
  simp only [gClone, h2, h3, if_true]
  rfl
theorem kc_slices_Clone_i_Edge_i_Edge {R : Type} {L n id g : Nat} {hq : H} {k : A → H → Option R} (hn : 1 ≤ n) (l : List Edge) (hi : hq[id]? = some (.arr (edgesD l) 3 g)) (hl : l.length ≤ 4294967296) :
    kCall env (evCall env L n) hq 49 [.sl id g 0 l.length] k = k (.sl hq.length 0 0 l.length) (hq ++ [.arr (edgesD l) 3 0]) := by
  obtain ⟨n, rfl⟩ : ∃ m, n = m + 1 := ⟨n - 1, by omega⟩
  rw [kCall_refnew hi (by simp [idsL, idsA]) mode_slices_Clone_i_Edge_i_Edge (by rw [prim_slices_Clone_i_Edge_i_Edge]; simpa [mapAs, mapA, place] using gClone_edges hl)]
  have hset : hq.set id (.arr (edgesD l) 3 g) = hq := set_sameO hi
  rw [hset]
  simp [mapA, back, mapO]
theorem kc_slices_Clone_i_Edge_i_Edge_d {R : Type} {L n : Nat} {hq : H} {k : A → H → Option R} (hn : 1 ≤ n) (l : List Edge) (hl : l.length ≤ 4294967296) :
    kCall env (evCall env L n) hq 49 [.d (.ivs l.length (edgesD l))] k = k (.sl hq.length 0 0 l.length) (hq ++ [.arr (edgesD l) 3 0]) := by
  obtain ⟨n, rfl⟩ : ∃ m, n = m + 1 := ⟨n - 1, by omega⟩
  rw [kCall_new0 rfl mode_slices_Clone_i_Edge_i_Edge (by rw [prim_slices_Clone_i_Edge_i_Edge]; exact gClone_edges_d hl)]
  simp [mapA, back, mapO]

theorem kc_slices_Delete_i_Edge_i_Edge {R : Type} {L n id g : Nat} {hq : H} {k : A → H → Option R} (hn : 1 ≤ n) (l : List Edge) (i j : Nat) (hi : hq[id]? = some (.arr (edgesD l) 3 g)) (hl : l.length ≤ 4294967296) (hij : i < j) (hj : j ≤ l.length) :
    kCall env (evCall env L n) hq 52 [.sl id g 0 l.length, .d (.int .i64 (i : Int)), .d (.int .i64 (j : Int))] k = k (.sl id (g + 1) 0 (l.take i ++ l.drop j).length) (hq.set id (.arr (edgesD (l.take i ++ l.drop j)) 3 (g + 1))) := by
  obtain ⟨n, rfl⟩ : ∃ m, n = m + 1 := ⟨n - 1, by omega⟩
  have hlen : (l.take i ++ l.drop j).length = l.length - (j - i) := by simp only [List.length_append, List.length_take, List.length_drop]; omega
  have hd : gDelete 3 [.sl 0 g 0 l.length, .d (.int .i64 (i : Int)), .d (.int .i64 (j : Int))] [.arr (edgesD l) 3 g] = some (.sl 0 (g + 1) 0 (l.take i ++ l.drop j).length, [.arr (edgesD (l.take i ++ l.drop j)) 3 (g + 1)]) := by
    have c : True ∧ True ∧ True ∧ (0 : Int) ≤ i ∧ (i : Int) < j ∧ (j : Int) ≤ l.length ∧ l.length ≤ maxNeed ∧ l.length * 3 ≤ (edgesD l).length := ⟨trivial, trivial, trivial, by omega, by omega, by omega, by unfold maxNeed; omega, by rw [edgesD_length]; omega⟩
    simp only [gDelete, List.getElem?_cons_zero]
    rw [if_pos c]
    simp only [Int.toNat_natCast, hlen, List.set_cons_zero, edgesD_takek, edgesD_dropk, edgesD_app]
    rw [List.take_of_length_le (l := l.drop j) (by simp)]
  have hc : evCall env L (n + 1) 52 (mapAs (place [id]) [.sl id g 0 l.length, .d (.int .i64 (i : Int)), .d (.int .i64 (j : Int))]) [.arr (edgesD l) 3 g] = some (.sl 0 (g + 1) 0 (l.take i ++ l.drop j).length, [.arr (edgesD (l.take i ++ l.drop j)) 3 (g + 1)]) := by
    rw [prim_slices_Delete_i_Edge_i_Edge]
    simpa [mapAs, mapA, place] using hd
  have hre : reach fuelR hq [id] [] = [id] := by
    have e1 : reach fuelR hq [id] [] = match hq[id]? with
      | some (.box cs) => reach (fuelR - 1) hq ([] ++ idsL cs) ([] ++ [id])
      | some (.vec cs _ _) => reach (fuelR - 1) hq ([] ++ idsL cs) ([] ++ [id])
      | some .void => reach (fuelR - 1) hq [] []
      | some _ => reach (fuelR - 1) hq [] ([] ++ [id])
      | none => reach (fuelR - 1) hq [] [] := rfl
    rw [e1, hi]; rfl
  have hpk : pack hq [id] = [.arr (edgesD l) 3 g] := by
    simp only [pack, List.map_cons, List.map_nil, List.getD_eq_getElem?_getD, hi]; rfl
  unfold kCall
  have hid : idsL [A.sl id g 0 l.length, .d (.int .i64 (i : Int)), .d (.int .i64 (j : Int))] = [id] := by simp [idsL, idsA]
  rw [hid, hre, hpk]
  have hc2 : aCall (evCall env L (n + 1)) env.hint [.arr (edgesD l) 3 g] 52 (mapAs (place [id]) [.sl id g 0 l.length, .d (.int .i64 (i : Int)), .d (.int .i64 (j : Int))]) = some (.sl 0 (g + 1) 0 (l.take i ++ l.drop j).length, [.arr (edgesD (l.take i ++ l.drop j)) 3 (g + 1)]) := by
    unfold aCall; rw [mode_slices_Delete_i_Edge_i_Edge]; exact hc
  rw [hc2]
  have hcl : closed hq [id] [id] = true := by
    simp only [closed, List.all_cons, List.all_nil, hi]; simp
  simp only [List.length_cons, List.length_nil, Nat.le_refl, hcl, and_self, if_true]
  simp [mapA, back, putBack, mapO]

/-- A system that is handed back, or none. -/
def oS : Option Sys → Sys
  | none => ⟨0, 0, []⟩
  | some s => s
def oZ : Option Sys → Nat
  | none => 0
  | some _ => 3

theorem oS_some {s : Sys} : oS (some s) = s := rfl
theorem oS_none : oS none = ⟨0, 0, []⟩ := rfl
theorem oZ_some {s : Sys} : oZ (some s) = 3 := rfl
theorem oZ_none : oZ none = 0 := rfl

/-- What a drop leaves. -/
def dropI (s : Sys) (e : Edge) : Option Sys := if sysOK s && hitE s.es e then some ⟨s.al, s.st, s.es.take (bsE s.es e) ++ s.es.drop (bsE s.es e + 1)⟩ else none

theorem ev_i_DropEdge {L n : Nat} (hn : 7 ≤ n) (al st a b c : Int) (l : List Edge) (hl : l.length ≤ 4294967296) (hL : 2 ^ 60 ≤ L) (o : Option Sys) (hd : dropI ⟨al, st, l⟩ ⟨a, b, c⟩ = o) : evCall env L n 17 [.agg [.d (.int .i64 al), .d (.int .i64 st), .sl 0 0 0 l.length], .agg [.d (.int .i64 a), .d (.int .i64 b), .d (.int .i64 c)]] [.arr (edgesD l) 3 0] = some (.tup [.agg [.d (.int .i64 (oS o).al), .d (.int .i64 (oS o).st), .sl 1 0 0 (oS o).es.length], .d (.bool o.isSome)], [.arr (edgesD l) 3 0, .arr (edgesD (oS o).es) (oZ o) 0]) := by
  subst hd
  unfold dropI
  cases h1 : sysOK ⟨al, st, l⟩ with
  | false =>
    obtain ⟨n, rfl⟩ : ∃ m, n = m + 1 := ⟨n - 1, by omega⟩
    rw [fn_i_DropEdge]
    simp only [S_i_DropEdge, Tryd.f17, SLM, simprocAttr]
    simp -implicitDefEqProofs (maxSteps := 2000000) (disch := first | assumption | (refine Shut.mk ?_; kernel_rfl) | omega | (simp only [GT]; done) | (simp only [LN] <;> omega) | fail) only [↓WD, ↓kAsg, ↓kRet, ↓clash_free, ↓WDD, ↓kOpD_callv, WK, UN, TY, LB, MD, i64_id, simprocAttr, ↓CV, ↓kc_slices_BinarySearchFunc_i_Edge_i_Edge_i_Edge, ↓kc_i_compareEdges, ↓kc_i_SystemValid, ↓kc_slices_Clone_i_Edge_i_Edge, ↓kc_slices_Delete_i_Edge_i_Edge, ↓kl_i_SystemValid, ↓kv_slices_BinarySearchFunc_i_Edge_i_Edge_i_Edge_1, ↓kv_i_SystemValid_1, LE, ↓kv_search, ↓kl_slices_BinarySearchFunc_i_Edge_i_Edge_i_Edge, h1]
    rfl
  | true =>
    cases h2 : hitE l ⟨a, b, c⟩ with
    | false =>
      obtain ⟨n, rfl⟩ : ∃ m, n = m + 1 := ⟨n - 1, by omega⟩
      rw [fn_i_DropEdge]
      simp only [S_i_DropEdge, Tryd.f17, SLM, simprocAttr]
      simp -implicitDefEqProofs (maxSteps := 2000000) (disch := first | assumption | (refine Shut.mk ?_; kernel_rfl) | omega | (simp only [GT]; done) | (simp only [LN] <;> omega) | fail) only [↓WD, ↓kAsg, ↓kRet, ↓clash_free, ↓WDD, ↓kOpD_callv, WK, UN, TY, LB, MD, i64_id, simprocAttr, ↓CV, ↓kc_slices_BinarySearchFunc_i_Edge_i_Edge_i_Edge, ↓kc_i_compareEdges, ↓kc_i_SystemValid, ↓kc_slices_Clone_i_Edge_i_Edge, ↓kc_slices_Delete_i_Edge_i_Edge, ↓kl_i_SystemValid, ↓kv_slices_BinarySearchFunc_i_Edge_i_Edge_i_Edge_1, ↓kv_i_SystemValid_1, LE, ↓kv_search, ↓kl_slices_BinarySearchFunc_i_Edge_i_Edge_i_Edge, h1, h2]
      rfl
    | true =>
      have h3 : bsE l ⟨a, b, c⟩ < l.length := by
        unfold hitE at h2
        simp only [Bool.and_eq_true, decide_eq_true_eq] at h2
        exact h2.1
      have e1 : ((bsE l ⟨a, b, c⟩ : Nat) : Int) + 1 = ((bsE l ⟨a, b, c⟩ + 1 : Nat) : Int) := rfl
      obtain ⟨n, rfl⟩ : ∃ m, n = m + 1 := ⟨n - 1, by omega⟩
      rw [fn_i_DropEdge]
      simp only [S_i_DropEdge, Tryd.f17, SLM, simprocAttr]
      simp -implicitDefEqProofs (maxSteps := 2000000) (disch := first | assumption | (refine Shut.mk ?_; kernel_rfl) | omega | (simp only [GT]; done) | (simp only [LN] <;> omega) | fail) only [↓WD, ↓kAsg, ↓kRet, ↓clash_free, ↓WDD, ↓kOpD_callv, WK, UN, TY, LB, MD, i64_id, simprocAttr, ↓CV, ↓kc_slices_BinarySearchFunc_i_Edge_i_Edge_i_Edge, ↓kc_i_compareEdges, ↓kc_i_SystemValid, ↓kc_slices_Clone_i_Edge_i_Edge, ↓kc_slices_Delete_i_Edge_i_Edge, ↓kl_i_SystemValid, ↓kv_slices_BinarySearchFunc_i_Edge_i_Edge_i_Edge_1, ↓kv_i_SystemValid_1, LE, ↓kv_search, ↓kl_slices_BinarySearchFunc_i_Edge_i_Edge_i_Edge, h1, h2, e1]
      simp only [Bool.and_self, if_true, oS_some, oZ_some, List.length_append, Option.isSome]

theorem kc_i_DropEdge {R : Type} {L n id : Nat} {hq : H} {k : A → H → Option R} (hn : 7 ≤ n) (al st a b c : Int) (l : List Edge) (hi : hq[id]? = some (.arr (edgesD l) 3 0)) (hl : l.length ≤ 4294967296) (hL : 2 ^ 60 ≤ L) :
    kCall env (evCall env L n) hq 17 [.agg [.d (.int .i64 al), .d (.int .i64 st), .sl id 0 0 l.length], .agg [.d (.int .i64 a), .d (.int .i64 b), .d (.int .i64 c)]] k
    = k (.tup [.agg [.d (.int .i64 (oS (dropI ⟨al, st, l⟩ ⟨a, b, c⟩)).al), .d (.int .i64 (oS (dropI ⟨al, st, l⟩ ⟨a, b, c⟩)).st), .sl hq.length 0 0 (oS (dropI ⟨al, st, l⟩ ⟨a, b, c⟩)).es.length], .d (.bool (dropI ⟨al, st, l⟩ ⟨a, b, c⟩).isSome)]) (hq ++ [.arr (edgesD (oS (dropI ⟨al, st, l⟩ ⟨a, b, c⟩)).es) (oZ (dropI ⟨al, st, l⟩ ⟨a, b, c⟩)) 0]) := by
  rw [kCall_refnew hi (by simp [idsL, idsA]) mode_i_DropEdge (by simpa [mapAs, mapA, place] using ev_i_DropEdge hn al st a b c l hl hL _ rfl)]
  rw [set_sameO hi]
  simp [mapA, mapAs, back, mapO]

end Ev
end Go.Proofs.YtojaohcpgelhmaaDoor
end

/-!
  What the reference says of dropping an edge; both are the same.
-/
section
set_option linter.unusedSimpArgs false
set_option linter.unusedVariables false
set_option maxRecDepth 8000
set_option pp.maxSteps 6000
set_option maxHeartbeats 4000000
namespace Go.Proofs.YtojaohcpgelhmaaDoor
namespace Ev

def optI : Option Nat → Int
  | none => -1
  | some r => r

theorem optI_some {r : Nat} : optI (some r) = (r : Int) := rfl
theorem optI_none : optI none = -1 := rfl

theorem loop_s_l17Index {R : Type} {L n : Nat} {a b c : Int} {l : List Edge} (hl : l.length ≤ 4294967296) {k : Exit → List A → H → Option R} : ∀ (j : Nat) (i : Int) (m : Nat) (h0 : 0 ≤ i) (hi : i + j = l.length) (hm : j < m),
    kLoop env (evCall env L n) L 0 [] (true :: false :: false :: true :: true :: true :: false :: false :: false :: false :: false :: false :: false :: false :: false :: false :: false :: false :: false :: []) (lp_s_l17Index 0) (false :: true :: true :: false :: false :: false :: true :: true :: true :: true :: true :: true :: true :: true :: true :: true :: true :: true :: true :: []) m (.d (.ivs l.length (edgesD l)) :: .junk :: .junk :: .ptr 0 0 0 :: .d (.int .i64 0) :: .d (.int .i64 i) :: .junk :: .junk :: .junk :: .junk :: .junk :: .junk :: .junk :: .junk :: .junk :: .junk :: .junk :: .junk :: .junk :: []) [.box [.d (.int .i64 a), .d (.int .i64 b), .d (.int .i64 c)]] k
    = match seek (fun k => decide (l.getD k default = ⟨a, b, c⟩)) j i.toNat with
      | none => k (.exit 0) (.d (.ivs l.length (edgesD l)) :: .junk :: .junk :: .ptr 0 0 0 :: .d (.int .i64 0) :: .d (.int .i64 (l.length)) :: .junk :: .junk :: .junk :: .junk :: .junk :: .junk :: .junk :: .junk :: .junk :: .junk :: .junk :: .junk :: .junk :: []) [.box [.d (.int .i64 a), .d (.int .i64 b), .d (.int .i64 c)]]
      | some r => k .ret (.d (.ivs l.length (edgesD l)) :: .junk :: .junk :: .ptr 0 0 0 :: .d (.int .i64 r) :: .d (.int .i64 r) :: .junk :: .junk :: .junk :: .junk :: .junk :: .junk :: .junk :: .junk :: .junk :: .junk :: .junk :: .junk :: .junk :: []) [.box [.d (.int .i64 a), .d (.int .i64 b), .d (.int .i64 c)]] := by
  intro j
  induction j with
  | zero =>
    intro i m h0 hi hm
    obtain ⟨m, rfl⟩ : ∃ q, m = q + 1 := ⟨m - 1, by omega⟩
    obtain rfl : i = l.length := by omega
    rw [step_s_l17Index_0]
    simp only [S_s_l17Index_0, Tryd.f51, SLM, simprocAttr]
    simp -implicitDefEqProofs (maxSteps := 2000000) (disch := first | assumption | (refine Shut.mk ?_; kernel_rfl) | omega | (simp only [GT]; done) | (simp only [LN] <;> omega) | fail) only [↓WD, ↓kAsg, ↓kRet, ↓clash_free, ↓WDD, ↓kOpD_callv, WK, UN, TY, LB, MD, i64_id, simprocAttr, ↓CV, LE, Int.lt_irrefl]
    rfl
  | succ j ih =>
    intro i m h0 hi hm
    obtain ⟨m, rfl⟩ : ∃ q, m = q + 1 := ⟨m - 1, by omega⟩
    have hc : i < l.length := by omega
    have hk : i.toNat < l.length := by omega
    have e1 : (i + 1).toNat = i.toNat + 1 := by omega
    have e3 : ((i.toNat : Nat) : Int) = i := by omega
    by_cases hb : l.getD i.toNat default = ⟨a, b, c⟩
    · rw [seek_pos (decide_eq_true hb)]
      rw [step_s_l17Index_0]
      simp only [S_s_l17Index_0, Tryd.f51, SLM, simprocAttr]
      simp -implicitDefEqProofs (maxSteps := 2000000) (disch := first | assumption | (refine Shut.mk ?_; kernel_rfl) | omega | (simp only [GT]; done) | (simp only [LN] <;> omega) | fail) only [↓WD, ↓kAsg, ↓kRet, ↓clash_free, ↓WDD, ↓kOpD_callv, WK, UN, TY, LB, MD, i64_id, simprocAttr, ↓CV, LE, hc, hb, e3]
    · rw [seek_neg (decide_eq_false hb)]
      rw [step_s_l17Index_0]
      simp only [S_s_l17Index_0, Tryd.f51, SLM, simprocAttr]
      simp -implicitDefEqProofs (maxSteps := 2000000) (disch := first | assumption | (refine Shut.mk ?_; kernel_rfl) | omega | (simp only [GT]; done) | (simp only [LN] <;> omega) | fail) only [↓WD, ↓kAsg, ↓kRet, ↓clash_free, ↓WDD, ↓kOpD_callv, WK, UN, TY, LB, MD, i64_id, simprocAttr, ↓CV, LE, hc, hb, ↓ih, e1]

theorem loop_s_l17Index_top {R : Type} {L n m : Nat} {a b c : Int} {l : List Edge} (hl : l.length ≤ 4294967296) {k : Exit → List A → H → Option R} (hm : l.length < m) :
    kLoop env (evCall env L n) L 0 [] (true :: false :: false :: true :: true :: true :: false :: false :: false :: false :: false :: false :: false :: false :: false :: false :: false :: false :: false :: []) (lp_s_l17Index 0) (false :: true :: true :: false :: false :: false :: true :: true :: true :: true :: true :: true :: true :: true :: true :: true :: true :: true :: true :: []) m (.d (.ivs l.length (edgesD l)) :: .junk :: .junk :: .ptr 0 0 0 :: .d (.int .i64 0) :: .d (.int .i64 0) :: .junk :: .junk :: .junk :: .junk :: .junk :: .junk :: .junk :: .junk :: .junk :: .junk :: .junk :: .junk :: .junk :: []) [.box [.d (.int .i64 a), .d (.int .i64 b), .d (.int .i64 c)]] k
    = match idxE l ⟨a, b, c⟩ with
      | none => k (.exit 0) (.d (.ivs l.length (edgesD l)) :: .junk :: .junk :: .ptr 0 0 0 :: .d (.int .i64 0) :: .d (.int .i64 (l.length)) :: .junk :: .junk :: .junk :: .junk :: .junk :: .junk :: .junk :: .junk :: .junk :: .junk :: .junk :: .junk :: .junk :: []) [.box [.d (.int .i64 a), .d (.int .i64 b), .d (.int .i64 c)]]
      | some r => k .ret (.d (.ivs l.length (edgesD l)) :: .junk :: .junk :: .ptr 0 0 0 :: .d (.int .i64 r) :: .d (.int .i64 r) :: .junk :: .junk :: .junk :: .junk :: .junk :: .junk :: .junk :: .junk :: .junk :: .junk :: .junk :: .junk :: .junk :: []) [.box [.d (.int .i64 a), .d (.int .i64 b), .d (.int .i64 c)]] :=
  loop_s_l17Index hl l.length 0 m (by omega) (by omega) hm

theorem ev_s_l17Index {L n : Nat} (hn : 1 ≤ n) (l : List Edge) (a b c : Int) (hl : l.length ≤ 4294967296) (hL : 2 ^ 60 ≤ L) : evCall env L n 51 [.d (.ivs l.length (edgesD l)), .agg [.d (.int .i64 a), .d (.int .i64 b), .d (.int .i64 c)]] [] = some (.d (.int .i64 (optI (idxE l ⟨a, b, c⟩))), []) := by
  cases hs : idxE l ⟨a, b, c⟩ with
  | none =>
    obtain ⟨n, rfl⟩ : ∃ m, n = m + 1 := ⟨n - 1, by omega⟩
    rw [fn_s_l17Index]
    simp only [S_s_l17Index, Tryd.f51, SLM, simprocAttr]
    simp -implicitDefEqProofs (maxSteps := 2000000) (disch := first | assumption | (refine Shut.mk ?_; kernel_rfl) | omega | (simp only [GT]; done) | (simp only [LN] <;> omega) | fail) only [↓WD, ↓kAsg, ↓kRet, ↓clash_free, ↓WDD, ↓kOpD_callv, WK, UN, TY, LB, MD, i64_id, simprocAttr, ↓CV, ↓loop_s_l17Index, ↓loop_s_l17Index_top, LE, hs, optI]
  | some r =>
    obtain ⟨n, rfl⟩ : ∃ m, n = m + 1 := ⟨n - 1, by omega⟩
    rw [fn_s_l17Index]
    simp only [S_s_l17Index, Tryd.f51, SLM, simprocAttr]
    simp -implicitDefEqProofs (maxSteps := 2000000) (disch := first | assumption | (refine Shut.mk ?_; kernel_rfl) | omega | (simp only [GT]; done) | (simp only [LN] <;> omega) | fail) only [↓WD, ↓kAsg, ↓kRet, ↓clash_free, ↓WDD, ↓kOpD_callv, WK, UN, TY, LB, MD, i64_id, simprocAttr, ↓CV, ↓loop_s_l17Index, ↓loop_s_l17Index_top, LE, hs, optI]
theorem kc_s_l17Index {R : Type} {L n : Nat} {hq : H} {k : A → H → Option R} (hn : 1 ≤ n) (l : List Edge) (a b c : Int) (hl : l.length ≤ 4294967296) (hL : 2 ^ 60 ≤ L) : kCall env (evCall env L n) hq 51 [.d (.ivs l.length (edgesD l)), .agg [.d (.int .i64 a), .d (.int .i64 b), .d (.int .i64 c)]] k = k (.d (.int .i64 (optI (idxE l ⟨a, b, c⟩)))) hq :=
  kCall_still rfl (ev_s_l17Index hn l a b c hl hL) rfl (.inl rfl)
theorem kl_s_l17Index {R : Type} {L n : Nat} {k : A → Option R} (hn : 1 ≤ n) (l : List Edge) (a b c : Int) (hl : l.length ≤ 4294967296) (hL : 2 ^ 60 ≤ L) : kLent (evCall env L n) 51 [.d (.ivs l.length (edgesD l)), .agg [.d (.int .i64 a), .d (.int .i64 b), .d (.int .i64 c)]] k = k (.d (.int .i64 (optI (idxE l ⟨a, b, c⟩)))) :=
  kLent_ev (ev_s_l17Index hn l a b c hl hL) rfl
theorem kv_s_l17Index_1 {R : Type} {L n : Nat} {hq : H} {k : A → H → Option R} {id0 g0 o0 len0 : Nat} {a b c : Int} : kCall env (evCall env L n) hq 51 [.sl id0 g0 o0 len0, .agg [.d (.int .i64 a), .d (.int .i64 b), .d (.int .i64 c)]] k = match box (lentA hq [.sl id0 g0 o0 len0, .agg [.d (.int .i64 a), .d (.int .i64 b), .d (.int .i64 c)]]) with
    | .mk (some fs) => kLent (evCall env L n) 51 fs fun r => k r hq
    | _ => none := kCall_lent mode_s_l17Index

/-- A call with frozen arguments, one of which is a slice of data. -/
theorem kCall_frz1 {R : Type} {E : Env} {call : CallF} {h : H} {f : FuncId} {args fs : List A} {r : A} {k : A → H → Option R} {id e g : Nat} {cs : List D} (hi : h[id]? = some (.arr cs e g)) (hid : idsL args = [id]) (hm : (E.hint f).mode = 2) (hr : idsA r = []) (hf : frzAs [.arr cs e g] (mapAs (place [id]) args) = some (fs, [.ice cs e g])) (hc : call f fs [] = some (r, [])) :
    kCall E call h f args k = k r (h.set id (.ice cs e g)) := by
  have hre : reach fuelR h [id] [] = [id] := by
    have e1 : reach fuelR h [id] [] = match h[id]? with
      | some (.box cs) => reach (fuelR - 1) h ([] ++ idsL cs) ([] ++ [id])
      | some (.vec cs _ _) => reach (fuelR - 1) h ([] ++ idsL cs) ([] ++ [id])
      | some .void => reach (fuelR - 1) h [] []
      | some _ => reach (fuelR - 1) h [] ([] ++ [id])
      | none => reach (fuelR - 1) h [] [] := rfl
    rw [e1, hi]; rfl
  have hpk : pack h [id] = [.arr cs e g] := by
    simp only [pack, List.map_cons, List.map_nil, List.getD_eq_getElem?_getD, hi]; rfl
  unfold kCall
  rw [hid, hre, hpk]
  have hc : aCall call E.hint [.arr cs e g] f (mapAs (place [id]) args) = some (r, [.ice cs e g]) := by
    unfold aCall; rw [hm]
    simp only [hf, hc]
  rw [hc]
  have hcl : closed h [id] [id] = true := by
    simp only [closed, List.all_cons, List.all_nil, hi]; simp
  simp only [List.length_cons, List.length_nil, Nat.le_refl, hcl, and_self, if_true, mapA_none r hr]
  simp only [putBack, mapO, List.map_nil, List.append_nil]

theorem frz_sys {al st : Int} {l : List Edge} {id : Nat} {xs : List A} (hx : xs.all still = true) : frzAs [.arr (edgesD l) 3 0] (mapAs (place [id]) (.agg [.d (.int .i64 al), .d (.int .i64 st), .sl id 0 0 l.length] :: xs)) = some (.agg [.d (.int .i64 al), .d (.int .i64 st), .d (.ivs l.length (edgesD l))] :: xs, [.ice (edgesD l) 3 0]) := by
  have h1 : 0 + l.length * 3 ≤ (edgesD l).length := by rw [edgesD_length]; omega
  have h2 : mapAs (place [id]) (.agg [.d (.int .i64 al), .d (.int .i64 st), .sl id 0 0 l.length] :: xs) = .agg [.d (.int .i64 al), .d (.int .i64 st), .sl 0 0 0 l.length] :: xs := by
    simp [mapAs, mapA, place, mapAs_none _ (stills_ids hx)]
  have h3 : frzA [.arr (edgesD l) 3 0] (.agg [.d (.int .i64 al), .d (.int .i64 st), .sl 0 0 0 l.length]) = some (.agg [.d (.int .i64 al), .d (.int .i64 st), .d (.ivs l.length (edgesD l))], [.ice (edgesD l) 3 0]) := by
    simp only [frzA, frzL, listWith, frz, deep, frz0, List.getElem?_cons_zero, true_and, h1, if_true, List.drop_zero, edges_take (Nat.le_refl _), List.set_cons_zero, List.map_cons, List.map_nil]
  rw [h2]
  simp only [frzAs, h3, frzAs_still hx]

end Ev
end Go.Proofs.YtojaohcpgelhmaaDoor
end
