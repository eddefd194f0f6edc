/-
  Adding an edge.
-/
import Derived.Test.YtojaohcpgelhmaaDoorSwapS
set_option linter.unusedSimpArgs false
set_option linter.unusedVariables false
set_option maxRecDepth 8000
set_option pp.maxSteps 6000
set_option maxHeartbeats 4000000
namespace Go.Proofs.YtojaohcpgelhmaaDoor
namespace Ev

/-- An edge put at a place. -/
def putE (l : List Edge) (i : Nat) (e : Edge) : List Edge := l.take i ++ (e :: l.drop i)

theorem putE_len {l : List Edge} {i : Nat} {e : Edge} (h : i ≤ l.length) : (putE l i e).length = l.length + 1 := by
  unfold putE
  simp only [List.length_append, List.length_take, List.length_cons, List.length_drop]; omega

theorem kc_slices_Insert_i_Edge_i_Edge {R : Type} {L n id id2 g g2 : Nat} {hq : H} {k : A → H → Option R} (hn : 1 ≤ n) (l : List Edge) (i : Nat) (a b c : Int) (hi : hq[id]? = some (.arr (edgesD l) 3 g)) (hi2 : hq[id2]? = some (.arr [.int .i64 a, .int .i64 b, .int .i64 c] 3 g2)) (hne : id ≠ id2) (hl : l.length ≤ 4294967295) (hil : i ≤ l.length) :
    kCall env (evCall env L n) hq 48 [.sl id g 0 l.length, .d (.int .i64 (i : Int)), .sl id2 g2 0 1] k = k (.sl id (g + 1) 0 (putE l i ⟨a, b, c⟩).length) (hq.set id (.arr (edgesD (putE l i ⟨a, b, c⟩)) 3 (g + 1))) := by
  obtain ⟨n, rfl⟩ : ∃ m, n = m + 1 := ⟨n - 1, by omega⟩
  have hd : gInsert 3 [.sl 0 g 0 l.length, .d (.int .i64 (i : Int)), .sl 1 g2 0 1] [.arr (edgesD l) 3 g, .arr [.int .i64 a, .int .i64 b, .int .i64 c] 3 g2] = some (.sl 0 (g + 1) 0 (putE l i ⟨a, b, c⟩).length, [.arr (edgesD (putE l i ⟨a, b, c⟩)) 3 (g + 1), .arr [.int .i64 a, .int .i64 b, .int .i64 c] 3 g2]) := by
    have cc : (0 : Nat) ≠ 1 ∧ True ∧ True ∧ True ∧ True ∧ True ∧ True ∧ True ∧ (0 : Int) ≤ i ∧ (i : Int) ≤ l.length ∧ l.length + 1 ≤ maxNeed ∧ l.length * 3 ≤ (edgesD l).length ∧ 3 ≤ [D.int .i64 a, .int .i64 b, .int .i64 c].length :=
      ⟨by omega, trivial, trivial, trivial, trivial, trivial, trivial, trivial, by omega, by omega, by unfold maxNeed; omega, by rw [edgesD_length]; omega, by simp⟩
    simp only [gInsert, List.getElem?_cons_zero, List.getElem?_cons_succ]
    rw [if_pos cc]
    have e1 : (edgesD l).take (i * 3) ++ ([D.int .i64 a, .int .i64 b, .int .i64 c].take 3 ++ ((edgesD l).drop (i * 3)).take ((l.length - i) * 3)) = edgesD (putE l i ⟨a, b, c⟩) := by
      unfold putE
      rw [edgesD_takek, edgesD_dropk, edgesD_takek, List.take_of_length_le (l := l.drop i) (by simp), ← edgesD_app, edgesD_cons]
      rfl
    simp only [Int.toNat_natCast, e1, putE_len hil, List.set_cons_zero]
  have hma : mapAs (place [id, id2]) [A.sl id g 0 l.length, .d (.int .i64 (i : Int)), .sl id2 g2 0 1] = [.sl 0 g 0 l.length, .d (.int .i64 (i : Int)), .sl 1 g2 0 1] := by
    simp [mapAs, mapA, place, hne]
  have hre : reach fuelR hq [id, id2] [] = [id, id2] := by
    have e1 : reach fuelR hq [id, id2] [] = match hq[id]? with
      | some (.box cs) => reach (fuelR - 1) hq ([id2] ++ idsL cs) ([] ++ [id])
      | some (.vec cs _ _) => reach (fuelR - 1) hq ([id2] ++ idsL cs) ([] ++ [id])
      | some .void => reach (fuelR - 1) hq [id2] []
      | some _ => reach (fuelR - 1) hq [id2] ([] ++ [id])
      | none => reach (fuelR - 1) hq [id2] [] := rfl
    have e2 : reach (fuelR - 1) hq [id2] [id] = if [id].contains id2 = true then reach (fuelR - 2) hq [] [id] else match hq[id2]? with
      | some (.box cs) => reach (fuelR - 2) hq ([] ++ idsL cs) ([id] ++ [id2])
      | some (.vec cs _ _) => reach (fuelR - 2) hq ([] ++ idsL cs) ([id] ++ [id2])
      | some .void => reach (fuelR - 2) hq [] [id]
      | some _ => reach (fuelR - 2) hq [] ([id] ++ [id2])
      | none => reach (fuelR - 2) hq [] [id] := rfl
    have e3 : [id].contains id2 = false := by simp [Ne.symm hne]
    rw [e1, hi]
    show reach (fuelR - 1) hq [id2] [id] = _
    rw [e2, e3, hi2]
    rfl
  have hpk : pack hq [id, id2] = [.arr (edgesD l) 3 g, .arr [.int .i64 a, .int .i64 b, .int .i64 c] 3 g2] := by
    simp only [pack, List.map_cons, List.map_nil, List.getD_eq_getElem?_getD, hi, hi2]; rfl
  have hid : idsL [A.sl id g 0 l.length, .d (.int .i64 (i : Int)), .sl id2 g2 0 1] = [id, id2] := by simp [idsL, idsA]
  unfold kCall
  rw [hid, hre, hpk, hma]
  have hc2 : aCall (evCall env L (n + 1)) env.hint [.arr (edgesD l) 3 g, .arr [.int .i64 a, .int .i64 b, .int .i64 c] 3 g2] 48 [.sl 0 g 0 l.length, .d (.int .i64 (i : Int)), .sl 1 g2 0 1] = some (.sl 0 (g + 1) 0 (putE l i ⟨a, b, c⟩).length, [.arr (edgesD (putE l i ⟨a, b, c⟩)) 3 (g + 1), .arr [.int .i64 a, .int .i64 b, .int .i64 c] 3 g2]) := by
    unfold aCall; rw [mode_slices_Insert_i_Edge_i_Edge, prim_slices_Insert_i_Edge_i_Edge]; exact hd
  rw [hc2]
  have hcl : closed hq [id, id2] [id, id2] = true := by
    simp only [closed, List.all_cons, List.all_nil, hi, hi2]; simp
  simp only [List.length_cons, List.length_nil, Nat.le_refl, hcl, and_self, if_true]
  have hs : (hq.set id (.arr (edgesD (putE l i ⟨a, b, c⟩)) 3 (g + 1))).set id2 (.arr [.int .i64 a, .int .i64 b, .int .i64 c] 3 g2) = hq.set id (.arr (edgesD (putE l i ⟨a, b, c⟩)) 3 (g + 1)) :=
    set_sameO (by rw [List.getElem?_set_ne hne]; exact hi2)
  simp [mapA, back, putBack, mapO, hs]

/-- What adding leaves. -/
def addI (s : Sys) (e : Edge) : Option Sys := if sysOK s && !hitE s.es e && sysOK ⟨s.al, s.st, putE s.es (bsE s.es e) e⟩ then some ⟨s.al, s.st, putE s.es (bsE s.es e) e⟩ else none

theorem ev_i_AddEdge {L n : Nat} (hn : 7 ≤ n) (al st a b c : Int) (l : List Edge) (hl : l.length ≤ 4294967290) (hL : 2 ^ 60 ≤ L) (o : Option Sys) (hd : addI ⟨al, st, l⟩ ⟨a, b, c⟩ = o) : evCall env L n 15 [.agg [.d (.int .i64 al), .d (.int .i64 st), .d (.ivs l.length (edgesD l))], .agg [.d (.int .i64 a), .d (.int .i64 b), .d (.int .i64 c)]] [] = some (.tup [.agg [.d (.int .i64 (oS o).al), .d (.int .i64 (oS o).st), .sl 0 0 0 (oS o).es.length], .d (.bool o.isSome)], [.arr (edgesD (oS o).es) (oZ o) 0]) := by
  subst hd
  unfold addI
  have hl2 : l.length ≤ 4294967296 := by omega
  have h3 : bsE l ⟨a, b, c⟩ ≤ l.length := bsE_le
  have h4 : (putE l (bsE l ⟨a, b, c⟩) ⟨a, b, c⟩).length = l.length + 1 := putE_len h3
  cases h1 : sysOK ⟨al, st, l⟩ with
  | false =>
    obtain ⟨n, rfl⟩ : ∃ m, n = m + 1 := ⟨n - 1, by omega⟩
    rw [fn_i_AddEdge]
    simp only [S_i_AddEdge, Tryd.f15, SLM, simprocAttr]
    simp -implicitDefEqProofs (maxSteps := 2000000) (disch := first | assumption | (refine Shut.mk ?_; kernel_rfl) | omega | (simp only [GT]; done) | (simp only [LN] <;> omega) | fail) only [↓WD, ↓kAsg, ↓kRet, ↓clash_free, ↓WDD, ↓kOpD_callv, WK, UN, TY, LB, MD, i64_id, simprocAttr, ↓CV, ↓kc_slices_BinarySearchFunc_i_Edge_i_Edge_i_Edge, ↓kc_i_compareEdges, ↓kc_i_SystemValid, ↓kc_slices_Clone_i_Edge_i_Edge, ↓kc_slices_Insert_i_Edge_i_Edge, ↓kl_i_SystemValid, ↓kv_slices_BinarySearchFunc_i_Edge_i_Edge_i_Edge_1, ↓kv_i_SystemValid_1, LE, ↓kv_search_d, ↓kl_slices_BinarySearchFunc_i_Edge_i_Edge_i_Edge, h1]
    rfl
  | true =>
    cases h2 : hitE l ⟨a, b, c⟩ with
    | true =>
      obtain ⟨n, rfl⟩ : ∃ m, n = m + 1 := ⟨n - 1, by omega⟩
      rw [fn_i_AddEdge]
      simp only [S_i_AddEdge, Tryd.f15, SLM, simprocAttr]
      simp -implicitDefEqProofs (maxSteps := 2000000) (disch := first | assumption | (refine Shut.mk ?_; kernel_rfl) | omega | (simp only [GT]; done) | (simp only [LN] <;> omega) | fail) only [↓WD, ↓kAsg, ↓kRet, ↓clash_free, ↓WDD, ↓kOpD_callv, WK, UN, TY, LB, MD, i64_id, simprocAttr, ↓CV, ↓kc_slices_BinarySearchFunc_i_Edge_i_Edge_i_Edge, ↓kc_i_compareEdges, ↓kc_i_SystemValid, ↓kc_slices_Clone_i_Edge_i_Edge, ↓kc_slices_Insert_i_Edge_i_Edge, ↓kl_i_SystemValid, ↓kv_slices_BinarySearchFunc_i_Edge_i_Edge_i_Edge_1, ↓kv_i_SystemValid_1, LE, ↓kv_search_d, ↓kl_slices_BinarySearchFunc_i_Edge_i_Edge_i_Edge, h1, h2]
      rfl
    | false =>
      have h5 : (putE l (bsE l ⟨a, b, c⟩) ⟨a, b, c⟩).length ≤ 4294967296 := by omega
      have kc_ins := fun {R : Type} {L n id id2 g g2 : Nat} {hq : H} {k : A → H → Option R} (hn : 1 ≤ n) (hi : hq[id]? = some (.arr (edgesD l) 3 g)) (hi2 : hq[id2]? = some (.arr [.int .i64 a, .int .i64 b, .int .i64 c] 3 g2)) (hne : id ≠ id2) => @kc_slices_Insert_i_Edge_i_Edge R L n id id2 g g2 hq k hn l (bsE l ⟨a, b, c⟩) a b c hi hi2 hne (by omega) h3
      cases h6 : sysOK ⟨al, st, putE l (bsE l ⟨a, b, c⟩) ⟨a, b, c⟩⟩ with
      | false =>
        obtain ⟨n, rfl⟩ : ∃ m, n = m + 1 := ⟨n - 1, by omega⟩
        rw [fn_i_AddEdge]
        simp only [S_i_AddEdge, Tryd.f15, SLM, simprocAttr]
        simp -implicitDefEqProofs (maxSteps := 2000000) (disch := first | assumption | (refine Shut.mk ?_; kernel_rfl) | omega | (simp only [GT]; done) | (simp only [LN] <;> omega) | fail) only [↓WD, ↓kAsg, ↓kRet, ↓clash_free, ↓WDD, ↓kOpD_callv, WK, UN, TY, LB, MD, i64_id, simprocAttr, ↓CV, ↓kc_slices_BinarySearchFunc_i_Edge_i_Edge_i_Edge, ↓kc_i_compareEdges, ↓kc_i_SystemValid, ↓kc_slices_Clone_i_Edge_i_Edge, ↓kl_i_SystemValid, ↓kv_slices_BinarySearchFunc_i_Edge_i_Edge_i_Edge_1, ↓kv_i_SystemValid_1, LE, ↓kv_search_d, ↓kl_slices_BinarySearchFunc_i_Edge_i_Edge_i_Edge, ↓kc_slices_Clone_i_Edge_i_Edge_d, ↓kc_ins, h1, h2, h6]
        rfl
      | true =>
        obtain ⟨n, rfl⟩ : ∃ m, n = m + 1 := ⟨n - 1, by omega⟩
        rw [fn_i_AddEdge]
        simp only [S_i_AddEdge, Tryd.f15, SLM, simprocAttr]
        simp -implicitDefEqProofs (maxSteps := 2000000) (disch := first | assumption | (refine Shut.mk ?_; kernel_rfl) | omega | (simp only [GT]; done) | (simp only [LN] <;> omega) | fail) only [↓WD, ↓kAsg, ↓kRet, ↓clash_free, ↓WDD, ↓kOpD_callv, WK, UN, TY, LB, MD, i64_id, simprocAttr, ↓CV, ↓kc_slices_BinarySearchFunc_i_Edge_i_Edge_i_Edge, ↓kc_i_compareEdges, ↓kc_i_SystemValid, ↓kc_slices_Clone_i_Edge_i_Edge, ↓kl_i_SystemValid, ↓kv_slices_BinarySearchFunc_i_Edge_i_Edge_i_Edge_1, ↓kv_i_SystemValid_1, LE, ↓kv_search_d, ↓kl_slices_BinarySearchFunc_i_Edge_i_Edge_i_Edge, ↓kc_slices_Clone_i_Edge_i_Edge_d, ↓kc_ins, h1, h2, h6]
        rfl

theorem kc_s_l17Sorted_g {R : Type} {L n id g : Nat} {hq : H} {k : A → H → Option R} (hn : 3 ≤ n) (l : List Edge) (a b c : Int) (hi : hq[id]? = some (.arr (edgesD (l ++ [⟨a, b, c⟩])) 3 g)) (hl : l.length ≤ 4294967290) (hL : 2 ^ 60 ≤ L) : kCall env (evCall env L n) hq 34 [.sl id g 0 (l.length + 1)] k = k (.d (.ivs (sortE (l ++ [⟨a, b, c⟩])).length (edgesD (sortE (l ++ [⟨a, b, c⟩]))))) (hq.set id (.ice (edgesD (l ++ [⟨a, b, c⟩])) 3 g)) := by
  have h0 : (l ++ [(⟨a, b, c⟩ : Edge)]).length = l.length + 1 := by simp
  have h1 : 0 + (l ++ [(⟨a, b, c⟩ : Edge)]).length * 3 ≤ (edgesD (l ++ [⟨a, b, c⟩])).length := by rw [edgesD_length]; omega
  rw [← h0]
  exact kCall_frz1 hi (by simp [idsL, idsA]) mode_s_l17Sorted rfl (by
    simp only [mapAs, mapA, place, if_true, frzAs, frzA, frz, deep, frz0, List.getElem?_cons_zero, true_and, h1, List.drop_zero, edges_take (Nat.le_refl _), List.set_cons_zero]) (ev_s_l17Sorted hn _ (by rw [h0]; omega) hL)

/-- What adding leaves, as the reference says. -/
def addS (s : Sys) (e : Edge) : Option Sys := if sysOK s && edgeOK s.al s.st e && (idxE s.es e).isNone then some ⟨s.al, s.st, sortE (s.es ++ [e])⟩ else none

theorem ev_s_AddEdge {L n : Nat} (hn : 6 ≤ n) (al st a b c : Int) (l : List Edge) (hl : l.length ≤ 4294967290) (hL : 2 ^ 60 ≤ L) : evCall env L n 16 [.agg [.d (.int .i64 al), .d (.int .i64 st), .d (.ivs l.length (edgesD l))], .agg [.d (.int .i64 a), .d (.int .i64 b), .d (.int .i64 c)]] [] = some (.tup [.agg [.d (.int .i64 (oS (addS ⟨al, st, l⟩ ⟨a, b, c⟩)).al), .d (.int .i64 (oS (addS ⟨al, st, l⟩ ⟨a, b, c⟩)).st), .d (.ivs (oS (addS ⟨al, st, l⟩ ⟨a, b, c⟩)).es.length (edgesD (oS (addS ⟨al, st, l⟩ ⟨a, b, c⟩)).es))], .d (.bool (addS ⟨al, st, l⟩ ⟨a, b, c⟩).isSome)], []) := by
  unfold addS
  have hl2 : l.length ≤ 4294967296 := by omega
  cases h1 : sysOK ⟨al, st, l⟩ with
  | false =>
    obtain ⟨n, rfl⟩ : ∃ m, n = m + 1 := ⟨n - 1, by omega⟩
    rw [fn_s_AddEdge]
    simp only [S_s_AddEdge, Tryd.f16, SLM, simprocAttr]
    simp -implicitDefEqProofs (maxSteps := 2000000) (disch := first | assumption | (refine Shut.mk ?_; kernel_rfl) | omega | (simp only [GT]; done) | (simp only [LN] <;> omega) | fail) only [↓WD, ↓kAsg, ↓kRet, ↓clash_free, ↓WDD, ↓kOpD_callv, WK, UN, TY, LB, MD, i64_id, simprocAttr, ↓CV, ↓kc_s_SystemValid, ↓kc_s_l2Edge, ↓kc_s_l17Index, ↓kc_s_l17Sorted, ↓kl_s_SystemValid, ↓kl_s_l17Index, ↓kv_s_SystemValid_1, ↓kv_s_l17Index_1, LE, h1]
    rfl
  | true =>
    cases h2 : edgeOK al st ⟨a, b, c⟩ with
    | false =>
      obtain ⟨n, rfl⟩ : ∃ m, n = m + 1 := ⟨n - 1, by omega⟩
      rw [fn_s_AddEdge]
      simp only [S_s_AddEdge, Tryd.f16, SLM, simprocAttr]
      simp -implicitDefEqProofs (maxSteps := 2000000) (disch := first | assumption | (refine Shut.mk ?_; kernel_rfl) | omega | (simp only [GT]; done) | (simp only [LN] <;> omega) | fail) only [↓WD, ↓kAsg, ↓kRet, ↓clash_free, ↓WDD, ↓kOpD_callv, WK, UN, TY, LB, MD, i64_id, simprocAttr, ↓CV, ↓kc_s_SystemValid, ↓kc_s_l2Edge, ↓kc_s_l17Index, ↓kc_s_l17Sorted, ↓kl_s_SystemValid, ↓kl_s_l17Index, ↓kv_s_SystemValid_1, ↓kv_s_l17Index_1, LE, h1, h2]
      rfl
    | true =>
      cases h3 : idxE l ⟨a, b, c⟩ with
      | some r =>
        have h5 : (0 : Int) ≤ (r : Int) := by omega
        obtain ⟨n, rfl⟩ : ∃ m, n = m + 1 := ⟨n - 1, by omega⟩
        rw [fn_s_AddEdge]
        simp only [S_s_AddEdge, Tryd.f16, SLM, simprocAttr]
        simp -implicitDefEqProofs (maxSteps := 2000000) (disch := first | assumption | (refine Shut.mk ?_; kernel_rfl) | omega | (simp only [GT]; done) | (simp only [LN] <;> omega) | fail) only [↓WD, ↓kAsg, ↓kRet, ↓clash_free, ↓WDD, ↓kOpD_callv, WK, UN, TY, LB, MD, i64_id, simprocAttr, ↓CV, ↓kc_s_SystemValid, ↓kc_s_l2Edge, ↓kc_s_l17Index, ↓kc_s_l17Sorted, ↓kl_s_SystemValid, ↓kl_s_l17Index, ↓kv_s_SystemValid_1, ↓kv_s_l17Index_1, LE, h1, h2, h3, optI_some, h5]
        rfl
      | none =>
        have h5 : ¬ (0 : Int) ≤ -1 := by omega
        have kc_srt := fun {R : Type} {L n id g : Nat} {hq : H} {k : A → H → Option R} (hn : 3 ≤ n) (hi : hq[id]? = some (.arr (edgesD (l ++ [⟨a, b, c⟩])) 3 g)) (hL : 2 ^ 60 ≤ L) => @kc_s_l17Sorted_g R L n id g hq k hn l a b c hi hl hL
        obtain ⟨n, rfl⟩ : ∃ m, n = m + 1 := ⟨n - 1, by omega⟩
        rw [fn_s_AddEdge]
        simp only [S_s_AddEdge, Tryd.f16, SLM, simprocAttr]
        simp -implicitDefEqProofs (maxSteps := 2000000) (disch := first | assumption | (refine Shut.mk ?_; kernel_rfl) | omega | (simp only [GT]; done) | (simp only [LN] <;> omega) | fail) only [↓WD, ↓kAsg, ↓kRet, ↓clash_free, ↓WDD, ↓kOpD_callv, WK, UN, TY, LB, MD, i64_id, simprocAttr, ↓CV, ↓kc_s_SystemValid, ↓kc_s_l2Edge, ↓kc_s_l17Index, ↓kl_s_SystemValid, ↓kl_s_l17Index, ↓kv_s_SystemValid_1, ↓kv_s_l17Index_1, LE, h1, h2, h3, optI_none, h5, ↓kc_srt, edgesD_app]
        simp only [Bool.and_self, if_true, oS_some, Option.isSome, Option.isNone]
theorem kc_s_AddEdge {R : Type} {L n : Nat} {hq : H} {k : A → H → Option R} (hn : 6 ≤ n) (al st a b c : Int) (l : List Edge) (hl : l.length ≤ 4294967290) (hL : 2 ^ 60 ≤ L) : kCall env (evCall env L n) hq 16 [.agg [.d (.int .i64 al), .d (.int .i64 st), .d (.ivs l.length (edgesD l))], .agg [.d (.int .i64 a), .d (.int .i64 b), .d (.int .i64 c)]] k = k (.tup [.agg [.d (.int .i64 (oS (addS ⟨al, st, l⟩ ⟨a, b, c⟩)).al), .d (.int .i64 (oS (addS ⟨al, st, l⟩ ⟨a, b, c⟩)).st), .d (.ivs (oS (addS ⟨al, st, l⟩ ⟨a, b, c⟩)).es.length (edgesD (oS (addS ⟨al, st, l⟩ ⟨a, b, c⟩)).es))], .d (.bool (addS ⟨al, st, l⟩ ⟨a, b, c⟩).isSome)]) hq :=
  kCall_still rfl (ev_s_AddEdge hn al st a b c l hl hL) rfl (.inr rfl)

end Ev
end Go.Proofs.YtojaohcpgelhmaaDoor
