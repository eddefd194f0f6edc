/-
  The law: the program's SwapAutomaton and the reference's answer the same, and share no memory.
-/
import Derived.Test.YtidobgmklcbcpaaMemC
import Derived.Test.YtidobgmklcbcpaaSwapM
import Derived.Test.YtidobgmklcbcpaaNil
set_option linter.unusedSimpArgs false
set_option linter.unusedVariables false
set_option maxRecDepth 8000
set_option pp.maxSteps 6000
set_option maxHeartbeats 4000000
namespace Go.Proofs.Ytidobgmklcbcpaa
namespace Ev

theorem agg_Automaton : isAggT env.P 59 = some true := by kernel_rfl
theorem cells_Automaton : env.P.cellsOf 59 = 3 := by kernel_rfl
theorem agg_lAutomaton : isAggT env.P 57 = some true := by kernel_rfl
theorem cells_lAutomaton : env.P.cellsOf 57 = 3 := by kernel_rfl

theorem total_mul : ∀ (rs : List (List Int)) (b : Nat), (∀ r ∈ rs, r.length ≤ b) → total rs ≤ rs.length * b
  | [], b, _ => by simp [total]
  | r :: rs, b, h => by
    have h1 := h r (by simp)
    have h2 := total_mul rs b fun q hq => h q (by simp [hq])
    simp only [total, List.length_cons, Nat.succ_mul]
    omega

theorem szRows_total : ∀ (rs : List (List Int)) (l : Int), 0 ≤ szRows rs l → (total rs : Int) ≤ l
  | [], l, h => by simpa [szRows, total] using h
  | r :: rs, l, h => by
    simp only [szRows] at h
    split at h
    · omega
    · have := szRows_total rs _ h
      simp only [total]
      omega

theorem szA_total {rs : List (List Int)} {ac : List Bool} (h : ¬ szA rs ac 1048576 < 0) : total rs ≤ 1048576 := by
  unfold szA at h
  split at h
  · omega
  · rename_i h1
    unfold szSS at h1
    split at h1
    · omega
    · have := szRows_total rs (1048576 - rs.length) (by omega)
      omega

theorem ids_autD {al : Int} {rs : List (List Int)} {ac : List Bool} : idsA (autD al rs ac) = [] := rfl

theorem footC_ro {E : Env} {f : FuncId} {h : H} {ord : List Nat} (hm : (E.hint f).mode = 1) : footC E f h h ord = some (h, { ids := ord, ro := true }) := by
  unfold footC
  rw [hm]
  simp

theorem footC_new {E : Env} {f : FuncId} {h t : H} (hm : (E.hint f).mode = 2) : footC E f h (h ++ t) [] = some (h ++ t, { ids := List.range' h.length t.length, ro := false }) := by
  unfold footC
  rw [hm]
  simp

theorem get_keep {h h2 : H} {i : Nat} {o : O} (hi : h[i]? = some o) : (h ++ h2)[i]? = some o := by
  rw [List.getElem?_append_left (lt_of_get hi)]; exact hi

theorem FnExactSwapAutomaton_ok {L n : Nat} (hn : 20 ≤ n) (al x y : Int) (rs : List (List Int)) (ac : List Bool) (hlen : rowsLen rs) (hla : ac.length ≤ 9223372036854775807) (hsz : ¬ szA rs ac 1048576 < 0) (hok : swapOK al rs ac x y = true) (hL : 2 ^ 60 ≤ L) : evCall env L n 8 [.agg [.d (.int .i64 al), .d (.ivs (List.length rs) (rowsD rs)), .d (.ivs (List.length ac) (bools ac))], .d (.int .i64 x), .d (.int .i64 y)] [] = some (.d (.bool true), []) := by
  obtain ⟨hr20, hc20, ha20⟩ := szA_small hsz
  have hs : rowsShort rs := ⟨by omega, fun r hr => by have := hc20 r hr; omega⟩
  have ha : ac.length ≤ 4294967296 := by omega
  have ht1 := szA_total hsz
  have hv1 : autOK al rs ac = true := by unfold swapOK at hok; simp only [Bool.and_eq_true] at hok; exact hok.1.1
  have hal := autOK_len hv1
  obtain ⟨al2, hal2⟩ : ∃ al2, al2 = swapAlpha al x y := ⟨_, rfl⟩
  obtain ⟨rs2, hrs2⟩ : ∃ rs2, rs2 = rowsSw al rs x y (letters al2) 0 rs.length := ⟨_, rfl⟩
  have hl2 : rs2.length = rs.length := by rw [hrs2]; exact rowsSw_len
  have hw2 : ∀ r ∈ rs2, r.length ≤ 6 := by
    rw [hrs2]; intro r hr; unfold rowsSw at hr; rw [List.mem_map] at hr; obtain ⟨q, _, rfl⟩ := hr; rw [rowSw_len]; exact letters_len al2
  have hs2 : rowsShort rs2 := ⟨by omega, fun r hr => by have := hw2 r hr; omega⟩
  have ht2 : total rs2 ≤ 12 * 6 := Nat.le_trans (total_mul rs2 6 hw2) (Nat.mul_le_mul_right _ (by omega))
  have hG := ev_i_SwapAutomaton_ok (L := L) (n := n - 1) (by omega) al x y rs ac hs ha hok hL
  rw [← hal2, ← hrs2] at hG
  have hG1 : Has (O.box [.d (.int .i64 al), .d (.ivs (List.length rs) (rowsD rs)), .d (.ivs (List.length ac) (bools ac))] :: autO 1 rs ac) 1 rs ac := has_new (h := [O.box [.d (.int .i64 al), .d (.ivs (List.length rs) (rowsD rs)), .d (.ivs (List.length ac) (bools ac))]])
  have wG1 : wgt (O.box [.d (.int .i64 al), .d (.ivs (List.length rs) (rowsD rs)), .d (.ivs (List.length ac) (bools ac))] :: autO 1 rs ac) ≤ 1048576 := by
    have := wgt_app [O.box [.d (.int .i64 al), .d (.ivs (List.length rs) (rowsD rs)), .d (.ivs (List.length ac) (bools ac))]] (autO 1 rs ac)
    rw [wgt_aut] at this
    have h2 : wgt [O.box [.d (.int .i64 al), .d (.ivs (List.length rs) (rowsD rs)), .d (.ivs (List.length ac) (bools ac))]] = 0 := by simp [wgt, idsL, idsA]
    have h3 : (O.box [.d (.int .i64 al), .d (.ivs (List.length rs) (rowsD rs)), .d (.ivs (List.length ac) (bools ac))] :: autO 1 rs ac) = [O.box [.d (.int .i64 al), .d (.ivs (List.length rs) (rowsD rs)), .d (.ivs (List.length ac) (bools ac))]] ++ autO 1 rs ac := rfl
    rw [h3]; omega
  have kc_1 : ∀ {R : Type} {k : A → H → Option R}, kCall env (evCall env L (n - 1)) [O.box [.d (.int .i64 al), .d (.ivs (List.length rs) (rowsD rs)), .d (.ivs (List.length ac) (bools ac))]] 34 [.agg [.d (.int .i64 al), .d (.ivs (List.length rs) (rowsD rs)), .d (.ivs (List.length ac) (bools ac))]] k = k (.agg [.d (.int .i64 al), .sl 1 0 0 rs.length, .sl (1 + 1) 0 0 ac.length]) (O.box [.d (.int .i64 al), .d (.ivs (List.length rs) (rowsD rs)), .d (.ivs (List.length ac) (bools ac))] :: autO 1 rs ac) := fun {R k} => call_to (h := [O.box [.d (.int .i64 al), .d (.ivs (List.length rs) (rowsD rs)), .d (.ivs (List.length ac) (bools ac))]]) (by omega) hs ha hL
  obtain ⟨H1, c2, l1, w1, s1⟩ := kCall_frzW (call := evCall env L (n - 1)) mode_s_SwapAutomaton (rd3 (rdA_aut (al := al) hG1) (rdA_d (x := .int .i64 x)) (rdA_d (x := .int .i64 y))) (by simp [idsL, ids_autA, ids_autD, idsA]; omega) (ev_s_SwapAutomaton (by omega) al x y rs ac hs ha hL) (by simp [idsA, idsL])
  simp only [hok, swapAl, swapRs, swapAc, if_true, ← hal2, ← hrs2] at c2
  have kc_2 : ∀ {R : Type} {k : A → H → Option R}, kCall env (evCall env L (n - 1)) (O.box [.d (.int .i64 al), .d (.ivs (List.length rs) (rowsD rs)), .d (.ivs (List.length ac) (bools ac))] :: autO 1 rs ac) 33 [.agg [.d (.int .i64 al), .sl 1 0 0 rs.length, .sl (1 + 1) 0 0 ac.length], .d (.int .i64 x), .d (.int .i64 y)] k = k (.tup [.agg [.d (.int .i64 al2), .d (.ivs (List.length rs2) (rowsD rs2)), .d (.ivs (List.length ac) (bools ac))], .d (.bool true)]) H1 := fun {R k} => c2 R k
  have b1_0 : H1[0]? = some (.box [.d (.int .i64 al), .d (.ivs (List.length rs) (rowsD rs)), .d (.ivs (List.length ac) (bools ac))]) := by
    have r1 := reach_aut hG1 (by omega)
    have hid1 : idsL [autA 1 al rs.length ac.length, A.d (.int .i64 x), A.d (.int .i64 y)] = [1, 1 + 1] := by simp [idsL, ids_autA, idsA]
    rw [hid1, r1] at s1
    rw [s1 0 (by rw [List.mem_range'_1]; omega)]; rfl
  clear s1 c2 hG1
  have wE1 : wgt (H1 ++ [O.arr [] 0 0, O.arr [] 0 0, O.box [.d (.int .i64 al2), .d (.ivs (List.length rs2) (rowsD rs2)), .d (.ivs (List.length ac) (bools ac))]]) ≤ 1048576 := by rw [wgt3 rfl rfl]; simp [idsL, idsA]; omega
  have e1_0 : (H1 ++ [O.arr [] 0 0, O.arr [] 0 0, O.box [.d (.int .i64 al2), .d (.ivs (List.length rs2) (rowsD rs2)), .d (.ivs (List.length ac) (bools ac))]])[0]? = some (.box [.d (.int .i64 al), .d (.ivs (List.length rs) (rowsD rs)), .d (.ivs (List.length ac) (bools ac))]) := get_keep b1_0
  have e1_w : (H1 ++ [O.arr [] 0 0, O.arr [] 0 0, O.box [.d (.int .i64 al2), .d (.ivs (List.length rs2) (rowsD rs2)), .d (.ivs (List.length ac) (bools ac))]])[H1.length + 1 + 1]? = some (.box [.d (.int .i64 al2), .d (.ivs (List.length rs2) (rowsD rs2)), .d (.ivs (List.length ac) (bools ac))]) := end3_get
  obtain ⟨v1, hv1⟩ : ∃ v, v = List.length (H1 ++ [O.arr [] 0 0, O.arr [] 0 0, O.box [.d (.int .i64 al2), .d (.ivs (List.length rs2) (rowsD rs2)), .d (.ivs (List.length ac) (bools ac))]]) := ⟨_, rfl⟩
  obtain ⟨H2, hH2⟩ : ∃ H, H = (H1 ++ [O.arr [] 0 0, O.arr [] 0 0, O.box [.d (.int .i64 al2), .d (.ivs (List.length rs2) (rowsD rs2)), .d (.ivs (List.length ac) (bools ac))]]) ++ autO v1 rs ac := ⟨_, rfl⟩
  have kc_3 : ∀ {R : Type} {k : A → H → Option R}, kCall env (evCall env L (n - 1)) (H1 ++ [O.arr [] 0 0, O.arr [] 0 0, O.box [.d (.int .i64 al2), .d (.ivs (List.length rs2) (rowsD rs2)), .d (.ivs (List.length ac) (bools ac))]]) 34 [.agg [.d (.int .i64 al), .d (.ivs (List.length rs) (rowsD rs)), .d (.ivs (List.length ac) (bools ac))]] k = k (.agg [.d (.int .i64 al), .sl v1 0 0 rs.length, .sl (v1 + 1) 0 0 ac.length]) H2 := by intro R k; rw [hH2, hv1]; exact call_to (by omega) hs ha hL
  have gv1 : Has H2 v1 rs ac := by rw [hH2, hv1]; exact has_new
  have lH2 : H2.length = (H1 ++ [O.arr [] 0 0, O.arr [] 0 0, O.box [.d (.int .i64 al2), .d (.ivs (List.length rs2) (rowsD rs2)), .d (.ivs (List.length ac) (bools ac))]]).length + rs.length + 2 := by rw [hH2, List.length_append, autO_len]; omega
  have wH2 : wgt H2 ≤ wgt (H1 ++ [O.arr [] 0 0, O.arr [] 0 0, O.box [.d (.int .i64 al2), .d (.ivs (List.length rs2) (rowsD rs2)), .d (.ivs (List.length ac) (bools ac))]]) + 1048576 := by rw [hH2, wgt_app, wgt_aut]; omega
  have b2_0 : H2[0]? = some (.box [.d (.int .i64 al), .d (.ivs (List.length rs) (rowsD rs)), .d (.ivs (List.length ac) (bools ac))]) := by rw [hH2]; exact get_keep e1_0
  have b2_w : H2[H1.length + 1 + 1]? = some (.box [.d (.int .i64 al2), .d (.ivs (List.length rs2) (rowsD rs2)), .d (.ivs (List.length ac) (bools ac))]) := by rw [hH2]; exact get_keep e1_w
  have wE2 : wgt (H2 ++ [O.arr [] 0 0, O.arr [] 0 0, O.box [.d (.int .i64 al), .sl v1 0 0 rs.length, .sl (v1 + 1) 0 0 ac.length]]) ≤ wgt H2 + 2 := by rw [wgt3 rfl rfl]; simp [idsL, idsA]
  have gE2 : Has (H2 ++ [O.arr [] 0 0, O.arr [] 0 0, O.box [.d (.int .i64 al), .sl v1 0 0 rs.length, .sl (v1 + 1) 0 0 ac.length]]) v1 rs ac := has_app gv1
  obtain ⟨vg, hvg⟩ : ∃ v, v = List.length (H2 ++ [O.arr [] 0 0, O.arr [] 0 0, O.box [.d (.int .i64 al), .sl v1 0 0 rs.length, .sl (v1 + 1) 0 0 ac.length]]) := ⟨_, rfl⟩
  obtain ⟨H3, hH3⟩ : ∃ H, H = (H2 ++ [O.arr [] 0 0, O.arr [] 0 0, O.box [.d (.int .i64 al), .sl v1 0 0 rs.length, .sl (v1 + 1) 0 0 ac.length]]) ++ autO vg rs2 ac := ⟨_, rfl⟩
  have kc_4 : ∀ {R : Type} {k : A → H → Option R}, kCall env (evCall env L (n - 1)) (H2 ++ [O.arr [] 0 0, O.arr [] 0 0, O.box [.d (.int .i64 al), .sl v1 0 0 rs.length, .sl (v1 + 1) 0 0 ac.length]]) 35 [.agg [.d (.int .i64 al), .sl v1 0 0 rs.length, .sl (v1 + 1) 0 0 ac.length], .d (.int .i64 x), .d (.int .i64 y)] k = k (.tup [.agg [.d (.int .i64 al2), .sl vg 0 0 rs2.length, .sl (vg + 1) 0 0 ac.length], .d (.bool true)]) H3 := by intro R k; rw [hH3, hvg]; exact kCall_layA mode_i_SwapAutomaton (rd3 (rdA_aut gE2) rdA_d rdA_d) (by simp [idsL, ids_autA, ids_autD, idsA]; omega) hG
  have gvg : Has H3 vg rs2 ac := by rw [hH3, hvg]; exact has_new
  have lH3 : H3.length = (H2 ++ [O.arr [] 0 0, O.arr [] 0 0, O.box [.d (.int .i64 al), .sl v1 0 0 rs.length, .sl (v1 + 1) 0 0 ac.length]]).length + rs2.length + 2 := by rw [hH3, List.length_append, autO_len]; omega
  have wH3 : wgt H3 ≤ wgt (H2 ++ [O.arr [] 0 0, O.arr [] 0 0, O.box [.d (.int .i64 al), .sl v1 0 0 rs.length, .sl (v1 + 1) 0 0 ac.length]]) + 12 := by rw [hH3, wgt_app, wgt_aut]; omega
  have b3_0 : H3[0]? = some (.box [.d (.int .i64 al), .d (.ivs (List.length rs) (rowsD rs)), .d (.ivs (List.length ac) (bools ac))]) := by rw [hH3]; exact get_keep (get_keep b2_0)
  have b3_w : H3[H1.length + 1 + 1]? = some (.box [.d (.int .i64 al2), .d (.ivs (List.length rs2) (rowsD rs2)), .d (.ivs (List.length ac) (bools ac))]) := by rw [hH3]; exact get_keep (get_keep b2_w)
  have b3_x : H3[H2.length + 1 + 1]? = some (.box [.d (.int .i64 al), .sl v1 0 0 rs.length, .sl (v1 + 1) 0 0 ac.length]) := by rw [hH3]; exact get_keep end3_get
  have wE3 : wgt (H3 ++ [O.arr [] 0 0, O.arr [] 0 0, O.box [.d (.int .i64 al2), .sl vg 0 0 rs2.length, .sl (vg + 1) 0 0 ac.length]]) ≤ wgt H3 + 2 := by rw [wgt3 rfl rfl]; simp [idsL, idsA]
  have e3_0 : (H3 ++ [O.arr [] 0 0, O.arr [] 0 0, O.box [.d (.int .i64 al2), .sl vg 0 0 rs2.length, .sl (vg + 1) 0 0 ac.length]])[0]? = some (.box [.d (.int .i64 al), .d (.ivs (List.length rs) (rowsD rs)), .d (.ivs (List.length ac) (bools ac))]) := get_keep b3_0
  have e3_w : (H3 ++ [O.arr [] 0 0, O.arr [] 0 0, O.box [.d (.int .i64 al2), .sl vg 0 0 rs2.length, .sl (vg + 1) 0 0 ac.length]])[H1.length + 1 + 1]? = some (.box [.d (.int .i64 al2), .d (.ivs (List.length rs2) (rowsD rs2)), .d (.ivs (List.length ac) (bools ac))]) := get_keep b3_w
  have e3_x : (H3 ++ [O.arr [] 0 0, O.arr [] 0 0, O.box [.d (.int .i64 al2), .sl vg 0 0 rs2.length, .sl (vg + 1) 0 0 ac.length]])[H2.length + 1 + 1]? = some (.box [.d (.int .i64 al), .sl v1 0 0 rs.length, .sl (v1 + 1) 0 0 ac.length]) := get_keep b3_x
  have gE3 : Has (H3 ++ [O.arr [] 0 0, O.arr [] 0 0, O.box [.d (.int .i64 al2), .sl vg 0 0 rs2.length, .sl (vg + 1) 0 0 ac.length]]) vg rs2 ac := has_app gvg
  have gE3x : Has (H3 ++ [O.arr [] 0 0, O.arr [] 0 0, O.box [.d (.int .i64 al2), .sl vg 0 0 rs2.length, .sl (vg + 1) 0 0 ac.length]]) v1 rs ac := has_app (by rw [hH3]; exact has_app gE2)
  have kc_5 : ∀ {R : Type} {k : A → H → Option R}, kCall env (evCall env L (n - 1)) (H3 ++ [O.arr [] 0 0, O.arr [] 0 0, O.box [.d (.int .i64 al2), .sl vg 0 0 rs2.length, .sl (vg + 1) 0 0 ac.length]]) 36 [.agg [.d (.int .i64 al2), .sl vg 0 0 rs2.length, .sl (vg + 1) 0 0 ac.length], .agg [.d (.int .i64 al2), .d (.ivs (List.length rs2) (rowsD rs2)), .d (.ivs (List.length ac) (bools ac))]] k = k (.d (.bool true)) (H3 ++ [O.arr [] 0 0, O.arr [] 0 0, O.box [.d (.int .i64 al2), .sl vg 0 0 rs2.length, .sl (vg + 1) 0 0 ac.length]]) := fun {R k} => eq_mem (by omega) hs2 ha (rd2 (rdA_aut gE3) rdA_autD) (by simp [idsL, ids_autA, ids_autD, idsA]; omega) hL
  obtain ⟨f0, hf0⟩ : ∃ f : Foot, f = { ids := reach fuelR (H3 ++ [O.arr [] 0 0, O.arr [] 0 0, O.box [.d (.int .i64 al2), .sl vg 0 0 rs2.length, .sl (vg + 1) 0 0 ac.length]]) [H2.length + 1 + 1] [], ro := true } := ⟨_, rfl⟩
  obtain ⟨f1, hf1⟩ : ∃ f : Foot, f = { ids := reach fuelR (H3 ++ [O.arr [] 0 0, O.arr [] 0 0, O.box [.d (.int .i64 al2), .sl vg 0 0 rs2.length, .sl (vg + 1) 0 0 ac.length]]) [0] [], ro := true } := ⟨_, rfl⟩
  have st_m0 : ∀ {call : CallF} {thaw : List Nat} {dst : Option Tmp} {x : Operand}, memD env call thaw dst (.load 59 x) (H3 ++ [O.arr [] 0 0, O.arr [] 0 0, O.box [.d (.int .i64 al2), .sl vg 0 0 rs2.length, .sl (vg + 1) 0 0 ac.length]]) [.ptr (H2.length + 1 + 1) 0 0] = some (.agg [.d (.int .i64 al), .sl v1 0 0 rs.length, .sl (v1 + 1) 0 0 ac.length], (H3 ++ [O.arr [] 0 0, O.arr [] 0 0, O.box [.d (.int .i64 al2), .sl vg 0 0 rs2.length, .sl (vg + 1) 0 0 ac.length]]), f0) := by intro call thaw dst x; rw [hf0]; exact memD_load e3_x agg_Automaton cells_Automaton (okay_aut e3_x gE3x rfl) (by omega)
  have st_m1 : ∀ {call : CallF} {thaw : List Nat} {dst : Option Tmp} {x : Operand}, memD env call thaw dst (.load 57 x) (H3 ++ [O.arr [] 0 0, O.arr [] 0 0, O.box [.d (.int .i64 al2), .sl vg 0 0 rs2.length, .sl (vg + 1) 0 0 ac.length]]) [.ptr 0 0 0] = some (.agg [.d (.int .i64 al), .d (.ivs (List.length rs) (rowsD rs)), .d (.ivs (List.length ac) (bools ac))], (H3 ++ [O.arr [] 0 0, O.arr [] 0 0, O.box [.d (.int .i64 al2), .sl vg 0 0 rs2.length, .sl (vg + 1) 0 0 ac.length]]), f1) := by intro call thaw dst x; rw [hf1]; exact memD_load e3_0 agg_lAutomaton cells_lAutomaton (okay_still e3_0 rfl) (by omega)
  obtain ⟨vt, hvt⟩ : ∃ v, v = List.length (H3 ++ [O.arr [] 0 0, O.arr [] 0 0, O.box [.d (.int .i64 al2), .sl vg 0 0 rs2.length, .sl (vg + 1) 0 0 ac.length]]) := ⟨_, rfl⟩
  obtain ⟨H4, hH4⟩ : ∃ H, H = (H3 ++ [O.arr [] 0 0, O.arr [] 0 0, O.box [.d (.int .i64 al2), .sl vg 0 0 rs2.length, .sl (vg + 1) 0 0 ac.length]]) ++ autO vt rs ac := ⟨_, rfl⟩
  have kc_6 : ∀ {R : Type} {k : A → H → Option R}, kCall env (evCall env L (n - 1)) (H3 ++ [O.arr [] 0 0, O.arr [] 0 0, O.box [.d (.int .i64 al2), .sl vg 0 0 rs2.length, .sl (vg + 1) 0 0 ac.length]]) 34 [.agg [.d (.int .i64 al), .d (.ivs (List.length rs) (rowsD rs)), .d (.ivs (List.length ac) (bools ac))]] k = k (.agg [.d (.int .i64 al), .sl vt 0 0 rs.length, .sl (vt + 1) 0 0 ac.length]) H4 := by intro R k; rw [hH4, hvt]; exact call_to (by omega) hs ha hL
  have gvt : Has H4 vt rs ac := by rw [hH4, hvt]; exact has_new
  have lH4 : H4.length = (H3 ++ [O.arr [] 0 0, O.arr [] 0 0, O.box [.d (.int .i64 al2), .sl vg 0 0 rs2.length, .sl (vg + 1) 0 0 ac.length]]).length + rs.length + 2 := by rw [hH4, List.length_append, autO_len]; omega
  have wH4 : wgt H4 ≤ wgt (H3 ++ [O.arr [] 0 0, O.arr [] 0 0, O.box [.d (.int .i64 al2), .sl vg 0 0 rs2.length, .sl (vg + 1) 0 0 ac.length]]) + 1048576 := by rw [hH4, wgt_app, wgt_aut]; omega
  obtain ⟨fA, hfA⟩ : ∃ f : Foot, f = { ids := List.range' (List.length (H3 ++ [O.arr [] 0 0, O.arr [] 0 0, O.box [.d (.int .i64 al2), .sl vg 0 0 rs2.length, .sl (vg + 1) 0 0 ac.length]])) (autO vt rs ac).length, ro := false } := ⟨_, rfl⟩
  have st_f6 : footC env 34 (H3 ++ [O.arr [] 0 0, O.arr [] 0 0, O.box [.d (.int .i64 al2), .sl vg 0 0 rs2.length, .sl (vg + 1) 0 0 ac.length]]) H4 [] = some (H4, fA) := by rw [hfA, hH4]; exact footC_new mode_toAutomaton
  have st_f7 : ∀ {ord : List Nat}, footC env 36 H4 H4 ord = some (H4, { ids := ord, ro := true }) := fun {ord} => footC_ro mode_eqAutomaton
  obtain ⟨ord7, hord7⟩ : ∃ l, l = reach fuelR H4 (idsL [.agg [.d (.int .i64 al), .sl v1 0 0 rs.length, .sl (v1 + 1) 0 0 ac.length], .agg [.d (.int .i64 al), .sl vt 0 0 rs.length, .sl (vt + 1) 0 0 ac.length]]) [] := ⟨_, rfl⟩
  have st_r7 : reach fuelR H4 (idsL [.agg [.d (.int .i64 al), .sl v1 0 0 rs.length, .sl (v1 + 1) 0 0 ac.length], .agg [.d (.int .i64 al), .sl vt 0 0 rs.length, .sl (vt + 1) 0 0 ac.length]]) [] = ord7 := hord7.symm
  have gH4x : Has H4 v1 rs ac := by rw [hH4]; exact has_app gE3x
  have gH4 : Has H4 vg rs2 ac := by rw [hH4]; exact has_app gE3
  have kc_7 : ∀ {R : Type} {k : A → H → Option R}, kCall env (evCall env L (n - 1)) H4 36 [.agg [.d (.int .i64 al), .sl v1 0 0 rs.length, .sl (v1 + 1) 0 0 ac.length], .agg [.d (.int .i64 al), .sl vt 0 0 rs.length, .sl (vt + 1) 0 0 ac.length]] k = k (.d (.bool true)) H4 := fun {R k} => eq_mem (by omega) hs ha (rd2 (rdA_aut gH4x) (rdA_aut gvt)) (by simp [idsL, ids_autA, ids_autD, idsA]; omega) hL
  have hclash : ∀ (ops : List Oper) (p q : Foot), maskOK 5 [(0, 1), (0, 2), (1, 2)] ops = true → clashFree ops ([] ++ [f0] ++ [f1] ++ [fA] ++ [p] ++ [q]) = true := by
    intro ops p q hm
    refine clash_by 5 [(0, 1), (0, 2), (1, 2)] rfl hm ?_
    intro z hz
    simp only [List.mem_cons, List.not_mem_nil, or_false] at hz
    rcases hz with rfl | rfl | rfl
    · show clash f0 f1 = false; exact clash_ro (by rw [hf0]) (by rw [hf1])
    · show clash f0 fA = false; rw [hf0, hfA]; exact clash_new
    · show clash f1 fA = false; rw [hf1, hfA]; exact clash_new
  have b4_0 : H4[0]? = some (.box [.d (.int .i64 al), .d (.ivs (List.length rs) (rowsD rs)), .d (.ivs (List.length ac) (bools ac))]) := by rw [hH4]; exact get_keep e3_0
  have b4_w : H4[H1.length + 1 + 1]? = some (.box [.d (.int .i64 al2), .d (.ivs (List.length rs2) (rowsD rs2)), .d (.ivs (List.length ac) (bools ac))]) := by rw [hH4]; exact get_keep e3_w
  have b4_x : H4[H2.length + 1 + 1]? = some (.box [.d (.int .i64 al), .sl v1 0 0 rs.length, .sl (v1 + 1) 0 0 ac.length]) := by rw [hH4]; exact get_keep e3_x
  have b4_g : H4[H3.length + 1 + 1]? = some (.box [.d (.int .i64 al2), .sl vg 0 0 rs2.length, .sl (vg + 1) 0 0 ac.length]) := by rw [hH4]; exact get_keep end3_get
  simp only [end3_len] at lH2 lH3 lH4 hv1 hvg hvt
  obtain ⟨H5, c8, l5, gH5x, s5, w5⟩ := mark_aut (L := L) (n := n - 1) (by omega) (al := al) gH4x (c := 1) hs ha (by omega) (by omega) hL
  have kc_8 : ∀ {R : Type} {k : A → H → Option R}, kCall env (evCall env L (n - 1)) H4 37 [.agg [.d (.int .i64 al), .sl v1 0 0 rs.length, .sl (v1 + 1) 0 0 ac.length], .d (.int .i64 1)] k = k (.d (.int .i64 (1 + total rs + ac.length))) H5 := fun {R k} => c8 R k
  have gH5 : Has H5 vg rs2 ac := has_same gH4 fun i h1 h2 => s5 i (.inr (by omega))
  have b5_0 : H5[0]? = some (.box [.d (.int .i64 al), .d (.ivs (List.length rs) (rowsD rs)), .d (.ivs (List.length ac) (bools ac))]) := by rw [s5 0 (.inl (by omega))]; exact b4_0
  have b5_w : H5[H1.length + 1 + 1]? = some (.box [.d (.int .i64 al2), .d (.ivs (List.length rs2) (rowsD rs2)), .d (.ivs (List.length ac) (bools ac))]) := by rw [s5 _ (.inl (by omega))]; exact b4_w
  have b5_g : H5[H3.length + 1 + 1]? = some (.box [.d (.int .i64 al2), .sl vg 0 0 rs2.length, .sl (vg + 1) 0 0 ac.length]) := by rw [s5 _ (.inr (by omega))]; exact b4_g
  have kc_9 : ∀ {R : Type} {k : A → H → Option R}, kCall env (evCall env L (n - 1)) H5 36 [.agg [.d (.int .i64 al2), .sl vg 0 0 rs2.length, .sl (vg + 1) 0 0 ac.length], .agg [.d (.int .i64 al2), .d (.ivs (List.length rs2) (rowsD rs2)), .d (.ivs (List.length ac) (bools ac))]] k = k (.d (.bool true)) H5 := fun {R k} => eq_mem (by omega) hs2 ha (rd2 (rdA_aut gH5) rdA_autD) (by simp [idsL, ids_autA, ids_autD, idsA]; omega) hL
  obtain ⟨H6, c10, l6, gH6, s6, w6⟩ := mark_aut (L := L) (n := n - 1) (by omega) (al := al2) gH5 (c := 1) hs2 ha (by omega) (by omega) hL
  have kc_10 : ∀ {R : Type} {k : A → H → Option R}, kCall env (evCall env L (n - 1)) H5 37 [.agg [.d (.int .i64 al2), .sl vg 0 0 rs2.length, .sl (vg + 1) 0 0 ac.length], .d (.int .i64 1)] k = k (.d (.int .i64 (1 + total rs2 + ac.length))) H6 := fun {R k} => c10 R k
  have b6_0 : H6[0]? = some (.box [.d (.int .i64 al), .d (.ivs (List.length rs) (rowsD rs)), .d (.ivs (List.length ac) (bools ac))]) := by rw [s6 0 (.inl (by omega))]; exact b5_0
  have b6_w : H6[H1.length + 1 + 1]? = some (.box [.d (.int .i64 al2), .d (.ivs (List.length rs2) (rowsD rs2)), .d (.ivs (List.length ac) (bools ac))]) := by rw [s6 _ (.inl (by omega))]; exact b5_w
  have b6_g : H6[H3.length + 1 + 1]? = some (.box [.d (.int .i64 al2), .sl vg 0 0 rs2.length, .sl (vg + 1) 0 0 ac.length]) := by rw [s6 _ (.inr (by omega))]; exact b5_g
  have rml : (marksR rs2 1).length = rs2.length := marksR_len _ _
  have bml : (marksB ac.length (1 + total rs2)).length = ac.length := marksB_len _ _
  have kc_11 : ∀ {R : Type} {k : A → H → Option R}, kCall env (evCall env L (n - 1)) H6 38 [.agg [.d (.int .i64 al2), .sl vg 0 0 rs2.length, .sl (vg + 1) 0 0 ac.length], .d (.int .i64 1)] k = k (.d (.int .i64 (1 + total rs2 + ac.length))) H6 := by
    intro R k
    have hr := rdA_aut (al := al2) gH6
    rw [rml, bml] at hr
    exact held_mem (by omega) hs2 ha (by omega) (by omega) (rd2 hr rdA_d) (by simp [idsL, ids_autA, ids_autD, idsA]; omega) hL
  obtain ⟨vu, hvu⟩ : ∃ v, v = List.length H6 := ⟨_, rfl⟩
  obtain ⟨H7, hH7⟩ : ∃ H, H = H6 ++ autO vu rs ac := ⟨_, rfl⟩
  have kc_12 : ∀ {R : Type} {k : A → H → Option R}, kCall env (evCall env L (n - 1)) H6 34 [.agg [.d (.int .i64 al), .d (.ivs (List.length rs) (rowsD rs)), .d (.ivs (List.length ac) (bools ac))]] k = k (.agg [.d (.int .i64 al), .sl vu 0 0 rs.length, .sl (vu + 1) 0 0 ac.length]) H7 := by intro R k; rw [hH7, hvu]; exact call_to (by omega) hs ha hL
  have gvu : Has H7 vu rs ac := by rw [hH7, hvu]; exact has_new
  have lH7 : H7.length = H6.length + rs.length + 2 := by rw [hH7, List.length_append, autO_len]; omega
  have wH7 : wgt H7 ≤ wgt H6 + 1048576 := by rw [hH7, wgt_app, wgt_aut]; omega
  obtain ⟨vh, hvh⟩ : ∃ v, v = List.length H7 := ⟨_, rfl⟩
  obtain ⟨H8, hH8⟩ : ∃ H, H = H7 ++ autO vh rs2 ac := ⟨_, rfl⟩
  have kc_13 : ∀ {R : Type} {k : A → H → Option R}, kCall env (evCall env L (n - 1)) H7 35 [.agg [.d (.int .i64 al), .sl vu 0 0 rs.length, .sl (vu + 1) 0 0 ac.length], .d (.int .i64 x), .d (.int .i64 y)] k = k (.tup [.agg [.d (.int .i64 al2), .sl vh 0 0 rs2.length, .sl (vh + 1) 0 0 ac.length], .d (.bool true)]) H8 := by intro R k; rw [hH8, hvh]; exact kCall_layA mode_i_SwapAutomaton (rd3 (rdA_aut gvu) rdA_d rdA_d) (by simp [idsL, ids_autA, ids_autD, idsA]; omega) hG
  have gvh : Has H8 vh rs2 ac := by rw [hH8, hvh]; exact has_new
  have lH8 : H8.length = H7.length + rs2.length + 2 := by rw [hH8, List.length_append, autO_len]; omega
  have wH8 : wgt H8 ≤ wgt H7 + 12 := by rw [hH8, wgt_app, wgt_aut]; omega
  have wE8 : wgt (H8 ++ [O.arr [] 0 0, O.arr [] 0 0, O.box [.d (.int .i64 al2), .sl vh 0 0 rs2.length, .sl (vh + 1) 0 0 ac.length]]) ≤ wgt H8 + 2 := by rw [wgt3 rfl rfl]; simp [idsL, idsA]
  have e8_w : (H8 ++ [O.arr [] 0 0, O.arr [] 0 0, O.box [.d (.int .i64 al2), .sl vh 0 0 rs2.length, .sl (vh + 1) 0 0 ac.length]])[H1.length + 1 + 1]? = some (.box [.d (.int .i64 al2), .d (.ivs (List.length rs2) (rowsD rs2)), .d (.ivs (List.length ac) (bools ac))]) := get_keep (by rw [hH8, hH7]; exact get_keep (get_keep b6_w))
  have e8_g : (H8 ++ [O.arr [] 0 0, O.arr [] 0 0, O.box [.d (.int .i64 al2), .sl vh 0 0 rs2.length, .sl (vh + 1) 0 0 ac.length]])[H3.length + 1 + 1]? = some (.box [.d (.int .i64 al2), .sl vg 0 0 rs2.length, .sl (vg + 1) 0 0 ac.length]) := get_keep (by rw [hH8, hH7]; exact get_keep (get_keep b6_g))
  have gE8h : Has (H8 ++ [O.arr [] 0 0, O.arr [] 0 0, O.box [.d (.int .i64 al2), .sl vh 0 0 rs2.length, .sl (vh + 1) 0 0 ac.length]]) vh rs2 ac := has_app gvh
  have gE8 : Has (H8 ++ [O.arr [] 0 0, O.arr [] 0 0, O.box [.d (.int .i64 al2), .sl vh 0 0 rs2.length, .sl (vh + 1) 0 0 ac.length]]) vg (marksR rs2 1) (marksB ac.length (1 + total rs2)) := has_app (by rw [hH8, hH7]; exact has_app (has_app gH6))
  have kc_14 : ∀ {R : Type} {k : A → H → Option R}, kCall env (evCall env L (n - 1)) (H8 ++ [O.arr [] 0 0, O.arr [] 0 0, O.box [.d (.int .i64 al2), .sl vh 0 0 rs2.length, .sl (vh + 1) 0 0 ac.length]]) 36 [.agg [.d (.int .i64 al2), .sl vh 0 0 rs2.length, .sl (vh + 1) 0 0 ac.length], .agg [.d (.int .i64 al2), .d (.ivs (List.length rs2) (rowsD rs2)), .d (.ivs (List.length ac) (bools ac))]] k = k (.d (.bool true)) (H8 ++ [O.arr [] 0 0, O.arr [] 0 0, O.box [.d (.int .i64 al2), .sl vh 0 0 rs2.length, .sl (vh + 1) 0 0 ac.length]]) := fun {R k} => eq_mem (by omega) hs2 ha (rd2 (rdA_aut gE8h) rdA_autD) (by simp [idsL, ids_autA, ids_autD, idsA]; omega) hL
  have kc_15 : ∀ {R : Type} {k : A → H → Option R}, kCall env (evCall env L (n - 1)) (H8 ++ [O.arr [] 0 0, O.arr [] 0 0, O.box [.d (.int .i64 al2), .sl vh 0 0 rs2.length, .sl (vh + 1) 0 0 ac.length]]) 38 [.agg [.d (.int .i64 al2), .sl vg 0 0 rs2.length, .sl (vg + 1) 0 0 ac.length], .d (.int .i64 1)] k = k (.d (.int .i64 (1 + total rs2 + ac.length))) (H8 ++ [O.arr [] 0 0, O.arr [] 0 0, O.box [.d (.int .i64 al2), .sl vh 0 0 rs2.length, .sl (vh + 1) 0 0 ac.length]]) := by
    intro R k
    have hr := rdA_aut (al := al2) gE8
    rw [rml, bml] at hr
    exact held_mem (by omega) hs2 ha (by omega) (by omega) (rd2 hr rdA_d) (by simp [idsL, ids_autA, ids_autD, idsA]; omega) hL
  have p1 : ¬ (1 : Int) + total rs + ac.length < 0 := by omega
  have p2 : ¬ (1 : Int) + total rs2 + ac.length < 0 := by omega
  have hll : ac.length ≤ 9223372036854775807 := by omega
  clear hH2 hH3 hH4 hH7 hH8 hv1 hvg hvt hvu hvh lH2 lH3 lH4 lH7 lH8 gv1 gE2 gvg gE3 gE3x gvt gH4x gH4 gH5x gH5 gH6 gvu gvh gE8h gE8 s5 s6 c8 c10 w1 wG1 wE1 wE2 wE3 wE8 w5 w6 wH2 wH3 wH4 wH7 wH8 l1 l5 l6 hf0 hf1 hfA hord7
  obtain ⟨n, rfl⟩ : ∃ m, n = m + 1 := ⟨n - 1, by omega⟩
  simp only [Nat.add_sub_cancel] at kc_1 kc_2 kc_3 kc_4 kc_5 kc_6 kc_7 kc_8 kc_9 kc_10 kc_11 kc_12 kc_13 kc_14 kc_15
  have n1 : 1 ≤ n + 1 := by omega
  obtain ⟨n, rfl⟩ : ∃ m, n = m + 1 := ⟨n - 1, by omega⟩
  rw [fn_FnExactSwapAutomaton]
  simp only [S_FnExactSwapAutomaton, Try.f8, slimF, slimL, lpOf, codeOf, Option.getD_some, slim, loops, List.length_nil, Nat.add_zero, Nat.zero_add, slimO, slimG, List.map_cons, List.map_nil, List.getElem?_cons_zero, List.getElem?_cons_succ, Option.bind_some, Bool.false_eq_true, if_false, if_true, List.length_cons, List.replicate, List.cons_append, List.nil_append, List.append_nil, Nat.reduceAdd, Nat.reduceSub, List.getD_cons_zero, List.getD_cons_succ]
  simp -implicitDefEqProofs (maxSteps := 2000000) (disch := first | assumption | (refine Shut.mk ?_; exact hclash _ _ _ (by kernel_rfl)) | (refine Shut.mk ?_; kernel_rfl) | omega | (simp only [List.getElem?_cons_zero, List.getElem?_cons_succ]; done) | (simp only [List.length_append, List.length_cons, List.length_nil, List.length_set, List.length_replicate, List.length_map, List.length_take, List.length_drop] <;> omega)) only [↓WD, ↓kAsg, ↓kRet, ↓reduceIte, ↓clash_free, ↓WDD, ↓kOpD_callv, WK, thawAt, evPick, aPut, leavesBody, outA, outS, outSs, idsA, idsL, mapA, calmAs, calmA, calmSl, calmPt, genOf, calmH, calmFrom, calmO, mapAs, maskB, isUndef, tidy, Int.reduceLT, Int.reduceLE, Int.reduceEq, Int.reduceNe, Int.reduceNeg, Int.reduceAdd, Int.reduceSub, Int.reduceMul, Int.reduceToNat, Nat.reduceAdd, Nat.reduceSub, aBuiltin, aAppend, aAppend0, aAppendV, isVec, bears, emptyArr, sliceAs, keeps, aBuildVec, aMakeVec, sliceCells, aBuildSlice, aIndexAddr, aLoad, runOf, ofCells, TY, LB, aLen, withInt, fillA, frzL, listWith, frz, frz0, deep, cellsA, setRun, okCell, List.replicate, notJunk, Nat.reduceMul, Nat.reduceLeDiff, Nat.reducePow, Nat.reduceBEq, boxIds, aResults, aResult, outAs, tupA, evNilCheck, aMove, MD, opds, evOp, asOper, one, two, evCallee, evAssign, aNew, evSlice, evField, evExtract, evFunc, pureOp, isCall, readOp, List.range', back, putBack, fuelR, closed, aStore, thawCells, place, pack, mapO, Nat.reduceEqDiff, Nat.reduceLT, maxNeed, i64_id, frzA, frzAs, memD, lentA, footC, ↓kc_szAutomaton, ↓kl_szAutomaton, ↓kv_szAutomaton_1, ↓kv_szAutomaton_2, ↓kv_szAutomaton_3, LA, hsz, p1, p2, ↓kc_1, ↓kc_2, ↓kc_3, ↓kc_4, ↓kc_5, ↓kc_6, ↓kc_7, ↓kc_8, ↓kc_9, ↓kc_10, ↓kc_11, ↓kc_12, ↓kc_13, ↓kc_14, ↓kc_15, ↓st_m0, ↓st_m1, ↓st_f6, ↓st_f7, ↓st_r7, e1_0, e1_w, b2_0, b2_w, e3_0, e3_w, e3_x, b4_x, b5_w, b5_g, b6_0, b6_g, e8_w, e8_g, List.append_assoc, List.cons_append, List.nil_append, end3_get, end3_set, evBin_neqB, beq_self_eq_true]
theorem FnExactSwapAutomaton_no {L n : Nat} (hn : 20 ≤ n) (al x y : Int) (rs : List (List Int)) (ac : List Bool) (hlen : rowsLen rs) (hla : ac.length ≤ 9223372036854775807) (hsz : ¬ szA rs ac 1048576 < 0) (hok : swapOK al rs ac x y = false) (hL : 2 ^ 60 ≤ L) : evCall env L n 8 [.agg [.d (.int .i64 al), .d (.ivs (List.length rs) (rowsD rs)), .d (.ivs (List.length ac) (bools ac))], .d (.int .i64 x), .d (.int .i64 y)] [] = some (.d (.bool true), []) := by
  obtain ⟨hr20, hc20, ha20⟩ := szA_small hsz
  have hs : rowsShort rs := ⟨by omega, fun r hr => by have := hc20 r hr; omega⟩
  have ha : ac.length ≤ 4294967296 := by omega
  have ht1 := szA_total hsz
  have hG := ev_i_SwapAutomaton_no (L := L) (n := n - 1) (by omega) al x y rs ac hs ha hok hL
  have hG1 : Has (O.box [.d (.int .i64 al), .d (.ivs (List.length rs) (rowsD rs)), .d (.ivs (List.length ac) (bools ac))] :: autO 1 rs ac) 1 rs ac := has_new (h := [O.box [.d (.int .i64 al), .d (.ivs (List.length rs) (rowsD rs)), .d (.ivs (List.length ac) (bools ac))]])
  have wG1 : wgt (O.box [.d (.int .i64 al), .d (.ivs (List.length rs) (rowsD rs)), .d (.ivs (List.length ac) (bools ac))] :: autO 1 rs ac) ≤ 1048576 := by
    have := wgt_app [O.box [.d (.int .i64 al), .d (.ivs (List.length rs) (rowsD rs)), .d (.ivs (List.length ac) (bools ac))]] (autO 1 rs ac)
    rw [wgt_aut] at this
    have h2 : wgt [O.box [.d (.int .i64 al), .d (.ivs (List.length rs) (rowsD rs)), .d (.ivs (List.length ac) (bools ac))]] = 0 := by simp [wgt, idsL, idsA]
    have h3 : (O.box [.d (.int .i64 al), .d (.ivs (List.length rs) (rowsD rs)), .d (.ivs (List.length ac) (bools ac))] :: autO 1 rs ac) = [O.box [.d (.int .i64 al), .d (.ivs (List.length rs) (rowsD rs)), .d (.ivs (List.length ac) (bools ac))]] ++ autO 1 rs ac := rfl
    rw [h3]; omega
  have kc_1 : ∀ {R : Type} {k : A → H → Option R}, kCall env (evCall env L (n - 1)) [O.box [.d (.int .i64 al), .d (.ivs (List.length rs) (rowsD rs)), .d (.ivs (List.length ac) (bools ac))]] 34 [.agg [.d (.int .i64 al), .d (.ivs (List.length rs) (rowsD rs)), .d (.ivs (List.length ac) (bools ac))]] k = k (.agg [.d (.int .i64 al), .sl 1 0 0 rs.length, .sl (1 + 1) 0 0 ac.length]) (O.box [.d (.int .i64 al), .d (.ivs (List.length rs) (rowsD rs)), .d (.ivs (List.length ac) (bools ac))] :: autO 1 rs ac) := fun {R k} => call_to (h := [O.box [.d (.int .i64 al), .d (.ivs (List.length rs) (rowsD rs)), .d (.ivs (List.length ac) (bools ac))]]) (by omega) hs ha hL
  obtain ⟨H1, c2, l1, w1, s1⟩ := kCall_frzW (call := evCall env L (n - 1)) mode_s_SwapAutomaton (rd3 (rdA_aut (al := al) hG1) (rdA_d (x := .int .i64 x)) (rdA_d (x := .int .i64 y))) (by simp [idsL, ids_autA, ids_autD, idsA]; omega) (ev_s_SwapAutomaton (by omega) al x y rs ac hs ha hL) (by simp [idsA, idsL])
  simp only [hok, swapAl, swapRs, swapAc, if_false, Bool.false_eq_true] at c2
  have kc_2 : ∀ {R : Type} {k : A → H → Option R}, kCall env (evCall env L (n - 1)) (O.box [.d (.int .i64 al), .d (.ivs (List.length rs) (rowsD rs)), .d (.ivs (List.length ac) (bools ac))] :: autO 1 rs ac) 33 [.agg [.d (.int .i64 al), .sl 1 0 0 rs.length, .sl (1 + 1) 0 0 ac.length], .d (.int .i64 x), .d (.int .i64 y)] k = k (.tup [.agg [.d (.int .i64 0), .d (.ivs 0 []), .d (.ivs 0 [])], .d (.bool false)]) H1 := fun {R k} => c2 R k
  have b1_0 : H1[0]? = some (.box [.d (.int .i64 al), .d (.ivs (List.length rs) (rowsD rs)), .d (.ivs (List.length ac) (bools ac))]) := by
    have r1 := reach_aut hG1 (by omega)
    have hid1 : idsL [autA 1 al rs.length ac.length, A.d (.int .i64 x), A.d (.int .i64 y)] = [1, 1 + 1] := by simp [idsL, ids_autA, idsA]
    rw [hid1, r1] at s1
    rw [s1 0 (by rw [List.mem_range'_1]; omega)]; rfl
  clear s1 c2 hG1
  have wE1 : wgt (H1 ++ [O.arr [] 0 0, O.arr [] 0 0, O.box [.d (.int .i64 0), .d (.ivs 0 []), .d (.ivs 0 [])]]) ≤ 1048576 := by rw [wgt3 rfl rfl]; simp [idsL, idsA]; omega
  have e1_0 : (H1 ++ [O.arr [] 0 0, O.arr [] 0 0, O.box [.d (.int .i64 0), .d (.ivs 0 []), .d (.ivs 0 [])]])[0]? = some (.box [.d (.int .i64 al), .d (.ivs (List.length rs) (rowsD rs)), .d (.ivs (List.length ac) (bools ac))]) := get_keep b1_0
  have e1_w : (H1 ++ [O.arr [] 0 0, O.arr [] 0 0, O.box [.d (.int .i64 0), .d (.ivs 0 []), .d (.ivs 0 [])]])[H1.length + 1 + 1]? = some (.box [.d (.int .i64 0), .d (.ivs 0 []), .d (.ivs 0 [])]) := end3_get
  obtain ⟨v1, hv1⟩ : ∃ v, v = List.length (H1 ++ [O.arr [] 0 0, O.arr [] 0 0, O.box [.d (.int .i64 0), .d (.ivs 0 []), .d (.ivs 0 [])]]) := ⟨_, rfl⟩
  obtain ⟨H2, hH2⟩ : ∃ H, H = (H1 ++ [O.arr [] 0 0, O.arr [] 0 0, O.box [.d (.int .i64 0), .d (.ivs 0 []), .d (.ivs 0 [])]]) ++ autO v1 rs ac := ⟨_, rfl⟩
  have kc_3 : ∀ {R : Type} {k : A → H → Option R}, kCall env (evCall env L (n - 1)) (H1 ++ [O.arr [] 0 0, O.arr [] 0 0, O.box [.d (.int .i64 0), .d (.ivs 0 []), .d (.ivs 0 [])]]) 34 [.agg [.d (.int .i64 al), .d (.ivs (List.length rs) (rowsD rs)), .d (.ivs (List.length ac) (bools ac))]] k = k (.agg [.d (.int .i64 al), .sl v1 0 0 rs.length, .sl (v1 + 1) 0 0 ac.length]) H2 := by intro R k; rw [hH2, hv1]; exact call_to (by omega) hs ha hL
  have gv1 : Has H2 v1 rs ac := by rw [hH2, hv1]; exact has_new
  have lH2 : H2.length = (H1 ++ [O.arr [] 0 0, O.arr [] 0 0, O.box [.d (.int .i64 0), .d (.ivs 0 []), .d (.ivs 0 [])]]).length + rs.length + 2 := by rw [hH2, List.length_append, autO_len]; omega
  have wH2 : wgt H2 ≤ wgt (H1 ++ [O.arr [] 0 0, O.arr [] 0 0, O.box [.d (.int .i64 0), .d (.ivs 0 []), .d (.ivs 0 [])]]) + 1048576 := by rw [hH2, wgt_app, wgt_aut]; omega
  have b2_0 : H2[0]? = some (.box [.d (.int .i64 al), .d (.ivs (List.length rs) (rowsD rs)), .d (.ivs (List.length ac) (bools ac))]) := by rw [hH2]; exact get_keep e1_0
  have b2_w : H2[H1.length + 1 + 1]? = some (.box [.d (.int .i64 0), .d (.ivs 0 []), .d (.ivs 0 [])]) := by rw [hH2]; exact get_keep e1_w
  have wE2 : wgt (H2 ++ [O.arr [] 0 0, O.arr [] 0 0, O.box [.d (.int .i64 al), .sl v1 0 0 rs.length, .sl (v1 + 1) 0 0 ac.length]]) ≤ wgt H2 + 2 := by rw [wgt3 rfl rfl]; simp [idsL, idsA]
  have gE2 : Has (H2 ++ [O.arr [] 0 0, O.arr [] 0 0, O.box [.d (.int .i64 al), .sl v1 0 0 rs.length, .sl (v1 + 1) 0 0 ac.length]]) v1 rs ac := has_app gv1
  obtain ⟨vg, hvg⟩ : ∃ v, v = List.length (H2 ++ [O.arr [] 0 0, O.arr [] 0 0, O.box [.d (.int .i64 al), .sl v1 0 0 rs.length, .sl (v1 + 1) 0 0 ac.length]]) := ⟨_, rfl⟩
  obtain ⟨H3, hH3⟩ : ∃ H, H = (H2 ++ [O.arr [] 0 0, O.arr [] 0 0, O.box [.d (.int .i64 al), .sl v1 0 0 rs.length, .sl (v1 + 1) 0 0 ac.length]]) ++ [O.arr [] 0 0, O.arr [] 0 0] := ⟨_, rfl⟩
  have kc_4 : ∀ {R : Type} {k : A → H → Option R}, kCall env (evCall env L (n - 1)) (H2 ++ [O.arr [] 0 0, O.arr [] 0 0, O.box [.d (.int .i64 al), .sl v1 0 0 rs.length, .sl (v1 + 1) 0 0 ac.length]]) 35 [.agg [.d (.int .i64 al), .sl v1 0 0 rs.length, .sl (v1 + 1) 0 0 ac.length], .d (.int .i64 x), .d (.int .i64 y)] k = k (.tup [.agg [.d (.int .i64 0), .sl vg 0 0 0, .sl (vg + 1) 0 0 0], .d (.bool false)]) H3 := by intro R k; rw [hH3, hvg]; exact lay_nil mode_i_SwapAutomaton (rd3 (rdA_aut gE2) rdA_d rdA_d) (by simp [idsL, ids_autA, idsA]; omega) hG
  have gvg : HasNil H3 vg := by rw [hH3, hvg]; exact hasNil_new
  have lH3 : H3.length = (H2 ++ [O.arr [] 0 0, O.arr [] 0 0, O.box [.d (.int .i64 al), .sl v1 0 0 rs.length, .sl (v1 + 1) 0 0 ac.length]]).length + 2 := by rw [hH3, List.length_append]; rfl
  have wH3 : wgt H3 ≤ wgt (H2 ++ [O.arr [] 0 0, O.arr [] 0 0, O.box [.d (.int .i64 al), .sl v1 0 0 rs.length, .sl (v1 + 1) 0 0 ac.length]]) + 12 := by rw [hH3, wgt_app]; simp [wgt]
  have b3_0 : H3[0]? = some (.box [.d (.int .i64 al), .d (.ivs (List.length rs) (rowsD rs)), .d (.ivs (List.length ac) (bools ac))]) := by rw [hH3]; exact get_keep (get_keep b2_0)
  have b3_w : H3[H1.length + 1 + 1]? = some (.box [.d (.int .i64 0), .d (.ivs 0 []), .d (.ivs 0 [])]) := by rw [hH3]; exact get_keep (get_keep b2_w)
  have b3_x : H3[H2.length + 1 + 1]? = some (.box [.d (.int .i64 al), .sl v1 0 0 rs.length, .sl (v1 + 1) 0 0 ac.length]) := by rw [hH3]; exact get_keep end3_get
  have wE3 : wgt (H3 ++ [O.arr [] 0 0, O.arr [] 0 0, O.box [.d (.int .i64 0), .sl vg 0 0 0, .sl (vg + 1) 0 0 0]]) ≤ wgt H3 + 2 := by rw [wgt3 rfl rfl]; simp [idsL, idsA]
  have e3_0 : (H3 ++ [O.arr [] 0 0, O.arr [] 0 0, O.box [.d (.int .i64 0), .sl vg 0 0 0, .sl (vg + 1) 0 0 0]])[0]? = some (.box [.d (.int .i64 al), .d (.ivs (List.length rs) (rowsD rs)), .d (.ivs (List.length ac) (bools ac))]) := get_keep b3_0
  have e3_w : (H3 ++ [O.arr [] 0 0, O.arr [] 0 0, O.box [.d (.int .i64 0), .sl vg 0 0 0, .sl (vg + 1) 0 0 0]])[H1.length + 1 + 1]? = some (.box [.d (.int .i64 0), .d (.ivs 0 []), .d (.ivs 0 [])]) := get_keep b3_w
  have e3_x : (H3 ++ [O.arr [] 0 0, O.arr [] 0 0, O.box [.d (.int .i64 0), .sl vg 0 0 0, .sl (vg + 1) 0 0 0]])[H2.length + 1 + 1]? = some (.box [.d (.int .i64 al), .sl v1 0 0 rs.length, .sl (v1 + 1) 0 0 ac.length]) := get_keep b3_x
  have gE3 : HasNil (H3 ++ [O.arr [] 0 0, O.arr [] 0 0, O.box [.d (.int .i64 0), .sl vg 0 0 0, .sl (vg + 1) 0 0 0]]) vg := hasNil_app gvg
  have gE3x : Has (H3 ++ [O.arr [] 0 0, O.arr [] 0 0, O.box [.d (.int .i64 0), .sl vg 0 0 0, .sl (vg + 1) 0 0 0]]) v1 rs ac := has_app (by rw [hH3]; exact has_app gE2)
  have kc_5 : ∀ {R : Type} {k : A → H → Option R}, kCall env (evCall env L (n - 1)) (H3 ++ [O.arr [] 0 0, O.arr [] 0 0, O.box [.d (.int .i64 0), .sl vg 0 0 0, .sl (vg + 1) 0 0 0]]) 36 [.agg [.d (.int .i64 0), .sl vg 0 0 0, .sl (vg + 1) 0 0 0], .agg [.d (.int .i64 0), .d (.ivs 0 []), .d (.ivs 0 [])]] k = k (.d (.bool true)) (H3 ++ [O.arr [] 0 0, O.arr [] 0 0, O.box [.d (.int .i64 0), .sl vg 0 0 0, .sl (vg + 1) 0 0 0]]) := fun {R k} => eq_mem (al := 0) (rs := []) (ac := []) (by omega) ⟨by simp, by simp⟩ (by simp) (rd2 (rdA_nilA gE3) rdA_autD) (by simp [idsL, ids_autA, ids_autD, idsA]; omega) hL
  obtain ⟨f0, hf0⟩ : ∃ f : Foot, f = { ids := reach fuelR (H3 ++ [O.arr [] 0 0, O.arr [] 0 0, O.box [.d (.int .i64 0), .sl vg 0 0 0, .sl (vg + 1) 0 0 0]]) [H2.length + 1 + 1] [], ro := true } := ⟨_, rfl⟩
  obtain ⟨f1, hf1⟩ : ∃ f : Foot, f = { ids := reach fuelR (H3 ++ [O.arr [] 0 0, O.arr [] 0 0, O.box [.d (.int .i64 0), .sl vg 0 0 0, .sl (vg + 1) 0 0 0]]) [0] [], ro := true } := ⟨_, rfl⟩
  have st_m0 : ∀ {call : CallF} {thaw : List Nat} {dst : Option Tmp} {x : Operand}, memD env call thaw dst (.load 59 x) (H3 ++ [O.arr [] 0 0, O.arr [] 0 0, O.box [.d (.int .i64 0), .sl vg 0 0 0, .sl (vg + 1) 0 0 0]]) [.ptr (H2.length + 1 + 1) 0 0] = some (.agg [.d (.int .i64 al), .sl v1 0 0 rs.length, .sl (v1 + 1) 0 0 ac.length], (H3 ++ [O.arr [] 0 0, O.arr [] 0 0, O.box [.d (.int .i64 0), .sl vg 0 0 0, .sl (vg + 1) 0 0 0]]), f0) := by intro call thaw dst x; rw [hf0]; exact memD_load e3_x agg_Automaton cells_Automaton (okay_aut e3_x gE3x rfl) (by omega)
  have st_m1 : ∀ {call : CallF} {thaw : List Nat} {dst : Option Tmp} {x : Operand}, memD env call thaw dst (.load 57 x) (H3 ++ [O.arr [] 0 0, O.arr [] 0 0, O.box [.d (.int .i64 0), .sl vg 0 0 0, .sl (vg + 1) 0 0 0]]) [.ptr 0 0 0] = some (.agg [.d (.int .i64 al), .d (.ivs (List.length rs) (rowsD rs)), .d (.ivs (List.length ac) (bools ac))], (H3 ++ [O.arr [] 0 0, O.arr [] 0 0, O.box [.d (.int .i64 0), .sl vg 0 0 0, .sl (vg + 1) 0 0 0]]), f1) := by intro call thaw dst x; rw [hf1]; exact memD_load e3_0 agg_lAutomaton cells_lAutomaton (okay_still e3_0 rfl) (by omega)
  obtain ⟨vt, hvt⟩ : ∃ v, v = List.length (H3 ++ [O.arr [] 0 0, O.arr [] 0 0, O.box [.d (.int .i64 0), .sl vg 0 0 0, .sl (vg + 1) 0 0 0]]) := ⟨_, rfl⟩
  obtain ⟨H4, hH4⟩ : ∃ H, H = (H3 ++ [O.arr [] 0 0, O.arr [] 0 0, O.box [.d (.int .i64 0), .sl vg 0 0 0, .sl (vg + 1) 0 0 0]]) ++ autO vt rs ac := ⟨_, rfl⟩
  have kc_6 : ∀ {R : Type} {k : A → H → Option R}, kCall env (evCall env L (n - 1)) (H3 ++ [O.arr [] 0 0, O.arr [] 0 0, O.box [.d (.int .i64 0), .sl vg 0 0 0, .sl (vg + 1) 0 0 0]]) 34 [.agg [.d (.int .i64 al), .d (.ivs (List.length rs) (rowsD rs)), .d (.ivs (List.length ac) (bools ac))]] k = k (.agg [.d (.int .i64 al), .sl vt 0 0 rs.length, .sl (vt + 1) 0 0 ac.length]) H4 := by intro R k; rw [hH4, hvt]; exact call_to (by omega) hs ha hL
  have gvt : Has H4 vt rs ac := by rw [hH4, hvt]; exact has_new
  have lH4 : H4.length = (H3 ++ [O.arr [] 0 0, O.arr [] 0 0, O.box [.d (.int .i64 0), .sl vg 0 0 0, .sl (vg + 1) 0 0 0]]).length + rs.length + 2 := by rw [hH4, List.length_append, autO_len]; omega
  have wH4 : wgt H4 ≤ wgt (H3 ++ [O.arr [] 0 0, O.arr [] 0 0, O.box [.d (.int .i64 0), .sl vg 0 0 0, .sl (vg + 1) 0 0 0]]) + 1048576 := by rw [hH4, wgt_app, wgt_aut]; omega
  obtain ⟨fA, hfA⟩ : ∃ f : Foot, f = { ids := List.range' (List.length (H3 ++ [O.arr [] 0 0, O.arr [] 0 0, O.box [.d (.int .i64 0), .sl vg 0 0 0, .sl (vg + 1) 0 0 0]])) (autO vt rs ac).length, ro := false } := ⟨_, rfl⟩
  have st_f6 : footC env 34 (H3 ++ [O.arr [] 0 0, O.arr [] 0 0, O.box [.d (.int .i64 0), .sl vg 0 0 0, .sl (vg + 1) 0 0 0]]) H4 [] = some (H4, fA) := by rw [hfA, hH4]; exact footC_new mode_toAutomaton
  have st_f7 : ∀ {ord : List Nat}, footC env 36 H4 H4 ord = some (H4, { ids := ord, ro := true }) := fun {ord} => footC_ro mode_eqAutomaton
  obtain ⟨ord7, hord7⟩ : ∃ l, l = reach fuelR H4 (idsL [.agg [.d (.int .i64 al), .sl v1 0 0 rs.length, .sl (v1 + 1) 0 0 ac.length], .agg [.d (.int .i64 al), .sl vt 0 0 rs.length, .sl (vt + 1) 0 0 ac.length]]) [] := ⟨_, rfl⟩
  have st_r7 : reach fuelR H4 (idsL [.agg [.d (.int .i64 al), .sl v1 0 0 rs.length, .sl (v1 + 1) 0 0 ac.length], .agg [.d (.int .i64 al), .sl vt 0 0 rs.length, .sl (vt + 1) 0 0 ac.length]]) [] = ord7 := hord7.symm
  have gH4x : Has H4 v1 rs ac := by rw [hH4]; exact has_app gE3x
  have gH4 : HasNil H4 vg := by rw [hH4]; exact hasNil_app gE3
  have kc_7 : ∀ {R : Type} {k : A → H → Option R}, kCall env (evCall env L (n - 1)) H4 36 [.agg [.d (.int .i64 al), .sl v1 0 0 rs.length, .sl (v1 + 1) 0 0 ac.length], .agg [.d (.int .i64 al), .sl vt 0 0 rs.length, .sl (vt + 1) 0 0 ac.length]] k = k (.d (.bool true)) H4 := fun {R k} => eq_mem (by omega) hs ha (rd2 (rdA_aut gH4x) (rdA_aut gvt)) (by simp [idsL, ids_autA, ids_autD, idsA]; omega) hL
  have hclash : ∀ (ops : List Oper) (p q : Foot), maskOK 5 [(0, 1), (0, 2), (1, 2)] ops = true → clashFree ops ([] ++ [f0] ++ [f1] ++ [fA] ++ [p] ++ [q]) = true := by
    intro ops p q hm
    refine clash_by 5 [(0, 1), (0, 2), (1, 2)] rfl hm ?_
    intro z hz
    simp only [List.mem_cons, List.not_mem_nil, or_false] at hz
    rcases hz with rfl | rfl | rfl
    · show clash f0 f1 = false; exact clash_ro (by rw [hf0]) (by rw [hf1])
    · show clash f0 fA = false; rw [hf0, hfA]; exact clash_new
    · show clash f1 fA = false; rw [hf1, hfA]; exact clash_new
  have b4_0 : H4[0]? = some (.box [.d (.int .i64 al), .d (.ivs (List.length rs) (rowsD rs)), .d (.ivs (List.length ac) (bools ac))]) := by rw [hH4]; exact get_keep e3_0
  have b4_w : H4[H1.length + 1 + 1]? = some (.box [.d (.int .i64 0), .d (.ivs 0 []), .d (.ivs 0 [])]) := by rw [hH4]; exact get_keep e3_w
  have b4_x : H4[H2.length + 1 + 1]? = some (.box [.d (.int .i64 al), .sl v1 0 0 rs.length, .sl (v1 + 1) 0 0 ac.length]) := by rw [hH4]; exact get_keep e3_x
  have b4_g : H4[H3.length + 1 + 1]? = some (.box [.d (.int .i64 0), .sl vg 0 0 0, .sl (vg + 1) 0 0 0]) := by rw [hH4]; exact get_keep end3_get
  simp only [end3_len] at lH2 lH3 lH4 hv1 hvg hvt
  obtain ⟨H5, c8, l5, gH5x, s5, w5⟩ := mark_aut (L := L) (n := n - 1) (by omega) (al := al) gH4x (c := 1) hs ha (by omega) (by omega) hL
  have kc_8 : ∀ {R : Type} {k : A → H → Option R}, kCall env (evCall env L (n - 1)) H4 37 [.agg [.d (.int .i64 al), .sl v1 0 0 rs.length, .sl (v1 + 1) 0 0 ac.length], .d (.int .i64 1)] k = k (.d (.int .i64 (1 + total rs + ac.length))) H5 := fun {R k} => c8 R k
  have gH5 : HasNil H5 vg := hasNil_same gH4 fun i h1 h2 => s5 i (.inr (by omega))
  have b5_0 : H5[0]? = some (.box [.d (.int .i64 al), .d (.ivs (List.length rs) (rowsD rs)), .d (.ivs (List.length ac) (bools ac))]) := by rw [s5 0 (.inl (by omega))]; exact b4_0
  have b5_w : H5[H1.length + 1 + 1]? = some (.box [.d (.int .i64 0), .d (.ivs 0 []), .d (.ivs 0 [])]) := by rw [s5 _ (.inl (by omega))]; exact b4_w
  have b5_g : H5[H3.length + 1 + 1]? = some (.box [.d (.int .i64 0), .sl vg 0 0 0, .sl (vg + 1) 0 0 0]) := by rw [s5 _ (.inr (by omega))]; exact b4_g
  have kc_9 : ∀ {R : Type} {k : A → H → Option R}, kCall env (evCall env L (n - 1)) H5 36 [.agg [.d (.int .i64 0), .sl vg 0 0 0, .sl (vg + 1) 0 0 0], .agg [.d (.int .i64 0), .d (.ivs 0 []), .d (.ivs 0 [])]] k = k (.d (.bool true)) H5 := fun {R k} => eq_mem (al := 0) (rs := []) (ac := []) (by omega) ⟨by simp, by simp⟩ (by simp) (rd2 (rdA_nilA gH5) rdA_autD) (by simp [idsL, ids_autA, ids_autD, idsA]; omega) hL
  have kc_10 : ∀ {R : Type} {k : A → H → Option R}, kCall env (evCall env L (n - 1)) H5 37 [.agg [.d (.int .i64 0), .sl vg 0 0 0, .sl (vg + 1) 0 0 0], .d (.int .i64 1)] k = k (.d (.int .i64 1)) H5 := mark_nil (by omega) gH5 hL
  have kc_11 : ∀ {R : Type} {k : A → H → Option R}, kCall env (evCall env L (n - 1)) H5 38 [.agg [.d (.int .i64 0), .sl vg 0 0 0, .sl (vg + 1) 0 0 0], .d (.int .i64 1)] k = k (.d (.int .i64 1)) H5 := by
    intro R k
    have := held_mem (L := L) (n := n - 1) (h := H5) (args := [.agg [.d (.int .i64 0), .sl vg 0 0 0, .sl (vg + 1) 0 0 0], .d (.int .i64 1)]) (al := 0) (rs := []) (z := 0) (c := 1) (R := R) (k := k) (by omega) ⟨by simp, by simp⟩ (by omega) (by omega) (by simp [total]) (rd2 (rdA_nilA gH5) rdA_d) (by simp [idsL, idsA]; omega) hL
    simpa [total] using this
  obtain ⟨vu, hvu⟩ : ∃ v, v = List.length H5 := ⟨_, rfl⟩
  obtain ⟨H7, hH7⟩ : ∃ H, H = H5 ++ autO vu rs ac := ⟨_, rfl⟩
  have kc_12 : ∀ {R : Type} {k : A → H → Option R}, kCall env (evCall env L (n - 1)) H5 34 [.agg [.d (.int .i64 al), .d (.ivs (List.length rs) (rowsD rs)), .d (.ivs (List.length ac) (bools ac))]] k = k (.agg [.d (.int .i64 al), .sl vu 0 0 rs.length, .sl (vu + 1) 0 0 ac.length]) H7 := by intro R k; rw [hH7, hvu]; exact call_to (by omega) hs ha hL
  have gvu : Has H7 vu rs ac := by rw [hH7, hvu]; exact has_new
  have lH7 : H7.length = H5.length + rs.length + 2 := by rw [hH7, List.length_append, autO_len]; omega
  have wH7 : wgt H7 ≤ wgt H5 + 1048576 := by rw [hH7, wgt_app, wgt_aut]; omega
  obtain ⟨vh, hvh⟩ : ∃ v, v = List.length H7 := ⟨_, rfl⟩
  obtain ⟨H8, hH8⟩ : ∃ H, H = H7 ++ [O.arr [] 0 0, O.arr [] 0 0] := ⟨_, rfl⟩
  have kc_13 : ∀ {R : Type} {k : A → H → Option R}, kCall env (evCall env L (n - 1)) H7 35 [.agg [.d (.int .i64 al), .sl vu 0 0 rs.length, .sl (vu + 1) 0 0 ac.length], .d (.int .i64 x), .d (.int .i64 y)] k = k (.tup [.agg [.d (.int .i64 0), .sl vh 0 0 0, .sl (vh + 1) 0 0 0], .d (.bool false)]) H8 := by intro R k; rw [hH8, hvh]; exact lay_nil mode_i_SwapAutomaton (rd3 (rdA_aut gvu) rdA_d rdA_d) (by simp [idsL, ids_autA, idsA]; omega) hG
  have gvh : HasNil H8 vh := by rw [hH8, hvh]; exact hasNil_new
  have lH8 : H8.length = H7.length + 2 := by rw [hH8, List.length_append]; rfl
  have wH8 : wgt H8 ≤ wgt H7 + 12 := by rw [hH8, wgt_app]; simp [wgt]
  have wE8 : wgt (H8 ++ [O.arr [] 0 0, O.arr [] 0 0, O.box [.d (.int .i64 0), .sl vh 0 0 0, .sl (vh + 1) 0 0 0]]) ≤ wgt H8 + 2 := by rw [wgt3 rfl rfl]; simp [idsL, idsA]
  have e8_w : (H8 ++ [O.arr [] 0 0, O.arr [] 0 0, O.box [.d (.int .i64 0), .sl vh 0 0 0, .sl (vh + 1) 0 0 0]])[H1.length + 1 + 1]? = some (.box [.d (.int .i64 0), .d (.ivs 0 []), .d (.ivs 0 [])]) := get_keep (by rw [hH8, hH7]; exact get_keep (get_keep b5_w))
  have e8_g : (H8 ++ [O.arr [] 0 0, O.arr [] 0 0, O.box [.d (.int .i64 0), .sl vh 0 0 0, .sl (vh + 1) 0 0 0]])[H3.length + 1 + 1]? = some (.box [.d (.int .i64 0), .sl vg 0 0 0, .sl (vg + 1) 0 0 0]) := get_keep (by rw [hH8, hH7]; exact get_keep (get_keep b5_g))
  have gE8h : HasNil (H8 ++ [O.arr [] 0 0, O.arr [] 0 0, O.box [.d (.int .i64 0), .sl vh 0 0 0, .sl (vh + 1) 0 0 0]]) vh := hasNil_app gvh
  have gE8 : HasNil (H8 ++ [O.arr [] 0 0, O.arr [] 0 0, O.box [.d (.int .i64 0), .sl vh 0 0 0, .sl (vh + 1) 0 0 0]]) vg := hasNil_app (by rw [hH8, hH7]; exact hasNil_app (hasNil_app gH5))
  have kc_14 : ∀ {R : Type} {k : A → H → Option R}, kCall env (evCall env L (n - 1)) (H8 ++ [O.arr [] 0 0, O.arr [] 0 0, O.box [.d (.int .i64 0), .sl vh 0 0 0, .sl (vh + 1) 0 0 0]]) 36 [.agg [.d (.int .i64 0), .sl vh 0 0 0, .sl (vh + 1) 0 0 0], .agg [.d (.int .i64 0), .d (.ivs 0 []), .d (.ivs 0 [])]] k = k (.d (.bool true)) (H8 ++ [O.arr [] 0 0, O.arr [] 0 0, O.box [.d (.int .i64 0), .sl vh 0 0 0, .sl (vh + 1) 0 0 0]]) := fun {R k} => eq_mem (al := 0) (rs := []) (ac := []) (by omega) ⟨by simp, by simp⟩ (by simp) (rd2 (rdA_nilA gE8h) rdA_autD) (by simp [idsL, ids_autA, ids_autD, idsA]; omega) hL
  have kc_15 : ∀ {R : Type} {k : A → H → Option R}, kCall env (evCall env L (n - 1)) (H8 ++ [O.arr [] 0 0, O.arr [] 0 0, O.box [.d (.int .i64 0), .sl vh 0 0 0, .sl (vh + 1) 0 0 0]]) 38 [.agg [.d (.int .i64 0), .sl vg 0 0 0, .sl (vg + 1) 0 0 0], .d (.int .i64 1)] k = k (.d (.int .i64 1)) (H8 ++ [O.arr [] 0 0, O.arr [] 0 0, O.box [.d (.int .i64 0), .sl vh 0 0 0, .sl (vh + 1) 0 0 0]]) := by
    intro R k
    have := held_mem (L := L) (n := n - 1) (h := (H8 ++ [O.arr [] 0 0, O.arr [] 0 0, O.box [.d (.int .i64 0), .sl vh 0 0 0, .sl (vh + 1) 0 0 0]])) (args := [.agg [.d (.int .i64 0), .sl vg 0 0 0, .sl (vg + 1) 0 0 0], .d (.int .i64 1)]) (al := 0) (rs := []) (z := 0) (c := 1) (R := R) (k := k) (by omega) ⟨by simp, by simp⟩ (by omega) (by omega) (by simp [total]) (rd2 (rdA_nilA gE8) rdA_d) (by simp [idsL, idsA]; omega) hL
    simpa [total] using this
  have p1 : ¬ (1 : Int) + total rs + ac.length < 0 := by omega
  have p2 : ¬ (1 : Int) < 0 := by omega
  have hll : ac.length ≤ 9223372036854775807 := by omega
  clear hH2 hH3 hH4 hH7 hH8 hv1 hvg hvt hvu hvh lH2 lH3 lH4 lH7 lH8 gv1 gE2 gvg gE3 gE3x gvt gH4x gH4 gH5x gH5 gvu gvh gE8h gE8 s5 c8 w1 wG1 wE1 wE2 wE3 wE8 w5 wH2 wH3 wH4 wH7 wH8 l1 l5 hf0 hf1 hfA hord7
  obtain ⟨n, rfl⟩ : ∃ m, n = m + 1 := ⟨n - 1, by omega⟩
  simp only [Nat.add_sub_cancel] at kc_1 kc_2 kc_3 kc_4 kc_5 kc_6 kc_7 kc_8 kc_9 kc_10 kc_11 kc_12 kc_13 kc_14 kc_15
  have n1 : 1 ≤ n + 1 := by omega
  obtain ⟨n, rfl⟩ : ∃ m, n = m + 1 := ⟨n - 1, by omega⟩
  rw [fn_FnExactSwapAutomaton]
  simp only [S_FnExactSwapAutomaton, Try.f8, slimF, slimL, lpOf, codeOf, Option.getD_some, slim, loops, List.length_nil, Nat.add_zero, Nat.zero_add, slimO, slimG, List.map_cons, List.map_nil, List.getElem?_cons_zero, List.getElem?_cons_succ, Option.bind_some, Bool.false_eq_true, if_false, if_true, List.length_cons, List.replicate, List.cons_append, List.nil_append, List.append_nil, Nat.reduceAdd, Nat.reduceSub, List.getD_cons_zero, List.getD_cons_succ]
  simp -implicitDefEqProofs (maxSteps := 2000000) (disch := first | assumption | (refine Shut.mk ?_; exact hclash _ _ _ (by kernel_rfl)) | (refine Shut.mk ?_; kernel_rfl) | omega | (simp only [List.getElem?_cons_zero, List.getElem?_cons_succ]; done) | (simp only [List.length_append, List.length_cons, List.length_nil, List.length_set, List.length_replicate, List.length_map, List.length_take, List.length_drop] <;> omega)) only [↓WD, ↓kAsg, ↓kRet, ↓reduceIte, ↓clash_free, ↓WDD, ↓kOpD_callv, WK, thawAt, evPick, aPut, leavesBody, outA, outS, outSs, idsA, idsL, mapA, calmAs, calmA, calmSl, calmPt, genOf, calmH, calmFrom, calmO, mapAs, maskB, isUndef, tidy, Int.reduceLT, Int.reduceLE, Int.reduceEq, Int.reduceNe, Int.reduceNeg, Int.reduceAdd, Int.reduceSub, Int.reduceMul, Int.reduceToNat, Nat.reduceAdd, Nat.reduceSub, aBuiltin, aAppend, aAppend0, aAppendV, isVec, bears, emptyArr, sliceAs, keeps, aBuildVec, aMakeVec, sliceCells, aBuildSlice, aIndexAddr, aLoad, runOf, ofCells, TY, LB, aLen, withInt, fillA, frzL, listWith, frz, frz0, deep, cellsA, setRun, okCell, List.replicate, notJunk, Nat.reduceMul, Nat.reduceLeDiff, Nat.reducePow, Nat.reduceBEq, boxIds, aResults, aResult, outAs, tupA, evNilCheck, aMove, MD, opds, evOp, asOper, one, two, evCallee, evAssign, aNew, evSlice, evField, evExtract, evFunc, pureOp, isCall, readOp, List.range', back, putBack, fuelR, closed, aStore, thawCells, place, pack, mapO, Nat.reduceEqDiff, Nat.reduceLT, maxNeed, i64_id, frzA, frzAs, memD, lentA, footC, ↓kc_szAutomaton, ↓kl_szAutomaton, ↓kv_szAutomaton_1, ↓kv_szAutomaton_2, ↓kv_szAutomaton_3, LA, hsz, p1, p2, ↓kc_1, ↓kc_2, ↓kc_3, ↓kc_4, ↓kc_5, ↓kc_6, ↓kc_7, ↓kc_8, ↓kc_9, ↓kc_10, ↓kc_11, ↓kc_12, ↓kc_13, ↓kc_14, ↓kc_15, ↓st_m0, ↓st_m1, ↓st_f6, ↓st_f7, ↓st_r7, e1_0, e1_w, b2_0, b2_w, e3_0, e3_w, e3_x, b4_x, b5_0, b5_w, b5_g, e8_w, e8_g, List.append_assoc, List.cons_append, List.nil_append, end3_get, end3_set, evBin_neqB, beq_self_eq_true]
theorem ev_FnExactSwapAutomaton {L n : Nat} (hn : 20 ≤ n) (al x y : Int) (rs : List (List Int)) (ac : List Bool) (hlen : rowsLen rs) (hla : ac.length ≤ 9223372036854775807) (hL : 2 ^ 60 ≤ L) : evCall env L n 8 [.agg [.d (.int .i64 al), .d (.ivs (List.length rs) (rowsD rs)), .d (.ivs (List.length ac) (bools ac))], .d (.int .i64 x), .d (.int .i64 y)] [] = some (.d (.bool true), []) := by
  by_cases hsz : szA rs ac 1048576 < 0
  · obtain ⟨n, rfl⟩ : ∃ m, n = m + 1 := ⟨n - 1, by omega⟩
    rw [fn_FnExactSwapAutomaton]
    simp only [S_FnExactSwapAutomaton, Try.f8, slimF, slimL, lpOf, codeOf, Option.getD_some, slim, loops, List.length_nil, Nat.add_zero, Nat.zero_add, slimO, slimG, List.map_cons, List.map_nil, List.getElem?_cons_zero, List.getElem?_cons_succ, Option.bind_some, Bool.false_eq_true, if_false, if_true, List.length_cons, List.replicate, List.cons_append, List.nil_append, List.append_nil, Nat.reduceAdd, Nat.reduceSub, List.getD_cons_zero, List.getD_cons_succ]
    simp -implicitDefEqProofs (maxSteps := 2000000) (disch := first | assumption | (refine Shut.mk ?_; kernel_rfl) | omega | (simp only [List.getElem?_cons_zero, List.getElem?_cons_succ]; done) | (simp only [List.length_append, List.length_cons, List.length_nil, List.length_set, List.length_replicate, List.length_map, List.length_take, List.length_drop] <;> omega)) only [↓WD, ↓kAsg, ↓kRet, ↓reduceIte, ↓clash_free, ↓WDD, ↓kOpD_callv, WK, thawAt, evPick, aPut, leavesBody, outA, outS, outSs, idsA, idsL, mapA, calmAs, calmA, calmSl, calmPt, genOf, calmH, calmFrom, calmO, mapAs, maskB, isUndef, tidy, Int.reduceLT, Int.reduceLE, Int.reduceEq, Int.reduceNe, Int.reduceNeg, Int.reduceAdd, Int.reduceSub, Int.reduceMul, Int.reduceToNat, Nat.reduceAdd, Nat.reduceSub, aBuiltin, aAppend, aAppend0, aAppendV, isVec, bears, emptyArr, sliceAs, keeps, aBuildVec, aMakeVec, sliceCells, aBuildSlice, aIndexAddr, aLoad, runOf, ofCells, TY, LB, aLen, withInt, fillA, frzL, listWith, frz, frz0, deep, cellsA, setRun, okCell, List.replicate, notJunk, Nat.reduceMul, Nat.reduceLeDiff, Nat.reducePow, Nat.reduceBEq, boxIds, aResults, aResult, outAs, tupA, evNilCheck, aMove, MD, opds, evOp, asOper, one, two, evCallee, evAssign, aNew, evSlice, evField, evExtract, evFunc, pureOp, isCall, readOp, List.range', back, putBack, fuelR, closed, aStore, thawCells, place, pack, mapO, Nat.reduceEqDiff, Nat.reduceLT, maxNeed, i64_id, frzA, frzAs, memD, lentA, footC, ↓kc_szAutomaton, ↓kc_s_SwapAutomaton, ↓kc_eqAutomaton, ↓kc_heldAutomaton, ↓kl_szAutomaton, ↓kl_eqAutomaton, ↓kl_heldAutomaton, ↓kv_szAutomaton_1, ↓kv_szAutomaton_2, ↓kv_szAutomaton_3, ↓kv_eqAutomaton_1, ↓kv_eqAutomaton_10, ↓kv_eqAutomaton_11, ↓kv_eqAutomaton_12, ↓kv_eqAutomaton_13, ↓kv_eqAutomaton_14, ↓kv_eqAutomaton_15, ↓kv_eqAutomaton_2, ↓kv_eqAutomaton_3, ↓kv_eqAutomaton_4, ↓kv_eqAutomaton_5, ↓kv_eqAutomaton_6, ↓kv_eqAutomaton_7, ↓kv_eqAutomaton_8, ↓kv_eqAutomaton_9, ↓kv_heldAutomaton_1, ↓kv_heldAutomaton_2, ↓kv_heldAutomaton_3, LA, hsz]
  · cases hok : swapOK al rs ac x y with
    | true => exact FnExactSwapAutomaton_ok hn al x y rs ac hlen hla hsz hok hL
    | false => exact FnExactSwapAutomaton_no hn al x y rs ac hlen hla hsz hok hL

end Ev
end Go.Proofs.Ytidobgmklcbcpaa
