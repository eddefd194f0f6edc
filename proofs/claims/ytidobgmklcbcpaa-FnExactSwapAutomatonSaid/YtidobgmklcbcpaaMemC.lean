/-
  Calls over memory of which just some blocks are known.
-/
import Derived.Test.YtidobgmklcbcpaaAutC
set_option linter.unusedSimpArgs false
set_option linter.unusedVariables false
set_option maxRecDepth 8000
set_option pp.maxSteps 6000
set_option maxHeartbeats 4000000
namespace Go.Proofs.Ytidobgmklcbcpaa
namespace Ev

/-! ### variables at the end of memory -/

section
variable {h : H} {a b c d : O}

theorem end3_get : (h ++ [a, b, c])[h.length + 1 + 1]? = some c := by
  rw [List.getElem?_append_right (by omega), show h.length + 1 + 1 - h.length = 2 by omega]
  rfl
theorem end3_set : (h ++ [a, b, c]).set (h.length + 1 + 1) d = h ++ [a, b, d] := by
  rw [List.set_append_right _ _ (by omega), show h.length + 1 + 1 - h.length = 2 by omega]
  rfl
theorem end3_len : (h ++ [a, b, c]).length = h.length + 3 := by simp
end

/-! ### operations whose order is not said -/

def maskOK (n : Nat) (bad : List (Nat × Nat)) (ops : List Oper) : Bool := (List.range n).all fun j => (List.range j).all fun i => ((masks ops []).getD j 0).testBit i || bad.contains (i, j)

/-- Most pairs are ordered; the others are looked at. -/
theorem clash_by {ops : List Oper} {cs : List Foot} (n : Nat) (bad : List (Nat × Nat)) (hn : cs.length = n) (hm : maskOK n bad ops = true) (hb : ∀ p ∈ bad, clash (cs.getD p.1 {}) (cs.getD p.2 {}) = false) : clashFree ops cs = true := by
  unfold clashFree
  rw [hn]
  unfold maskOK at hm
  simp only [List.all_eq_true] at hm ⊢
  intro j hj i hi
  have := hm j hj i hi
  rcases Bool.or_eq_true_iff.1 this with h1 | h1
  · rw [h1]; rfl
  · have h2 := hb (i, j) (by simpa using h1)
    simp only at h2
    rw [h2]
    simp

theorem clash_ro {a b : Foot} (ha : a.ro = true) (hb : b.ro = true) : clash a b = false := by
  unfold clash
  rw [ha, hb]
  rfl

/-- What is laid meets nothing that was there. -/
theorem clash_new {h : H} {n k : Nat} {todo : List Nat} {r1 r2 : Bool} : clash { ids := reach n h todo [], ro := r1 } { ids := List.range' h.length k, ro := r2 } = false := by
  unfold clash
  rw [Bool.and_eq_false_iff]
  right
  rw [List.any_eq_false]
  intro i hi
  have := reach_lt n h todo [] (by simp) i hi
  simp only [List.contains_eq_mem, decide_eq_true_eq, List.mem_range'_1]
  omega

/-! ### a variable is loaded -/

theorem idsL_take {n : Nat} : ∀ (xs : List A), xs.length = n → xs.take n = xs := fun xs h => List.take_of_length_le (by omega)

theorem memD_load {E : Env} {call : CallF} {thaw : List Nat} {dst : Option Tmp} {x : Operand} {t : TypeId} {h : H} {id : Nat} {cs : List A} (hb : h[id]? = some (.box cs)) (ha : isAggT E.P t = some true) (hc : E.P.cellsOf t = cs.length) (hok : Okay h id) (hw : 1 + wgt h ≤ 1099511627776) :
    memD E call thaw dst (.load t x) h [.ptr id 0 0] = some (.agg cs, h, { ids := reach fuelR h [id] [], ro := true }) := by
  have hids : idsL [A.ptr id 0 0] = [id] := rfl
  obtain ⟨c1, c2, c3⟩ := reach_all (h := h) (ids := [id]) (by intro i hi; simp at hi; subst hi; exact hok) (by simpa using hw)
  have hn := reach_nodup fuelR h [id] [] (by simp)
  have hl := reach_lt fuelR h [id] [] (by simp)
  unfold memD
  rw [hids]
  generalize hord : reach fuelR h [id] [] = ord at *
  have hm : id ∈ ord := c2 id (by simp)
  obtain ⟨k, hk⟩ := place_is_some hm
  have hko := place_some hk
  have hpk := pack_at (h := h) hko hb
  have hpl : (pack h ord).length = ord.length := by simp [pack]
  have hcs : ∀ i ∈ idsL cs, i ∈ ord := by
    have := c3 id hm
    simpa only [kids, hb] using this
  have hmm : mapAs (back ord h.length ord.length) (mapAs (place ord) cs) = cs := by
    rw [mapAs_mapAs (q := fun i => (place ord i).bind (back ord h.length ord.length)) (fun _ => rfl)]
    apply mapAs_fix
    intro i hi
    obtain ⟨j, hj⟩ := place_is_some (hcs i hi)
    have hjo := place_some hj
    have := place_lt hj
    simp only [hj, Option.bind_some]
    unfold back
    rw [if_pos this]
    exact hjo
  have hev : evOp E call thaw (pack h ord) (asOper dst (.load t x)) (mapAs (place ord) [.ptr id 0 0]) = some (.agg (mapAs (place ord) cs), pack h ord) := by
    simp only [mapAs, mapA, hk, evOp, asOper, one, aLoad, runOf, hpk, mapO, List.drop_zero, ha, ofCells, hc, mapAs_len, Nat.le_refl, if_true, Option.map_some, idsL_take]
  simp only [box, hev, hpl, Nat.le_refl, c1, and_self, if_true, Nat.sub_self]
  simp only [readOp, beq_self_eq_true, Bool.and_self, if_true, mapA, hmm]

theorem okay_aut {h : H} {id v : Nat} {rs : List (List Int)} {ac : List Bool} {cs : List A} (hb : h[id]? = some (.box cs)) (k : Has h v rs ac) (hi : idsL cs = [v, v + 1]) : Okay h id := by
  refine .mk id _ hb (by simp) ?_
  intro j hj
  simp only [kids, hb, hi, List.mem_cons, List.not_mem_nil, or_false] at hj
  rcases hj with rfl | rfl
  · refine .mk _ _ k.vec (by simp) ?_
    intro j hj
    rw [has_kids k] at hj
    obtain ⟨r, hr⟩ := has_leaf k hj
    exact .mk _ _ hr (by simp) (by rw [kids_row hr]; simp)
  · exact .mk _ _ k.acc (by simp) (by simp [kids, k.acc])

theorem okay_still {h : H} {id : Nat} {cs : List A} (hb : h[id]? = some (.box cs)) (hi : idsL cs = []) : Okay h id :=
  .mk id _ hb (by simp) (by simp only [kids, hb, hi]; intro j hj; cases hj)

/-! ### the laws' own calls -/

section
variable {L n : Nat} {h : H} {al : Int} {rs : List (List Int)} {ac : List Bool}

theorem wgt3 {a b : O} {cs : List A} (ha : kidsO a = []) (hb : kidsO b = []) : wgt (h ++ [a, b, .box cs]) = wgt h + (idsL cs).length := by
  rw [wgt_app]
  cases a <;> cases b <;> simp_all [wgt, kidsO]

/-- An automaton is copied. -/
theorem call_to (hn : 5 ≤ n) (hs : rowsShort rs) (ha : ac.length ≤ 4294967296) (hL : 2 ^ 60 ≤ L) : ∀ {R : Type} {k : A → H → Option R}, kCall env (evCall env L n) h 34 [.agg [.d (.int .i64 al), .d (.ivs rs.length (rowsD rs)), .d (.ivs ac.length (bools ac))]] k = k (autA h.length al rs.length ac.length) (h ++ autO h.length rs ac) := by
  intro R k
  have hne : autO 0 rs ac = .vec (refsV 2 rs ++ nilsA 0) 1 0 :: (.arr (bools ac) 1 0 :: rowsO rs) := rfl
  have he := ev_toAutomaton hn al rs ac hs ha hL
  rw [hne] at he
  rw [kCall_new rfl mode_toAutomaton he]
  have hl : (O.arr (bools ac) 1 0 :: rowsO rs).length + 1 = rs.length + 2 := by simp [rowsO_len]
  rw [hl, ← hne, map_autO rfl]
  have h2 : (autO 0 rs ac).map (mapO (back [] h.length (rs.length + 2))) = autO h.length rs ac := map_autO rfl
  rw [h2]
  rw [map_autA (a := 0) (b := 0) (back_new (by omega)) (back_new (by omega)), map_autA (a := 0) (b := h.length) (back_new (by omega)) (back_new (by omega))]

theorem eq_mem {args : List A} (hn : 6 ≤ n) (hs : rowsShort rs) (ha : ac.length ≤ 4294967296) (hr : rdAs h args = some [autD al rs ac, autD al rs ac]) (hw : (idsL args).length + wgt h ≤ 1099511627776) (hL : 2 ^ 60 ≤ L) : ∀ {R : Type} {k : A → H → Option R}, kCall env (evCall env L n) h 36 args k = k (.d (.bool true)) h := by
  intro R k
  rw [kCall_read mode_eqAutomaton hr hw]
  exact kl_eqAutomaton hn al rs ac hs ha hL

theorem held_mem {args : List A} {z : Nat} {c : Int} (hn : 4 ≤ n) (hs : rowsShort rs) (hz : z ≤ 4294967296) (hc0 : 0 ≤ c) (hc1 : c + total rs ≤ 100000000000) (hr : rdAs h args = some [autD al (marksR rs c) (marksB z (c + total rs)), .d (.int .i64 c)]) (hw : (idsL args).length + wgt h ≤ 1099511627776) (hL : 2 ^ 60 ≤ L) : ∀ {R : Type} {k : A → H → Option R}, kCall env (evCall env L n) h 38 args k = k (.d (.int .i64 (c + total rs + z))) h := by
  intro R k
  rw [kCall_read mode_heldAutomaton hr hw]
  unfold autD
  rw [marksR_len, marksB_len]
  exact kl_heldAutomaton hn al rs z c hs hz hc0 hc1 hL

theorem rd2 {a b x y : A} (ha : rdA h a = some x) (hb : rdA h b = some y) : rdAs h [a, b] = some [x, y] := by
  simp only [rdAs, ha, hb]
theorem rd3 {a b c x y z : A} (ha : rdA h a = some x) (hb : rdA h b = some y) (hc : rdA h c = some z) : rdAs h [a, b, c] = some [x, y, z] := by
  simp only [rdAs, ha, hb, hc]
end

end Ev
end Go.Proofs.Ytidobgmklcbcpaa
