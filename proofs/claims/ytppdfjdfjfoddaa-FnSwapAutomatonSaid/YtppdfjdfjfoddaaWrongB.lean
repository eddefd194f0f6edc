/-
  Automata that are drawn: a copy that is not valid: one entry more in a row, another entry.
-/
import Derived.Test.YtppdfjdfjfoddaaWrongA
set_option linter.unusedSimpArgs false
set_option linter.unusedVariables false
set_option maxRecDepth 8000
set_option pp.maxSteps 6000
set_option maxHeartbeats 4000000
namespace Go.Proofs.Ytppdfjdfjfoddaa
namespace Ev
theorem l3Wrong_row {c : List UInt8} (hc : c.length ≤ 2000) (al : Int) (nx : List (List Int)) (ac : List Bool) (hs : rowsShort nx) (h1 : 1 ≤ nx.length) (ha : ac.length ≤ 4294967290) (p : Int) (t : Nat) (ht : t < nx.length) (hr : (nx.getD t []).length ≤ 4294967290)
  (kd1 : (∀ (R : Type) (L n : Nat) (hq : H) (k : A → H → Option R), 1 ≤ n → 2 ^ 60 ≤ L → kCall env (evCall env L n) (O.box [A.d (D.ivs c.length (bytesL c)), A.d (D.int .i64 p)] :: hq) 74 (.ptr 0 0 0 :: [.d (.int .i64 (nx.length))]) k = k (.d (.int .i64 ((t : Int)))) (O.box [A.d (D.ivs c.length (bytesL c)), A.d (D.int .i64 (p + 1))] :: hq)))
  (kd2 : (∀ (R : Type) (L n : Nat) (hq : H) (k : A → H → Option R), 1 ≤ n → 2 ^ 60 ≤ L → kCall env (evCall env L n) (O.box [A.d (D.ivs c.length (bytesL c)), A.d (D.int .i64 (p + 1))] :: hq) 74 (.ptr 0 0 0 :: [.d (.int .i64 30)]) k = k (.d (.int .i64 2)) (O.box [A.d (D.ivs c.length (bytesL c)), A.d (D.int .i64 (p + 1 + 1))] :: hq))) : (∀ (R : Type) (L n : Nat) (hq : H) (k : A → H → Option R), 4 ≤ n → 2 ^ 60 ≤ L → kCall env (evCall env L n) (O.box [A.d (D.ivs c.length (bytesL c)), A.d (D.int .i64 p)] :: hq) 76 (.ptr 0 0 0 :: [autD al nx ac]) k = k (autD al (nx.set t (nx.getD t [] ++ [0])) ac) (O.box [A.d (D.ivs c.length (bytesL c)), A.d (D.int .i64 (p + 1 + 1))] :: hq)) := by
 intro R L n hq k hn hL
 refine kCall_rd m_l3Wrong (by simp [autD, idsA, idsL]) (by simp [autD, idsA, idsL]) ?_
 have hnl := hs.1
 obtain ⟨N, T1, T2, T3, w⟩ := cpy_facts (.box [.d (.int .i64 al), .d (.ivs nx.length (rowsD nx)), .d (.ivs ac.length (bools ac))]) (.box [.d (.int .i64 0), .sl 2 0 0 0, .sl 3 0 0 0]) al nx ac
 have kd3 := fun {R : Type} {n : Nat} {o1 : O} {k : A → H → Option R} (hn : 2 ≤ n) => kd_copy5 (R := R) (L := L) (n := n) (o1 := o1) (al := al) (k := k) w.h1 hs h1 (by omega) hn hL
 obtain ⟨hN, hT1, l1, h2, b2, h3, l3, t3, t4, t5, tr, tb, e3, wg⟩ := w
 clear e3
 simp only [kidsO, idsL, idsA, List.length_nil, List.length_cons, List.nil_append, List.cons_append, Nat.zero_add] at wg
 clear hT1
 have hrow : nx[t]? = some (nx.getD t []) := by rw [List.getD_eq_getElem?_getD, List.getElem?_eq_getElem ht]; rfl
 generalize hrw : nx.getD t [] = row at hrow hr ⊢
 have hd7 : ((refsV 7 nx ++ nilsA 0).drop t).head? = some (.sl (t + 7) 0 0 row.length) := by rw [refs_head7 ht, hrw]
 obtain ⟨T4, h4⟩ : ∃ T, T3 ++ [.arr [.int .i64 0] 1 0] = T := ⟨_, rfl⟩
 obtain ⟨l4, g4, k4⟩ := app_facts h4
 rw [l3] at l4 g4 k4
 have w4 : wgt T4 = wgt T3 := by rw [← h4, wgt_snoc]; simp [kidsO]
 obtain ⟨T5, h5⟩ : ∃ T, T4.set (t + 6) (.arr (ints (row ++ [0])) 1 1) = T := ⟨_, rfl⟩
 obtain ⟨l5, g5, k5⟩ := set_facts h5 (by omega)
 have w5 : wgt T5 ≤ wgt T4 := by rw [← h5]; have := wgt_set_kids (h := T4) (i := t + 6) (o := .arr (ints (row ++ [0])) 1 1); simpa [kidsO] using this
 obtain ⟨T6, h6⟩ : ∃ T, T5.set 4 (.vec ((refsV 7 nx ++ nilsA 0).take t ++ [.sl (t + 7) 1 0 (row.length + 1)] ++ (refsV 7 nx ++ nilsA 0).drop (t + 1)) 1 0) = T := ⟨_, rfl⟩
 obtain ⟨l6, g6, k6⟩ := set_facts h6 (by omega)
 obtain ⟨T7, h7⟩ : ∃ T, T6.set 3 (.box [.d (.int .i64 al), .sl 5 0 0 nx.length, .sl 6 0 0 ac.length]) = T := ⟨_, rfl⟩
 obtain ⟨l7, g7, k7⟩ := set_facts h7 (by omega)
 have t6b : T6[N + 1 + 1]? = some (.box [.d (.int .i64 al), .sl 5 0 0 nx.length, .sl 6 0 0 ac.length]) := by rw [k6 _ (by omega), k5 _ (by omega), k4 _ (by omega), tb]
 have t63 : T6[3]? = some (.box [.d (.int .i64 0), .sl 2 0 0 0, .sl 3 0 0 0]) := by rw [k6 _ (by omega), k5 _ (by omega), k4 _ (by omega), t3]
 have t44 : T4[4]? = some (.vec (refsV 7 nx ++ nilsA 0) 1 0) := by rw [k4 _ (by omega), t4]
 have t54 : T5[4]? = some (.vec (refsV 7 nx ++ nilsA 0) 1 0) := by rw [k5 _ (by omega), t44]
 have t4r : T4[t + 6]? = some (.arr (ints row) 1 0) := by rw [k4 _ (by omega)]; exact tr _ _ hrow
 have hlv : (refsV 7 nx ++ nilsA 0).length = nx.length := by rw [List.length_append, refsV_len]; rfl
 have st_app : ∀ {call : CallF} {thaw : List Nat} {dst : Option Tmp} {args : Array Operand}, memD env call thaw dst (.call ⟨.builtin .append, args, #[60, 60]⟩) (O.box [A.d (D.ivs c.length (bytesL c)), A.d (D.int .i64 (p + 1 + 1))] :: T4) [.sl (t + 7) 0 0 row.length, .sl (N + 1 + 1 + 1 + 1) 0 0 1] = some (.sl (t + 7) 1 0 (row.length + 1), O.box [A.d (D.ivs c.length (bytesL c)), A.d (D.int .i64 (p + 1 + 1))] :: T5, { ids := [t + 7, N + 1 + 1 + 1 + 1], ro := false, wr := [t + 7] }) := by
  intro call thaw dst args
  rw [memD_appA (e := 3) (e0 := 1) (n2 := 1) (cs := ints row) (src := [.int .i64 0]) rfl c_int (by kernel_rfl) (by rw [show t + 7 = t + 6 + 1 by omega, List.getElem?_cons_succ]; exact t4r) (.inr rfl) (by rw [List.getElem?_cons_succ]; exact g4) rfl (by simp [ints]) (by unfold maxNeed; omega) (by omega)]
  rw [show t + 7 = t + 6 + 1 by omega, List.set_cons_succ, ← h5, show (ints row).take row.length ++ [D.int .i64 0] = ints (row ++ [0]) by rw [List.take_of_length_le (by simp [ints])]; simp [ints]]
 have ok_row : ∀ (i : Nat) (r : List Int), nx[i]? = some r → Okay (O.box [A.d (D.ivs c.length (bytesL c)), A.d (D.int .i64 (p + 1 + 1))] :: T5) (i + 7) := by
  intro i r hr
  have hi : i < nx.length := (List.getElem?_eq_some_iff.1 hr).1
  by_cases e : i = t
  ·subst e
   have hg : (O.box [A.d (D.ivs c.length (bytesL c)), A.d (D.int .i64 (p + 1 + 1))] :: T5)[i + 7]? = some (.arr (ints (row ++ [0])) 1 1) := by rw [show i + 7 = i + 6 + 1 by omega, List.getElem?_cons_succ]; exact g5
   exact .mk _ _ hg (by simp) (by rw [kids_row hg]; simp)
  ·have hg : (O.box [A.d (D.ivs c.length (bytesL c)), A.d (D.int .i64 (p + 1 + 1))] :: T5)[i + 7]? = some (.arr (ints r) 1 0) := by rw [show i + 7 = i + 6 + 1 by omega, List.getElem?_cons_succ, k5 _ (by omega), k4 _ (by omega)]; exact tr _ _ hr
   exact .mk _ _ hg (by simp) (by rw [kids_row hg]; simp)
 have ok5 : Okay (O.box [A.d (D.ivs c.length (bytesL c)), A.d (D.int .i64 (p + 1 + 1))] :: T5) 5 := by
  have hg : (O.box [A.d (D.ivs c.length (bytesL c)), A.d (D.int .i64 (p + 1 + 1))] :: T5)[5]? = some (.vec (refsV 7 nx ++ nilsA 0) 1 0) := t54
  refine .mk _ _ hg (by simp) ?_
  intro q hq
  have : kids (O.box [A.d (D.ivs c.length (bytesL c)), A.d (D.int .i64 (p + 1 + 1))] :: T5) 5 = List.range' 7 nx.length := by simp only [kids, hg, idsL_app, refsV_ids, idsL_nils, List.append_nil]
  rw [this, List.mem_range'_1] at hq
  obtain ⟨z, rfl⟩ : ∃ z, q = z + 7 := ⟨q - 7, by omega⟩
  exact ok_row z (nx[z]'(by omega)) (List.getElem?_eq_getElem _)
 obtain ⟨o2, ho2⟩ : ∃ o, o = reach fuelR (O.box [A.d (D.ivs c.length (bytesL c)), A.d (D.int .i64 (p + 1 + 1))] :: T5) [5, t + 7] [] := ⟨_, rfl⟩
 have st_sto : ∀ {call : CallF} {thaw : List Nat} {dst : Option Tmp} {x y : Operand}, memD env call thaw dst (.store 60 x y) (O.box [A.d (D.ivs c.length (bytesL c)), A.d (D.int .i64 (p + 1 + 1))] :: T5) [.ptr 5 0 t, .sl (t + 7) 1 0 (row.length + 1)] = some (.d .undef, O.box [A.d (D.ivs c.length (bytesL c)), A.d (D.int .i64 (p + 1 + 1))] :: T6, { ids := o2, ro := false, wr := o2 }) := by
  intro call thaw dst x y
  rw [memD_storeV (by kernel_rfl) (by kernel_rfl) (h := O.box [A.d (D.ivs c.length (bytesL c)), A.d (D.int .i64 (p + 1 + 1))] :: T5) (id := 5) (id2 := t + 7) (cs := refsV 7 nx ++ nilsA 0) t54 (by omega) ok5 (ok_row t row hrow) (by rw [wgt_one]; simp only [kidsO, idsL, idsA, List.nil_append, List.length_nil]; omega), ← ho2]
  rw [List.set_cons_succ]
  unfold setRun
  rw [← h6]
  rfl
 have hclash : ∀ (ops : List Oper), mostlyFree [(1, 8), (4, 8), (6, 8), (7, 8), (1, 9), (8, 10), (9, 10)] ops [{}, { ids := [N + 2 + 1], ro := true }, {}, {}, { ids := [N + 2 + 1], ro := true }, {}, { ids := [5], ro := true }, { ids := [5], ro := true }, { ids := [N + 1 + 1 + 1 + 1], ro := false }, { ids := [t + 7, N + 1 + 1 + 1 + 1], ro := false, wr := [t + 7] }, { ids := [5], ro := true }, { ids := o2, ro := false, wr := o2 }] = true → clashFree2 ops [{}, { ids := [N + 2 + 1], ro := true }, {}, {}, { ids := [N + 2 + 1], ro := true }, {}, { ids := [5], ro := true }, { ids := [5], ro := true }, { ids := [N + 1 + 1 + 1 + 1], ro := false }, { ids := [t + 7, N + 1 + 1 + 1 + 1], ro := false, wr := [t + 7] }, { ids := [5], ro := true }, { ids := o2, ro := false, wr := o2 }] = true := by
  intro ops hm
  refine clash_most _ hm ?_
  intro q hq
  simp only [List.mem_cons, List.not_mem_nil, or_false] at hq
  rcases hq with rfl | rfl | rfl | rfl | rfl | rfl | rfl <;> simp [clash] <;> omega
 have hv : rd1 (O.box [A.d (D.ivs c.length (bytesL c)), A.d (D.int .i64 (p + 1 + 1))] :: T7) (.sl 5 0 0 nx.length) = some (.ivs (nx.set t (row ++ [0])).length (rowsD (nx.set t (row ++ [0])))) := by
  refine rd_vecG (cs := (refsV 7 nx ++ nilsA 0).take t ++ [.sl (t + 7) 1 0 (row.length + 1)] ++ (refsV 7 nx ++ nilsA 0).drop (t + 1)) ?_ ?_ (by simp)
  ·rw [List.getElem?_cons_succ, k7 _ (by omega), g6]
  ·refine rd_refs7_set ht (fun i r hi hr => ?_) ?_ (by simp)
   ·have hil : i < nx.length := (List.getElem?_eq_some_iff.1 hr).1
    rw [show i + 7 = i + 6 + 1 by omega, List.getElem?_cons_succ, k7 _ (by omega), k6 _ (by omega), k5 _ (by omega), k4 _ (by omega)]
    exact tr i r hr
   ·rw [show t + 7 = t + 6 + 1 by omega, List.getElem?_cons_succ, k7 _ (by omega), k6 _ (by omega), g5]
 have hw : rd1 (O.box [A.d (D.ivs c.length (bytesL c)), A.d (D.int .i64 (p + 1 + 1))] :: T7) (.sl 6 0 0 ac.length) = some (.ivs ac.length (bools ac)) := by
  refine rd_boolsG ?_ rfl
  rw [List.getElem?_cons_succ, k7 _ (by omega), k6 _ (by omega), k5 _ (by omega), k4 _ (by omega), t5]
 obtain ⟨h2', st_out, st_keep, st_trim⟩ := fin_autR (al := al) hv hw (by omega) (by omega)
 have hlen : (nx.set t (row ++ [0])).length = nx.length := by simp
 unfold autD at st_out ⊢
 rw [hlen] at st_out ⊢
 have hti : (t : Int) < nx.length := by omega
 have ht0 : (0 : Int) ≤ t := by omega
 have hn0 : (0 : Int) < nx.length := by omega
 clear hv hw k4 k5 k6 k7 tr h1 l4 l6 l7 ok_row ok5 w4 w5 wg ho2 hrow hlv
 obtain ⟨n, rfl⟩ : ∃ m, n = m + 1 := ⟨n - 1, by omega⟩
 rw [x4r]
 simp only [x4o, Try.f76, SLM, simprocAttr]
 simp -implicitDefEqProofs (maxSteps := 2000000) (disch := first | assumption | (refine Shut.mk ?_; (show clashFree2 _ _ = true; with_unfolding_all exact hclash _ (by kernel_rfl))) | (refine Shut.mk ?_; kernel_rfl) | omega | (simp only [GT]; done) | (simp only [LN] <;> omega) | fail) only [↓DN, ↓kAsg, ↓kRet, UP, simprocAttr, LA, ↓kd1, ↓kd2, ↓kd3, l1, h2, b2, h3, l3, t3, t4, t5, tb, h4, t44, hti, ht0, hn0, hd7, t54, ↓st_app, ↓st_sto, t6b, t63, h7, g7, Int.toNat_natCast, u_intss, c_ints, u_ints, c_int, ↓st_out, ↓st_keep, ↓st_trim, List.append_assoc, List.cons_append, List.nil_append]
theorem l3Wrong_e0 {c : List UInt8} (hc : c.length ≤ 2000) (al : Int) (nx : List (List Int)) (ac : List Bool) (hs : rowsShort nx) (h1 : 1 ≤ nx.length) (ha : ac.length ≤ 4294967290) (p : Int) (t : Nat) (ht : t < nx.length) (hr : (nx.getD t []).length = 0)
  (kd1 : (∀ (R : Type) (L n : Nat) (hq : H) (k : A → H → Option R), 1 ≤ n → 2 ^ 60 ≤ L → kCall env (evCall env L n) (O.box [A.d (D.ivs c.length (bytesL c)), A.d (D.int .i64 p)] :: hq) 74 (.ptr 0 0 0 :: [.d (.int .i64 (nx.length))]) k = k (.d (.int .i64 ((t : Int)))) (O.box [A.d (D.ivs c.length (bytesL c)), A.d (D.int .i64 (p + 1))] :: hq)))
  (kd2 : (∀ (R : Type) (L n : Nat) (hq : H) (k : A → H → Option R), 1 ≤ n → 2 ^ 60 ≤ L → kCall env (evCall env L n) (O.box [A.d (D.ivs c.length (bytesL c)), A.d (D.int .i64 (p + 1))] :: hq) 74 (.ptr 0 0 0 :: [.d (.int .i64 30)]) k = k (.d (.int .i64 3)) (O.box [A.d (D.ivs c.length (bytesL c)), A.d (D.int .i64 (p + 1 + 1))] :: hq))) : (∀ (R : Type) (L n : Nat) (hq : H) (k : A → H → Option R), 4 ≤ n → 2 ^ 60 ≤ L → kCall env (evCall env L n) (O.box [A.d (D.ivs c.length (bytesL c)), A.d (D.int .i64 p)] :: hq) 76 (.ptr 0 0 0 :: [autD al nx ac]) k = k (autD al nx ac) (O.box [A.d (D.ivs c.length (bytesL c)), A.d (D.int .i64 (p + 1 + 1))] :: hq)) := by
 intro R L n hq k hn hL
 refine kCall_rd m_l3Wrong (by simp [autD, idsA, idsL]) (by simp [autD, idsA, idsL]) ?_
 have hnl := hs.1
 obtain ⟨N, T1, T2, T3, w⟩ := cpy_facts (.box [.d (.int .i64 al), .d (.ivs nx.length (rowsD nx)), .d (.ivs ac.length (bools ac))]) (.box [.d (.int .i64 0), .sl 2 0 0 0, .sl 3 0 0 0]) al nx ac
 have kd3 := fun {R : Type} {n : Nat} {o1 : O} {k : A → H → Option R} (hn : 2 ≤ n) => kd_copy5 (R := R) (L := L) (n := n) (o1 := o1) (al := al) (k := k) w.h1 hs h1 (by omega) hn hL
 obtain ⟨hN, hT1, l1, h2, b2, h3, l3, t3, t4, t5, tr, tb, e3, wg⟩ := w
 clear e3
 clear hT1
 have hd7 : ((refsV 7 nx ++ nilsA 0).drop t).head? = some (.sl (t + 7) 0 0 0) := by rw [refs_head7 ht, hr]
 obtain ⟨T7, h7⟩ : ∃ T, T3.set 3 (.box [.d (.int .i64 al), .sl 5 0 0 nx.length, .sl 6 0 0 ac.length]) = T := ⟨_, rfl⟩
 obtain ⟨l7, g7, k7⟩ := set_facts h7 (by omega)
 have hv : rd1 (O.box [A.d (D.ivs c.length (bytesL c)), A.d (D.int .i64 (p + 1 + 1))] :: T7) (.sl 5 0 0 nx.length) = some (.ivs nx.length (rowsD nx)) := by
  refine rd_vecG (cs := refsV 7 nx ++ nilsA 0) ?_ (rd_refs7 fun i r hr => ?_) rfl
  ·rw [List.getElem?_cons_succ, k7 _ (by omega), t4]
  ·rw [show i + 7 = i + 6 + 1 by omega, List.getElem?_cons_succ, k7 _ (by omega)]
   exact tr i r hr
 have hw : rd1 (O.box [A.d (D.ivs c.length (bytesL c)), A.d (D.int .i64 (p + 1 + 1))] :: T7) (.sl 6 0 0 ac.length) = some (.ivs ac.length (bools ac)) := by
  refine rd_boolsG ?_ rfl
  rw [List.getElem?_cons_succ, k7 _ (by omega), t5]
 obtain ⟨h2', st_out, st_keep, st_trim⟩ := fin_autR (al := al) hv hw (by omega) (by omega)
 unfold autD at st_out ⊢
 have hti : (t : Int) < nx.length := by omega
 have ht0 : (0 : Int) ≤ t := by omega
 have hn0 : (0 : Int) < nx.length := by omega
 clear hv hw k7 tr h1 l7 wg
 obtain ⟨n, rfl⟩ : ∃ m, n = m + 1 := ⟨n - 1, by omega⟩
 rw [x4r]
 simp only [x4o, Try.f76, SLM, simprocAttr]
 simp -implicitDefEqProofs (maxSteps := 2000000) (disch := first | assumption | (refine Shut.mk ?_; kernel_rfl) | omega | (simp only [GT]; done) | (simp only [LN] <;> omega) | fail) only [↓DN, ↓kAsg, ↓kRet, UP, simprocAttr, LA, ↓kd1, ↓kd2, ↓kd3, l1, h2, b2, h3, l3, t3, t4, t5, tb, hti, ht0, hn0, hd7, h7, g7, Int.toNat_natCast, u_intss, c_ints, u_ints, c_int, ↓st_out, ↓st_keep, ↓st_trim, List.append_assoc, List.cons_append, List.nil_append]
theorem l3Wrong_ent {c : List UInt8} (hc : c.length ≤ 2000) (al : Int) (nx : List (List Int)) (ac : List Bool) (hs : rowsShort nx) (h1 : 1 ≤ nx.length) (ha : ac.length ≤ 4294967290) (p : Int) (hp : 0 ≤ p) (hp2 : p ≤ 900000000) (t : Nat) (ht : t < nx.length) (j : Nat) (hj : j < (nx.getD t []).length)
  (kd1 : (∀ (R : Type) (L n : Nat) (hq : H) (k : A → H → Option R), 1 ≤ n → 2 ^ 60 ≤ L → kCall env (evCall env L n) (O.box [A.d (D.ivs c.length (bytesL c)), A.d (D.int .i64 p)] :: hq) 74 (.ptr 0 0 0 :: [.d (.int .i64 (nx.length))]) k = k (.d (.int .i64 ((t : Int)))) (O.box [A.d (D.ivs c.length (bytesL c)), A.d (D.int .i64 (p + 1))] :: hq)))
  (kd2 : (∀ (R : Type) (L n : Nat) (hq : H) (k : A → H → Option R), 1 ≤ n → 2 ^ 60 ≤ L → kCall env (evCall env L n) (O.box [A.d (D.ivs c.length (bytesL c)), A.d (D.int .i64 (p + 1))] :: hq) 74 (.ptr 0 0 0 :: [.d (.int .i64 30)]) k = k (.d (.int .i64 3)) (O.box [A.d (D.ivs c.length (bytesL c)), A.d (D.int .i64 (p + 1 + 1))] :: hq)))
  (kd4 : (∀ (R : Type) (L n : Nat) (hq : H) (k : A → H → Option R), 1 ≤ n → 2 ^ 60 ≤ L → kCall env (evCall env L n) (O.box [A.d (D.ivs c.length (bytesL c)), A.d (D.int .i64 (p + 1 + 1))] :: hq) 74 (.ptr 0 0 0 :: [.d (.int .i64 (((nx.getD t []).length : Int)))]) k = k (.d (.int .i64 ((j : Int)))) (O.box [A.d (D.ivs c.length (bytesL c)), A.d (D.int .i64 (p + 1 + 1 + 1))] :: hq))) : ∃ v : Int, (∀ (R : Type) (L n : Nat) (hq : H) (k : A → H → Option R), 4 ≤ n → 2 ^ 60 ≤ L → kCall env (evCall env L n) (O.box [A.d (D.ivs c.length (bytesL c)), A.d (D.int .i64 p)] :: hq) 76 (.ptr 0 0 0 :: [autD al nx ac]) k = k (autD al (nx.set t ((nx.getD t []).set j v)) ac) (O.box [A.d (D.ivs c.length (bytesL c)), A.d (D.int .i64 (p + 1 + 1 + 1 + 1))] :: hq)) := by
 obtain ⟨v, _, kd5⟩ := x8x hc [-1, nx.length, (nx.length : Int) - 1, 0] (by simp) (by simp) (p + 1 + 1 + 1) (by omega) (by omega)
 simp only [ints, List.map_cons, List.map_nil, List.length_cons, List.length_nil, Nat.zero_add, Nat.reduceAdd] at kd5
 refine ⟨v, ?_⟩
 intro R L n hq k hn hL
 refine kCall_rd m_l3Wrong (by simp [autD, idsA, idsL]) (by simp [autD, idsA, idsL]) ?_
 have hnl := hs.1
 obtain ⟨N, T1, T2, T3, w⟩ := cpy_facts (.box [.d (.int .i64 al), .d (.ivs nx.length (rowsD nx)), .d (.ivs ac.length (bools ac))]) (.box [.d (.int .i64 0), .sl 2 0 0 0, .sl 3 0 0 0]) al nx ac
 have kd3 := fun {R : Type} {n : Nat} {o1 : O} {k : A → H → Option R} (hn : 2 ≤ n) => kd_copy5 (R := R) (L := L) (n := n) (o1 := o1) (al := al) (k := k) w.h1 hs h1 (by omega) hn hL
 obtain ⟨hN, hT1, l1, h2, b2, h3, l3, t3, t4, t5, tr, tb, e3, wg⟩ := w
 clear e3
 clear hT1
 have hrow : nx[t]? = some (nx.getD t []) := by rw [List.getD_eq_getElem?_getD, List.getElem?_eq_getElem ht]; rfl
 have hrl := short_at hs ht
 generalize hrw : nx.getD t [] = row at *
 have hd7 : ((refsV 7 nx ++ nilsA 0).drop t).head? = some (.sl (t + 7) 0 0 row.length) := by rw [refs_head7 ht, hrw]
 obtain ⟨T4, h4⟩ : ∃ T, T3 ++ [.arr [.int .i64 (-1), .int .i64 nx.length, .int .i64 ((nx.length : Int) - 1), .int .i64 0] 1 0] = T := ⟨_, rfl⟩
 obtain ⟨l4, g4, k4⟩ := app_facts h4
 rw [l3] at l4 g4 k4
 have g4D : T4.getD (N + 1 + 1 + 1) O.void = .arr [.int .i64 (-1), .int .i64 nx.length, .int .i64 ((nx.length : Int) - 1), .int .i64 0] 1 0 := by rw [List.getD_eq_getElem?_getD, g4]; rfl
 have t4r : T4[t + 6]? = some (.arr (ints row) 1 0) := by rw [k4 _ (by omega)]; exact tr _ _ hrow
 obtain ⟨T5, h5⟩ : ∃ T, T4.set (t + 6) (.arr (ints (row.set j v)) 1 0) = T := ⟨_, rfl⟩
 obtain ⟨l5, g5, k5⟩ := set_facts h5 (by omega)
 obtain ⟨T7, h7⟩ : ∃ T, T5.set 3 (.box [.d (.int .i64 al), .sl 5 0 0 nx.length, .sl 6 0 0 ac.length]) = T := ⟨_, rfl⟩
 obtain ⟨l7, g7, k7⟩ := set_facts h7 (by omega)
 have t3r : T3[t + 6]? = some (.arr (ints row) 1 0) := tr _ _ hrow
 have t5b : T5[N + 1 + 1]? = some (.box [.d (.int .i64 al), .sl 5 0 0 nx.length, .sl 6 0 0 ac.length]) := by rw [k5 _ (by omega), k4 _ (by omega), tb]
 have t53 : T5[3]? = some (.box [.d (.int .i64 0), .sl 2 0 0 0, .sl 3 0 0 0]) := by rw [k5 _ (by omega), k4 _ (by omega), t3]
 have hset : setRun (ints row) j [.int .i64 v] = ints (row.set j v) := by
  unfold setRun
  exact ints_put hj
 have st_sto : ∀ {call : CallF} {thaw : List Nat} {dst : Option Tmp} {x y : Operand}, memD env call thaw dst (.store 3 x y) (O.box [A.d (D.ivs c.length (bytesL c)), A.d (D.int .i64 (p + 1 + 1 + 1 + 1))] :: T4) [.ptr (t + 7) 0 j, .d (.int .i64 v)] = some (.d .undef, O.box [A.d (D.ivs c.length (bytesL c)), A.d (D.int .i64 (p + 1 + 1 + 1 + 1))] :: T5, { ids := [t + 7], ro := false, wr := [t + 7] }) := by
  intro call thaw dst x y
  rw [memD_storeE (by kernel_rfl) (by kernel_rfl) rfl (h := O.box [A.d (D.ivs c.length (bytesL c)), A.d (D.int .i64 (p + 1 + 1 + 1 + 1))] :: T4) (id := t + 7) (cs := ints row) (esz := 1) (by rw [show t + 7 = t + 6 + 1 by omega, List.getElem?_cons_succ]; exact t4r) (by simp [ints]; omega)]
  rw [show t + 7 = t + 6 + 1 by omega, List.set_cons_succ, hset, h5]
 have hre : ∀ x y : D, reach 1099511627776 (.box [.d x, .d y] :: T4) [0, N + 1 + 1 + 1 + 1] [] = [0, N + 1 + 1 + 1 + 1] := by
  intro x y
  rw [show (1099511627776 : Nat) = 1099511627773 + 1 + 1 + 1 from rfl, reach_cons]
  simp [idsL, idsA]
  rw [reach_cons]
  simp [g4, List.getD_eq_getElem?_getD, reach_nil]
 have hclash : ∀ (ops : List Oper), mostlyFree [(1, 10), (3, 10), (4, 10), (1, 11), (3, 11), (4, 11), (11, 12)] ops [{}, { ids := [N + 2 + 1], ro := true }, {}, { ids := [5], ro := true }, { ids := [5], ro := true }, {}, {}, {}, {}, {}, { ids := [N + 1 + 1 + 1 + 1], ro := false }, { ids := [0, N + 1 + 1 + 1 + 1], ro := false }, { ids := [t + 7], ro := true }, { ids := [t + 7], ro := false }] = true → clashFree2 ops [{}, { ids := [N + 2 + 1], ro := true }, {}, { ids := [5], ro := true }, { ids := [5], ro := true }, {}, {}, {}, {}, {}, { ids := [N + 1 + 1 + 1 + 1], ro := false }, { ids := [0, N + 1 + 1 + 1 + 1], ro := false }, { ids := [t + 7], ro := true }, { ids := [t + 7], ro := false }] = true := by
  intro ops hm
  refine clash_most _ hm ?_
  intro q hq
  simp only [List.mem_cons, List.not_mem_nil, or_false] at hq
  rcases hq with rfl | rfl | rfl | rfl | rfl | rfl | rfl <;> simp [clash] <;> omega
 have hlen : (nx.set t (row.set j v)).length = nx.length := by simp
 have hv : rd1 (O.box [A.d (D.ivs c.length (bytesL c)), A.d (D.int .i64 (p + 1 + 1 + 1 + 1))] :: T7) (.sl 5 0 0 nx.length) = some (.ivs (nx.set t (row.set j v)).length (rowsD (nx.set t (row.set j v)))) := by
  refine rd_vecG (cs := refsV 7 nx ++ nilsA 0) ?_ ?_ hlen.symm
  ·rw [List.getElem?_cons_succ, k7 _ (by omega), k5 _ (by omega), k4 _ (by omega), t4]
  ·rw [← refsV_set (b := 7) (rs := nx) (k := t) (r := row.set j v) (by rw [hrw]; simp)]
   refine rd_refs7 fun i r hr => ?_
   rw [show i + 7 = i + 6 + 1 by omega, List.getElem?_cons_succ]
   rw [List.getElem?_set] at hr
   by_cases e : t = i
   ·subst e
    rw [if_pos rfl, if_pos ht] at hr
    cases hr
    rw [k7 _ (by omega)]; exact g5
   ·rw [if_neg e] at hr
    have hil : i < nx.length := (List.getElem?_eq_some_iff.1 hr).1
    rw [k7 _ (by omega), k5 _ (by omega), k4 _ (by omega)]
    exact tr i r hr
 have hw : rd1 (O.box [A.d (D.ivs c.length (bytesL c)), A.d (D.int .i64 (p + 1 + 1 + 1 + 1))] :: T7) (.sl 6 0 0 ac.length) = some (.ivs ac.length (bools ac)) := by
  refine rd_boolsG ?_ rfl
  rw [List.getElem?_cons_succ, k7 _ (by omega), k5 _ (by omega), k4 _ (by omega), t5]
 obtain ⟨h2', st_out, st_keep, st_trim⟩ := fin_autR (al := al) hv hw (by omega) (by omega)
 unfold autD at st_out ⊢
 rw [hlen] at st_out ⊢
 have hti : (t : Int) < nx.length := by omega
 have ht0 : (0 : Int) ≤ t := by omega
 have hn0 : (0 : Int) < nx.length := by omega
 have hji : (j : Int) < row.length := by omega
 have hj0 : (0 : Int) ≤ j := by omega
 have hr0 : (0 : Int) < row.length := by omega
 clear hv hw k4 k5 k7 tr h1 l4 l7 wg hrow
 obtain ⟨n, rfl⟩ : ∃ m, n = m + 1 := ⟨n - 1, by omega⟩
 rw [x4r]
 simp only [x4o, Try.f76, SLM, simprocAttr]
 simp -implicitDefEqProofs (maxSteps := 2000000) (disch := first | assumption | (refine Shut.mk ?_; (show clashFree2 _ _ = true; with_unfolding_all exact hclash _ (by kernel_rfl))) | (refine Shut.mk ?_; kernel_rfl) | omega | (simp only [GT]; done) | (simp only [LN] <;> omega) | fail) only [↓DN, ↓kAsg, ↓kRet, UP, simprocAttr, LA, ↓kd1, ↓kd2, ↓kd3, ↓kd4, ↓kd5, l1, h2, b2, h3, l3, t3, t4, t5, tb, h4, g4, g4D, t3r, t4r, hti, ht0, hn0, hji, hj0, hr0, hd7, hre, ↓st_sto, t5b, t53, h7, g7, Int.toNat_natCast, u_intss, c_ints, u_ints, c_int, ↓st_out, ↓st_keep, ↓st_trim, Nat.sub_self, List.range'_zero, List.append_nil, List.append_assoc, List.cons_append, List.nil_append]
end Ev
end Go.Proofs.Ytppdfjdfjfoddaa
