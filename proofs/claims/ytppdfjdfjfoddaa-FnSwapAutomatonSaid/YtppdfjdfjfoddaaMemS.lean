/-
  Automata that are drawn: off a text, or over an alphabet.
-/
import Derived.Test.YtppdfjdfjfoddaaMono
import Derived.Test.YtppdfjdfjfoddaaAutoL
import Derived.Test.YtppdfjdfjfoddaaDraw2
import Derived.Test.YtppdfjdfjfoddaaMemD
section
set_option linter.unusedSimpArgs false
set_option linter.unusedVariables false
set_option maxRecDepth 8000
set_option pp.maxSteps 6000
set_option maxHeartbeats 4000000
namespace Go.Proofs.Ytppdfjdfjfoddaa
namespace Ev
theorem intsB_ints : ∀ (n : Nat) (cs : List D), intsB n cs = true → ∃ l : List Int, l.length = n ∧ cs = ints l
 | 0, [], _ => ⟨[], rfl, rfl⟩
 | 0, _ :: _, h => by simp [intsB] at h
 | n + 1, cs, h => by
  unfold intsB at h
  split at h
  ·exfalso; omega
  ·rename_i m a ds heq
   cases heq
   obtain ⟨l, h1, h2⟩ := intsB_ints n _ h
   exact ⟨a :: l, by simp [h1], by rw [h2]; rfl⟩
  ·cases h
theorem boolsB_bools : ∀ (n : Nat) (cs : List D), boolsB n cs = true → ∃ l : List Bool, l.length = n ∧ cs = bools l
 | 0, [], _ => ⟨[], rfl, rfl⟩
 | 0, _ :: _, h => by simp [boolsB] at h
 | n + 1, cs, h => by
  unfold boolsB at h
  split at h
  ·exfalso; omega
  ·rename_i m a ds heq
   cases heq
   obtain ⟨l, h1, h2⟩ := boolsB_bools n _ h
   exact ⟨a :: l, by simp [h1], by rw [h2]; rfl⟩
  ·cases h
theorem rowsB_rows (w : Nat) : ∀ (n : Nat) (cs : List D), rowsB w n cs = true → ∃ l : List (List Int), l.length = n ∧ (∀ r ∈ l, r.length = w) ∧ cs = rowsD l
 | 0, [], _ => ⟨[], rfl, by simp, rfl⟩
 | 0, _ :: _, h => by simp [rowsB] at h
 | n + 1, cs, h => by
  unfold rowsB at h
  split at h
  ·exfalso; omega
  ·rename_i m k rs ds heq
   cases heq
   simp only [Bool.and_eq_true, beq_iff_eq] at h
   obtain ⟨r, h3, h4⟩ := intsB_ints k _ h.1.1
   obtain ⟨l, h1, h2, h5⟩ := rowsB_rows w n _ h.2
   refine ⟨r :: l, by simp [h1], ?_, ?_⟩
   ·intro x hx
    rcases List.mem_cons.1 hx with rfl | hx
    ·rw [h3, h.1.2]
    ·exact h2 x hx
   ·rw [h5, h4, ← h3]
    rfl
  ·cases h
theorem shape_aut {r : Option (A × H)} (h : autShape r = true) : ∃ (al : Int) (nx : List (List Int)) (ac : List Bool), 1 ≤ nx.length ∧ nx.length ≤ 12 ∧ ac.length = nx.length ∧ (∀ r ∈ nx, r.length = (letters al).length) ∧ r = some (.tup [autD al nx ac, .d (.bool true)], []) := by
 unfold autShape at h
 split at h
 ·rename_i al n rs m bs
  simp only [Bool.and_eq_true, decide_eq_true_eq, beq_iff_eq] at h
  obtain ⟨⟨⟨h1, h2⟩, h3⟩, h4, h5⟩ := h
  obtain ⟨l, g1, g2, g3⟩ := rowsB_rows _ _ _ h1
  obtain ⟨b, g4, g5⟩ := boolsB_bools _ _ h2
  subst g3; subst g5
  refine ⟨al, l, b, by omega, by omega, by omega, g2, ?_⟩
  unfold autD
  rw [g1, g4]
 ·cases h
theorem xjp {t : List UInt8} (ht : t ∈ texts3) : ∃ (al : Int) (nx : List (List Int)) (ac : List Bool), 1 ≤ nx.length ∧ nx.length ≤ 12 ∧ ac.length = nx.length ∧ (∀ r ∈ nx, r.length = (letters al).length) ∧ ∀ (L n : Nat), 12 ≤ n → 2 ^ 60 ≤ L → evCall env L n 104 [.d (.str t)] [] = some (.tup [autD al nx ac, .d (.bool true)], []) := by
 obtain ⟨al, nx, ac, h1, h2, h3, h4, h5⟩ := shape_aut (text3_all t ht)
 exact ⟨al, nx, ac, h1, h2, h3, h4, fun L n hn hL => evCall_more (by omega) hn _ _ _ _ h5⟩
theorem m_l3Draw : (env.hint 77).mode = 0 := by kernel_rfl
theorem xno {L n : Nat} (hn : 1 ≤ n) : evCall env L n 106 [] [] = some (.d (.ivs 12 (strsL texts3)), []) := by
 obtain ⟨n, rfl⟩ : ∃ m, n = m + 1 := ⟨n - 1, by omega⟩
 kernel_rfl
theorem xj9 {R : Type} {L n : Nat} {hq : H} {k : A → H → Option R} (hn : 1 ≤ n) : kCall env (evCall env L n) hq 106 [] k = k (.d (.ivs 12 (strsL texts3))) hq :=
 kCall_still rfl (xno hn) rfl (.inr rfl)
theorem xp8 {c : List UInt8} (hc : c.length ≤ 2000) (p : Int) (hp : 0 ≤ p) (hp2 : p ≤ 800000000) :
  ∃ (al : Int) (nx : List (List Int)) (ac : List Bool) (q : Int), 1 ≤ nx.length ∧ nx.length ≤ 12 ∧ ac.length = nx.length ∧ (∀ r ∈ nx, r.length = (letters al).length) ∧ p ≤ q ∧ q ≤ p + 60 ∧ (∀ (R : Type) (L n : Nat) (hq : H) (k : A → H → Option R), 14 ≤ n → 2 ^ 60 ≤ L → kCall env (evCall env L n) (O.box [A.d (D.ivs c.length (bytesL c)), A.d (D.int .i64 p)] :: hq) 77 (.ptr 0 0 0 :: []) k = k (autD al nx ac) (O.box [A.d (D.ivs c.length (bytesL c)), A.d (D.int .i64 q)] :: hq)) := by
 obtain ⟨v, v0, v1, _, kd1⟩ := x35 hc p 3 hp (by omega)
 by_cases hv : v = 0
 ·subst hv
  obtain ⟨t, ht, kd2⟩ := xpu hc texts3 (by simp [texts3]) (by simp [texts3]) (p + 1) (by omega) (by omega)
  have e11 : texts3.length = 12 := rfl
  rw [e11] at kd2
  obtain ⟨al, nx, ac, g1, g2, g3, g4, he⟩ := xjp ht
  have kc_p : ∀ {R : Type} {L n : Nat} {hq : H} {k : A → H → Option R}, 12 ≤ n → 2 ^ 60 ≤ L → kCall env (evCall env L n) hq 104 [.d (.str t)] k = k (.tup [autD al nx ac, .d (.bool true)]) hq := fun hn hL => kCall_still rfl (he _ _ hn hL) rfl (.inr rfl)
  refine ⟨al, nx, ac, p + 1 + 1, g1, g2, g3, g4, by omega, by omega, fun R L n hq k hn hL => kCall_rd m_l3Draw rfl (by simp [autD, idsA, idsL]) ?_⟩
  unfold autD at kc_p ⊢
  clear he g4
  obtain ⟨n, rfl⟩ : ∃ m, n = m + 1 := ⟨n - 1, by omega⟩
  rw [xjx]
  simp only [xhb, Try.f77, SLM, simprocAttr]
  simp -implicitDefEqProofs (maxSteps := 2000000) (disch := first | assumption | (refine Shut.mk ?_; kernel_rfl) | omega | (simp only [GT]; done) | (simp only [LN] <;> omega) | fail) only [↓DN, ↓kAsg, ↓kRet, UP, simprocAttr, ↓xj9, LA, ↓kd1, ↓kd2, ↓kc_p]
 ·obtain ⟨al, _, kd2⟩ := x8x hc [3, 6, 7, 5, 1, 0, 2] (by simp) (by simp) (p + 1) (by omega) (by omega)
  obtain ⟨nx, ac, q, g1, g2, g3, g4, g5, g6, kd3⟩ := xpe hc al (p + 1 + 1) (by omega) (by omega)
  simp only [ints, List.map_cons, List.map_nil, List.length_cons, List.length_nil, Nat.zero_add, Nat.reduceAdd] at kd2
  refine ⟨al, nx, ac, q, g1, by omega, g3, g4, by omega, by omega, fun R L n hq k hn hL => kCall_rd m_l3Draw rfl (by simp [autD, idsA, idsL]) ?_⟩
  unfold autD at kd3 ⊢
  clear g4
  obtain ⟨n, rfl⟩ : ∃ m, n = m + 1 := ⟨n - 1, by omega⟩
  rw [xjx]
  simp only [xhb, Try.f77, SLM, simprocAttr]
  simp -implicitDefEqProofs (maxSteps := 2000000) (disch := first | assumption | (refine Shut.mk ?_; kernel_rfl) | omega | (simp only [GT]; done) | (simp only [LN] <;> omega) | fail) only [↓DN, ↓kAsg, ↓kRet, UP, simprocAttr, ↓xj9, LA, hv, ↓kd1, ↓kd2, ↓kd3]
end Ev
end Go.Proofs.Ytppdfjdfjfoddaa
end

/-!
  Automata that are drawn: one of the greatest number of states.
-/
section
set_option linter.unusedSimpArgs false
set_option linter.unusedVariables false
set_option maxRecDepth 8000
set_option pp.maxSteps 6000
set_option maxHeartbeats 4000000
namespace Go.Proofs.Ytppdfjdfjfoddaa
namespace Ev
theorem rowsD_takeN {d : List (List Int)} : (rowsD d).take d.length = rowsD d := by
 rw [List.take_of_length_le (by simp [rowsD])]
theorem rowsD_snoc2 {d : List (List Int)} {x y : Int} : rowsD d ++ [.ivs 2 [.int .i64 x, .int .i64 y]] = rowsD (d ++ [[x, y]]) := by
 simp [rowsD, rowD, ints]
theorem rowsD_lenN {d : List (List Int)} : (rowsD d).length = d.length := by simp [rowsD]
theorem xn7 {c : List UInt8} (hc : c.length ≤ 2000) : ∀ (j i : Nat) (p : Int) (d : List (List Int)) (bl : List Bool) (hi : i + j = 12) (h1 : 1 ≤ i) (hd : d.length = i) (hb : bl.length = i) (hr : ∀ r ∈ d, r.length = 2) (hp : 0 ≤ p) (hp2 : p + 2 * j ≤ 1000000000),
  ∃ (d2 : List (List Int)) (bl2 : List Bool) (q : Int), d2.length = 12 ∧ bl2.length = 12 ∧ (∀ r ∈ d2, r.length = 2) ∧ p ≤ q ∧ q ≤ p + 2 * j ∧ ∀ (R : Type) (L n m : Nat) (k : Exit → List A → H → Option R), 2 ≤ n → 2 ^ 60 ≤ L → j < m →
  kLoop env (evCall env L n) L 1 [] (U1 (Z1 (U2 (U1 (Z16 (Z8 (Z4 (Z2 (Z1 ([])))))))))) (x83 0) (Z1 (U1 (Z2 (Z1 (U16 (U8 (U4 (U2 (U1 ([])))))))))) m (.ptr 0 0 0 :: Y1 (.ptr 1 0 0 :: .ptr 2 0 0 :: .d (.int .i64 ((i : Int))) :: Y16 (Y8 (Y4 (Y2 (Y1 ([]))))))) (O.box [A.d (D.ivs c.length (bytesL c)), A.d (D.int .i64 p)] :: .box [.d (.int .i64 0), .sl 3 0 0 0, .sl 4 0 0 0] :: .box [.d (.int .i64 3), .sl 5 0 0 d.length, .sl 6 0 0 bl.length] :: .arr [] 0 0 :: .arr [] 0 0 :: .arr (rowsD d) 1 0 :: .arr (bools bl) 1 0 :: []) k
  = k (.exit 0) (.ptr 0 0 0 :: Y1 (.ptr 1 0 0 :: .ptr 2 0 0 :: .d (.int .i64 12) :: Y16 (Y8 (Y4 (Y2 (Y1 ([]))))))) (O.box [A.d (D.ivs c.length (bytesL c)), A.d (D.int .i64 q)] :: .box [.d (.int .i64 0), .sl 3 0 0 0, .sl 4 0 0 0] :: .box [.d (.int .i64 3), .sl 5 0 0 d2.length, .sl 6 0 0 bl2.length] :: .arr [] 0 0 :: .arr [] 0 0 :: .arr (rowsD d2) 1 0 :: .arr (bools bl2) 1 0 :: []) := by
 intro j
 induction j with
 | zero =>
  intro i p d bl hi h1 hd hb hr hp hp2
  obtain rfl : i = 12 := by omega
  refine ⟨d, bl, p, hd, hb, hr, by omega, by omega, fun R L n m k hn hL hm => ?_⟩
  obtain ⟨m, rfl⟩ : ∃ q, m = q + 1 := ⟨m - 1, by omega⟩
  have e12 : ((12 : Nat) : Int) = 12 := rfl
  rw [e12]
  rw [xbu]
  simp only [xc1, Try.f75, SLM, simprocAttr]
  simp -implicitDefEqProofs (maxSteps := 2000000) (disch := first | assumption | (refine Shut.mk ?_; kernel_rfl) | omega | (simp only [GT]; done) | (simp only [LN] <;> omega) | fail) only [↓DN, ↓kAsg, ↓kRet, UP, simprocAttr, LA, Int.lt_irrefl]
 | succ j ih =>
  intro i p d bl hi h1 hd hb hr hp hp2
  obtain ⟨x, hx, kd1⟩ := x8x hc [(i : Int), 0, 11] (by simp) (by simp) p hp (by omega)
  obtain ⟨v, v0, v1, _, kd2⟩ := x35 hc (p + 1) 5 (by omega) (by omega)
  obtain ⟨d2, bl2, q, g1, g2, g3, g4, g5, kd3⟩ := ih (i + 1) (p + 1 + 1) (d ++ [[((i : Int) + 1).tmod 12, x]]) (bl ++ [decide (v = 0)]) (by omega) (by omega) (by simp [hd]) (by simp [hb]) (by
   intro r hrm
   rcases List.mem_append.1 hrm with h | h
   ·exact hr r h
   ·simp at h; subst h; rfl) (by omega) (by omega)
  refine ⟨d2, bl2, q, g1, g2, g3, by omega, by omega, fun R L n m k hn hL hm => ?_⟩
  obtain ⟨m, rfl⟩ : ∃ q, m = q + 1 := ⟨m - 1, by omega⟩
  have kd3' := kd3 R L n m k hn hL (by omega)
  rw [show ((i + 1 : Nat) : Int) = (i : Int) + 1 by omega] at kd3'
  simp only [List.length_append, List.length_cons, List.length_nil, Nat.zero_add] at kd3'
  have hc1 : (i : Int) < 12 := by omega
  have hc2 : ¬ ((i : Int) = 0) := by omega
  have hb1 : (0 : Int) ≤ i := by omega
  have hdl : d.length ≤ 12 := by omega
  have hbl : bl.length ≤ 12 := by omega
  simp only [ints, List.map_cons, List.map_nil, List.length_cons, List.length_nil, Nat.zero_add, Nat.reduceAdd] at kd1
  clear ih kd3 hr g3
  rw [xbu]
  simp only [xc1, Try.f75, SLM, simprocAttr]
  simp -implicitDefEqProofs (maxSteps := 2000000) (disch := first | assumption | (refine Shut.mk ?_; kernel_rfl) | omega | (simp only [GT]; done) | (simp only [LN] <;> omega) | fail) only [↓DN, ↓kAsg, ↓kRet, UP, simprocAttr, LA, hc1, hc2, ↓kd1, ↓kd2, rowsD_takeN, rowsD_snoc2, rowsD_lenN, bools_length, bools_take, bools_snoc1, List.length_append, ↓kd3', Nat.sub_self, List.range'_zero]
theorem xjn {c : List UInt8} (hc : c.length ≤ 2000) (p : Int) (hp : 0 ≤ p) (hp2 : p ≤ 900000000) :
  ∃ (d2 : List (List Int)) (bl2 : List Bool) (q : Int), d2.length = 12 ∧ bl2.length = 12 ∧ (∀ r ∈ d2, r.length = 2) ∧ p ≤ q ∧ q ≤ p + 40 ∧ ∀ (R : Type) (L n m : Nat) (k : Exit → List A → H → Option R), 2 ≤ n → 2 ^ 60 ≤ L → 12 < m →
  kLoop env (evCall env L n) L 1 [] (U1 (Z1 (U2 (U1 (Z16 (Z8 (Z4 (Z2 (Z1 ([])))))))))) (x83 0) (Z1 (U1 (Z2 (Z1 (U16 (U8 (U4 (U2 (U1 ([])))))))))) m (.ptr 0 0 0 :: Y1 (.ptr 1 0 0 :: .ptr 2 0 0 :: .d (.int .i64 0) :: Y16 (Y8 (Y4 (Y2 (Y1 ([]))))))) (O.box [A.d (D.ivs c.length (bytesL c)), A.d (D.int .i64 p)] :: .box [.d (.int .i64 0), .sl 3 0 0 0, .sl 4 0 0 0] :: .box [.d (.int .i64 3), .sl 5 0 0 0, .sl 6 0 0 0] :: .arr [] 0 0 :: .arr [] 0 0 :: .arr [] 0 0 :: .arr [] 0 0 :: []) k
  = k (.exit 0) (.ptr 0 0 0 :: Y1 (.ptr 1 0 0 :: .ptr 2 0 0 :: .d (.int .i64 12) :: Y16 (Y8 (Y4 (Y2 (Y1 ([]))))))) (O.box [A.d (D.ivs c.length (bytesL c)), A.d (D.int .i64 q)] :: .box [.d (.int .i64 0), .sl 3 0 0 0, .sl 4 0 0 0] :: .box [.d (.int .i64 3), .sl 5 0 0 d2.length, .sl 6 0 0 bl2.length] :: .arr [] 0 0 :: .arr [] 0 0 :: .arr (rowsD d2) 1 0 :: .arr (bools bl2) 1 0 :: []) := by
 obtain ⟨x, hx, kd1⟩ := x8x hc [0, 0, 11] (by simp) (by simp) p hp (by omega)
 obtain ⟨d2, bl2, q, g1, g2, g3, g4, g5, kd3⟩ := xn7 hc 11 1 (p + 1) [[1, x]] [true] (by omega) (by omega) rfl rfl (by simp) (by omega) (by omega)
 refine ⟨d2, bl2, q, g1, g2, g3, by omega, by omega, fun R L n m k hn hL hm => ?_⟩
 obtain ⟨m, rfl⟩ : ∃ q, m = q + 1 := ⟨m - 1, by omega⟩
 have kd3' := kd3 R L n m k hn hL (by omega)
 simp only [ints, List.map_cons, List.map_nil, List.length_cons, List.length_nil, Nat.zero_add, Nat.reduceAdd] at kd1
 have e1 : rowsD [[1, x]] = [.ivs 2 [.int .i64 1, .int .i64 x]] := rfl
 have e2 : bools [true] = [.bool true] := rfl
 have e3 : ((1 : Nat) : Int) = 1 := rfl
 rw [e1, e2, e3] at kd3'
 simp only [List.length_cons, List.length_nil, Nat.zero_add] at kd3'
 clear kd3
 rw [xbu]
 simp only [xc1, Try.f75, SLM, simprocAttr]
 simp -implicitDefEqProofs (maxSteps := 2000000) (disch := first | assumption | (refine Shut.mk ?_; kernel_rfl) | omega | (simp only [GT]; done) | (simp only [LN] <;> omega) | fail) only [↓DN, ↓kAsg, ↓kRet, UP, simprocAttr, LA, ↓kd1, ↓kd3', Nat.sub_self, List.range'_zero]
theorem xoz {c : List UInt8} (hc : c.length ≤ 2000) (p : Int) (hp : 0 ≤ p) (hp2 : p ≤ 900000000) :
  ∃ (nx : List (List Int)) (ac : List Bool) (q : Int), nx.length = 12 ∧ ac.length = 12 ∧ (∀ r ∈ nx, r.length = (letters 3).length) ∧ p ≤ q ∧ q ≤ p + 40 ∧ ∀ (L n : Nat), 3 ≤ n → 2 ^ 60 ≤ L →
  evCall env L n 75 [.ptr 0 0 0] [O.box [A.d (D.ivs c.length (bytesL c)), A.d (D.int .i64 p)]] = some (autD 3 nx ac, [O.box [A.d (D.ivs c.length (bytesL c)), A.d (D.int .i64 q)]]) := by
 obtain ⟨d2, bl2, q, g1, g2, g3, g4, g5, kd⟩ := xjn hc p hp hp2
 refine ⟨d2, bl2, q, g1, g2, g3, by omega, by omega, fun L n hn hL => ?_⟩
 have loop_a := fun {R : Type} {n : Nat} {k : Exit → List A → H → Option R} (hn : 2 ≤ n) => kd R L n L k hn hL (by omega)
 have hr1 := rowsD_length (l := d2)
 have hb1 := bools_length (l := bl2)
 unfold autD
 clear kd g3
 obtain ⟨n, rfl⟩ : ∃ m, n = m + 1 := ⟨n - 1, by omega⟩
 rw [xp4]
 simp only [xmp, Try.f75, SLM, simprocAttr]
 simp -implicitDefEqProofs (maxSteps := 2000000) (disch := first | assumption | (refine Shut.mk ?_; kernel_rfl) | omega | (simp only [GT]; done) | (simp only [LN] <;> omega) | fail) only [↓DN, ↓kAsg, ↓kRet, UP, simprocAttr, LA, ↓loop_a, hr1, hb1, rowsD_takeN, Nat.le_refl, bools_take]
end Ev
end Go.Proofs.Ytppdfjdfjfoddaa
end

/-!
  Automata that are drawn: a copy, sometimes one that is not valid.
-/
section
set_option linter.unusedSimpArgs false
set_option linter.unusedVariables false
set_option maxRecDepth 8000
set_option pp.maxSteps 6000
set_option maxHeartbeats 4000000
namespace Go.Proofs.Ytppdfjdfjfoddaa
namespace Ev
theorem rows_get_at3 {d : List (List Int)} {o o1 o2 o3 : O} {p : H} {k : Nat} (h : k = d.length + 3) : (rowsO d ++ o1 :: o2 :: o3 :: o :: p)[k]? = some o := by
 subst h
 rw [List.getElem?_append_right (by rw [rowsO_len]; omega), rowsO_len, Nat.add_sub_cancel_left]
 rfl
theorem fin_autR {t : H} {y1 y2 : D} {v w n m gv gw : Nat} {al : Int} {rs : List (List Int)} {ac : List Bool} (k1 : rd1 (.box [.d y1, .d y2] :: t) (.sl v gv 0 n) = some (.ivs rs.length (rowsD rs))) (k2 : rd1 (.box [.d y1, .d y2] :: t) (.sl w gw 0 m) = some (.ivs ac.length (bools ac))) (hv : 1 ≤ v) (hw : 1 ≤ w) :
  ∃ h2, outAs 1 false (.box [.d y1, .d y2] :: t) [.agg [.d (.int .i64 al), .sl v gv 0 n, .sl w gw 0 m]] = some ([autD al rs ac], h2) ∧ reach 1099511627776 h2 (boxIds (List.take 1 h2)) [0] = [0] ∧ List.getD h2 0 default = .box [.d y1, .d y2] := by
 obtain ⟨ha, e1, i1⟩ := frz_rd1 4 (iced_refl _) k1
 obtain ⟨hb, e2, i2⟩ := frz_rd1 4 i1 k2
 have h0 : hb[0]? = some (.box [.d y1, .d y2]) := by
  rcases i2 0 with h | ⟨_, _, _, h, _⟩ | ⟨_, _, _, _, h, _⟩
  ·rw [h]; rfl
  ·cases h
  ·cases h
 obtain ⟨t2, rfl⟩ : ∃ t2, hb = .box [.d y1, .d y2] :: t2 := by
  cases hb with
  | nil => simp at h0
  | cons o t2 => simp at h0; exact ⟨t2, by rw [h0]⟩
 refine ⟨.box [.d y1, .d y2] :: t2, ?_, rfl, rfl⟩
 have hv1 : ¬ (v < 1) := by omega
 have hv2 : ¬ (w < 1) := by omega
 simp only [outAs, outA, outSs, outS, hv1, hv2, decide_false, Bool.false_or, Bool.or_false, Bool.or_self, Bool.false_eq_true, if_false]
 rw [show deep = 4 + 1 from rfl, e1]
 simp only [Option.map_some]
 rw [e2]
 rfl
theorem m_l3Wrong : (env.hint 76).mode = 0 := by kernel_rfl
theorem kd_l3Copy {R : Type} {L n : Nat} {hq : H} {al : Int} {rs : List (List Int)} {ac : List Bool} {k : A → H → Option R} (hs : rowsShort rs) (h1 : 1 ≤ rs.length) (ha : ac.length ≤ 4294967295) (hn : 2 ≤ n) (hL : 2 ^ 60 ≤ L) :
  kCall env (evCall env L n) hq 103 [.agg [.d (.int .i64 al), .d (.ivs rs.length (rowsD rs)), .d (.ivs ac.length (bools ac))]] k = k (autA hq.length al rs.length ac.length) (hq ++ autO hq.length rs ac) := by
 have he := xoc hn al rs ac hs h1 ha hL
 have hb : ∀ b i, i < rs.length + 2 → back [] b (autO 0 rs ac).length i = some (b + i) := fun b i hi => back_new (by rw [autO_len]; exact hi)
 have hA : ∀ b, mapA (back [] b (autO 0 rs ac).length) (autA 0 al rs.length ac.length) = autA b al rs.length ac.length := fun b => map_autA (by simpa using hb b 0 (by omega)) (by simpa using hb b 1 (by omega))
 have hO : ∀ b, (autO 0 rs ac).map (mapO (back [] b (autO 0 rs ac).length)) = autO b rs ac := fun b => map_autO autO_len
 obtain ⟨o, t, hot⟩ : ∃ o t, autO 0 rs ac = o :: t := ⟨_, _, rfl⟩
 have hcall : aCall (evCall env L n) env.hint [] 103 [.agg [.d (.int .i64 al), .d (.ivs rs.length (rowsD rs)), .d (.ivs ac.length (bools ac))]] = some (autA 0 al rs.length ac.length, autO 0 rs ac) := by
  have h2 := hA 0
  have h3 := hO 0
  have hf : frzAs [] [.agg [.d (.int .i64 al), .d (.ivs rs.length (rowsD rs)), .d (.ivs ac.length (bools ac))]] = some ([.agg [.d (.int .i64 al), .d (.ivs rs.length (rowsD rs)), .d (.ivs ac.length (bools ac))]], []) := rfl
  rw [hot] at he h2 h3 ⊢
  unfold aCall
  rw [xct]
  simp only [hf, he, List.length_nil, List.nil_append, h2, h3]
 have hids : idsL [A.agg [.d (.int .i64 al), .d (.ivs rs.length (rowsD rs)), .d (.ivs ac.length (bools ac))]] = [] := by simp [idsL, idsA]
 unfold kCall
 rw [hids, reach_none, mapAs_none _ hids]
 have hp : pack hq [] = [] := rfl
 rw [hp, hcall]
 simp only [List.length_nil, Nat.zero_le, true_and, closed, List.all_nil, Bool.and_self, if_true, putBack, hA, hO]
theorem l3Wrong_same {c : List UInt8} (hc : c.length ≤ 2000) (al : Int) (nx : List (List Int)) (ac : List Bool) (hs : rowsShort nx) (h1 : 1 ≤ nx.length) (ha : ac.length ≤ 4294967295) (p t u : Int) (hu0 : ¬ (u = 0)) (hu1 : ¬ (u = 1)) (hu2 : ¬ (u = 2)) (hu3 : ¬ (u = 3)) (hu4 : ¬ (u = 4)) (hu5 : ¬ (u = 5))
  (kd1 : (∀ (R : Type) (L n : Nat) (hq : H) (k : A → H → Option R), 1 ≤ n → 2 ^ 60 ≤ L → kCall env (evCall env L n) (O.box [A.d (D.ivs c.length (bytesL c)), A.d (D.int .i64 p)] :: hq) 74 (.ptr 0 0 0 :: [.d (.int .i64 (nx.length))]) k = k (.d (.int .i64 t)) (O.box [A.d (D.ivs c.length (bytesL c)), A.d (D.int .i64 (p + 1))] :: hq)))
  (kd2 : (∀ (R : Type) (L n : Nat) (hq : H) (k : A → H → Option R), 1 ≤ n → 2 ^ 60 ≤ L → kCall env (evCall env L n) (O.box [A.d (D.ivs c.length (bytesL c)), A.d (D.int .i64 (p + 1))] :: hq) 74 (.ptr 0 0 0 :: [.d (.int .i64 30)]) k = k (.d (.int .i64 u)) (O.box [A.d (D.ivs c.length (bytesL c)), A.d (D.int .i64 (p + 1 + 1))] :: hq))) : (∀ (R : Type) (L n : Nat) (hq : H) (k : A → H → Option R), 4 ≤ n → 2 ^ 60 ≤ L → kCall env (evCall env L n) (O.box [A.d (D.ivs c.length (bytesL c)), A.d (D.int .i64 p)] :: hq) 76 (.ptr 0 0 0 :: [autD al nx ac]) k = k (autD al nx ac) (O.box [A.d (D.ivs c.length (bytesL c)), A.d (D.int .i64 (p + 1 + 1))] :: hq)) := by
 intro R L n hq k hn hL
 refine kCall_rd m_l3Wrong (by simp [autD, idsA, idsL]) (by simp [autD, idsA, idsL]) ?_
 have hnl := hs.1
 have kd3 := fun {R : Type} {n : Nat} {hq : H} {k : A → H → Option R} (hn : 2 ≤ n) => kd_l3Copy (R := R) (L := L) (n := n) (hq := hq) (al := al) (k := k) hs h1 ha hn hL
 simp only [autA, autO] at kd3
 have hH : Has (O.box [A.d (D.ivs c.length (bytesL c)), A.d (D.int .i64 (p + 1 + 1))] :: .box [.d (.int .i64 al), .d (.ivs nx.length (rowsD nx)), .d (.ivs ac.length (bools ac))] :: .arr [] 0 0 :: .arr [] 0 0 :: .box [.d (.int .i64 al), .sl 5 0 0 nx.length, .sl 6 0 0 ac.length] :: .vec (refsV 7 nx ++ nilsA 0) 1 0 :: .arr (bools ac) 1 0 :: (rowsO nx ++ .arr [] 0 0 :: .arr [] 0 0 :: .box [.d (.int .i64 al), .sl 5 0 0 nx.length, .sl 6 0 0 ac.length] :: [])) 5 nx ac := by
  have := has_at2 (h := [O.box [A.d (D.ivs c.length (bytesL c)), A.d (D.int .i64 (p + 1 + 1))], .box [.d (.int .i64 al), .d (.ivs nx.length (rowsD nx)), .d (.ivs ac.length (bools ac))], .arr [] 0 0, .arr [] 0 0, .box [.d (.int .i64 al), .sl 5 0 0 nx.length, .sl 6 0 0 ac.length]]) (v := 5) (rs := nx) (ac := ac) (p := .arr [] 0 0 :: .arr [] 0 0 :: .box [.d (.int .i64 al), .sl 5 0 0 nx.length, .sl 6 0 0 ac.length] :: []) rfl
  simpa using this
 obtain ⟨h2, st_out, st_keep, st_trim⟩ := fin_aut (n := nx.length) (m := ac.length) (al := al) hH (by omega) rfl rfl
 unfold autD at st_out ⊢
 clear hH
 obtain ⟨n, rfl⟩ : ∃ m, n = m + 1 := ⟨n - 1, by omega⟩
 rw [x4r]
 simp only [x4o, Try.f76, SLM, simprocAttr]
 simp -implicitDefEqProofs (maxSteps := 2000000) (disch := first | assumption | (refine Shut.mk ?_; kernel_rfl) | omega | (simp only [GT]; done) | (simp only [LN] <;> omega) | fail) only [↓DN, ↓kAsg, ↓kRet, UP, simprocAttr, LA, hu0, hu1, hu2, hu3, hu4, hu5, ↓kd1, ↓kd2, ↓kd3, rowsO_len, List.append_assoc, List.cons_append, List.nil_append, rows_get_at2, rows_set_at2, rows_getD_at2, ↓st_out, ↓st_keep, ↓st_trim]
theorem l3Wrong_al {c : List UInt8} (hc : c.length ≤ 2000) (al : Int) (nx : List (List Int)) (ac : List Bool) (hs : rowsShort nx) (h1 : 1 ≤ nx.length) (ha : ac.length ≤ 4294967295) (p t : Int) (hp : 0 ≤ p) (hp2 : p ≤ 900000000)
  (kd1 : (∀ (R : Type) (L n : Nat) (hq : H) (k : A → H → Option R), 1 ≤ n → 2 ^ 60 ≤ L → kCall env (evCall env L n) (O.box [A.d (D.ivs c.length (bytesL c)), A.d (D.int .i64 p)] :: hq) 74 (.ptr 0 0 0 :: [.d (.int .i64 (nx.length))]) k = k (.d (.int .i64 t)) (O.box [A.d (D.ivs c.length (bytesL c)), A.d (D.int .i64 (p + 1))] :: hq)))
  (kd2 : (∀ (R : Type) (L n : Nat) (hq : H) (k : A → H → Option R), 1 ≤ n → 2 ^ 60 ≤ L → kCall env (evCall env L n) (O.box [A.d (D.ivs c.length (bytesL c)), A.d (D.int .i64 (p + 1))] :: hq) 74 (.ptr 0 0 0 :: [.d (.int .i64 30)]) k = k (.d (.int .i64 0)) (O.box [A.d (D.ivs c.length (bytesL c)), A.d (D.int .i64 (p + 1 + 1))] :: hq))) : ∃ al2 : Int, (∀ (R : Type) (L n : Nat) (hq : H) (k : A → H → Option R), 4 ≤ n → 2 ^ 60 ≤ L → kCall env (evCall env L n) (O.box [A.d (D.ivs c.length (bytesL c)), A.d (D.int .i64 p)] :: hq) 76 (.ptr 0 0 0 :: [autD al nx ac]) k = k (autD al2 nx ac) (O.box [A.d (D.ivs c.length (bytesL c)), A.d (D.int .i64 (p + 1 + 1 + 1))] :: hq)) := by
 obtain ⟨al2, _, kd4⟩ := x8x hc [64, -1, 1, 63, 0] (by simp) (by simp) (p + 1 + 1) (by omega) (by omega)
 simp only [ints, List.map_cons, List.map_nil, List.length_cons, List.length_nil, Nat.zero_add, Nat.reduceAdd] at kd4
 refine ⟨al2, ?_⟩
 intro R L n hq k hn hL
 refine kCall_rd m_l3Wrong (by simp [autD, idsA, idsL]) (by simp [autD, idsA, idsL]) ?_
 have hnl := hs.1
 have kd3 := fun {R : Type} {n : Nat} {hq : H} {k : A → H → Option R} (hn : 2 ≤ n) => kd_l3Copy (R := R) (L := L) (n := n) (hq := hq) (al := al) (k := k) hs h1 ha hn hL
 simp only [autA, autO] at kd3
 have hH : Has (O.box [A.d (D.ivs c.length (bytesL c)), A.d (D.int .i64 (p + 1 + 1 + 1))] :: .box [.d (.int .i64 al), .d (.ivs nx.length (rowsD nx)), .d (.ivs ac.length (bools ac))] :: .arr [] 0 0 :: .arr [] 0 0 :: .box [.d (.int .i64 al2), .sl 5 0 0 nx.length, .sl 6 0 0 ac.length] :: .vec (refsV 7 nx ++ nilsA 0) 1 0 :: .arr (bools ac) 1 0 :: (rowsO nx ++ .arr [] 0 0 :: .arr [] 0 0 :: .box [.d (.int .i64 al2), .sl 5 0 0 nx.length, .sl 6 0 0 ac.length] :: .arr [.int .i64 64, .int .i64 (-1), .int .i64 1, .int .i64 63, .int .i64 0] 1 0 :: [])) 5 nx ac := by
  have := has_at2 (h := [O.box [A.d (D.ivs c.length (bytesL c)), A.d (D.int .i64 (p + 1 + 1 + 1))], .box [.d (.int .i64 al), .d (.ivs nx.length (rowsD nx)), .d (.ivs ac.length (bools ac))], .arr [] 0 0, .arr [] 0 0, .box [.d (.int .i64 al2), .sl 5 0 0 nx.length, .sl 6 0 0 ac.length]]) (v := 5) (rs := nx) (ac := ac) (p := .arr [] 0 0 :: .arr [] 0 0 :: .box [.d (.int .i64 al2), .sl 5 0 0 nx.length, .sl 6 0 0 ac.length] :: .arr [.int .i64 64, .int .i64 (-1), .int .i64 1, .int .i64 63, .int .i64 0] 1 0 :: []) rfl
  simpa using this
 obtain ⟨h2, st_out, st_keep, st_trim⟩ := fin_aut (n := nx.length) (m := ac.length) (al := al2) hH (by omega) rfl rfl
 have hnum : (O.box [.d (.int .i64 al), .d (.ivs nx.length (rowsD nx)), .d (.ivs ac.length (bools ac))] :: .arr [] 0 0 :: .arr [] 0 0 :: .box [.d (.int .i64 0), .sl 2 0 0 0, .sl 3 0 0 0] :: .vec (refsV 7 nx ++ nilsA 0) 1 0 :: .arr (bools ac) 1 0 :: (rowsO nx ++ [.arr [] 0 0, .arr [] 0 0, .box [.d (.int .i64 al), .sl 5 0 0 nx.length, .sl 6 0 0 ac.length], .arr [.int .i64 64, .int .i64 (-1), .int .i64 1, .int .i64 63, .int .i64 0] 1 0]))[nx.length + 3 + 1 + 1 + 1 + 1 + 1 + 1]? = some (.arr [.int .i64 64, .int .i64 (-1), .int .i64 1, .int .i64 63, .int .i64 0] 1 0) := by
  simp only [List.getElem?_cons_succ]
  exact rows_get_at3 rfl
 unfold autD at st_out ⊢
 clear hH
 obtain ⟨n, rfl⟩ : ∃ m, n = m + 1 := ⟨n - 1, by omega⟩
 rw [x4r]
 simp only [x4o, Try.f76, SLM, simprocAttr]
 simp -implicitDefEqProofs (maxSteps := 2000000) (disch := first | assumption | (refine Shut.mk ?_; kernel_rfl) | omega | (simp only [GT]; done) | (simp only [LN] <;> omega) | fail) only [↓DN, ↓kAsg, ↓kRet, UP, simprocAttr, LA, ↓kd1, ↓kd2, ↓kd3, ↓kd4, rows_get_at3, rowsO_len, List.append_assoc, List.cons_append, List.nil_append, rows_get_at2, rows_set_at2, rows_getD_at2, ↓st_out, ↓st_keep, ↓st_trim]
end Ev
end Go.Proofs.Ytppdfjdfjfoddaa
end

/-!
  Lists of strings: compared, marked, searched.
-/
section
set_option linter.unusedSimpArgs false
set_option linter.unusedVariables false
set_option maxRecDepth 8000
set_option pp.maxSteps 6000
set_option maxHeartbeats 4000000
namespace Go.Proofs.Ytppdfjdfjfoddaa
namespace Ev
abbrev Str := List UInt8
end Ev
end Go.Proofs.Ytppdfjdfjfoddaa
end

/-!
  Lists of strings in memory, calls that lay them; what a law in memory needs of regions that draw their order.
-/
section
set_option linter.unusedSimpArgs false
set_option linter.unusedVariables false
set_option maxRecDepth 8000
set_option pp.maxSteps 6000
set_option maxHeartbeats 4000000
namespace Go.Proofs.Ytppdfjdfjfoddaa
namespace Ev
section
variable {L n : Nat} {h : H}
end
end Ev
end Go.Proofs.Ytppdfjdfjfoddaa
end
