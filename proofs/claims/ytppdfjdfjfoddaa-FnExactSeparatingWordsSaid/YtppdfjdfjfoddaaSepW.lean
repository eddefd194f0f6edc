/-
  The first word that tells two states of automata apart, walked: the program's and the reference's.
-/
import Derived.Test.YtppdfjdfjfoddaaTwo
import Derived.Test.YtppdfjdfjfoddaaPathZ
import Derived.Test.YtppdfjdfjfoddaaAutH
import Derived.Test.YtppdfjdfjfoddaaStrS
section
set_option linter.unusedSimpArgs false
set_option linter.unusedVariables false
set_option maxRecDepth 8000
set_option pp.maxSteps 6000
set_option maxHeartbeats 4000000
namespace Go.Proofs.Ytppdfjdfjfoddaa
namespace Ev
theorem aok_short {a : Aut} (h : AOK a) : rowsShort a.nx ∧ rowsWide (letters a.al).length a.nx ∧ 1 ≤ a.nx.length ∧ a.nx.length ≤ 12 ∧ a.ac.length = a.nx.length := by
 obtain ⟨a1, a2, a3, a4⟩ := autOK_len h
 have aw := autOK_wide h
 exact ⟨⟨by omega, fun r hr => by have := aw r hr; have := letters_len a.al; omega⟩, aw, a1, a2, a3⟩
def tabP (a : Aut) : D := .iptr [.ivs a.nx.length (ints (tableL a.al a.nx))]
def autP (a : Aut) : D := .iptr [.int .i64 a.al, .ivs a.nx.length (rowsD a.nx), .ivs a.ac.length (bools a.ac)]
def inP (a b : Aut) (x : Int) : Prop := 0 ≤ x ∧ x < (a.nx.length : Int) * b.nx.length
theorem xlw {L n : Nat} (hn : 1 ≤ n) {a b : Aut} (ha : AOK a) (hb : AOK b) {x c : Int} (hx : inP a b x) (hc0 : 0 ≤ c) (hc6 : c < 6) (o : List Int) (ho : o.length ≤ 2147483648) :
  evCall env L n 116 [.d (.int .i64 x), .d (.int .i64 c), .sl 0 0 0 o.length, .d (tabP a), .d (.iptr [.int .i64 b.nx.length]), .d (tabP b)] [.arr (ints o) 1 0] = some (.sl 0 (nxT a b x c).length 0 (o ++ nxT a b x c).length, [.arr (ints (o ++ nxT a b x c)) 1 (nxT a b x c).length]) := by
 obtain ⟨sa, wa, a1, a2, a3⟩ := aok_short ha
 obtain ⟨sb, wb, b1, b2, b3⟩ := aok_short hb
 obtain ⟨p, q⟩ := pair_rng (na := a.nx.length) (nb := b.nx.length) (by omega) hx.1 hx.2
 have ga := goI_rng ha p.1 p.2 hc0 hc6
 have gb := goI_rng hb q.1 q.2 hc0 hc6
 have hla := tableL_len a.al a.nx
 have hlb := tableL_len b.al b.nx
 have hta := t6_head (al := a.al) p.1 p.2 hc0 hc6
 have htb := t6_head (al := b.al) q.1 q.2 hc0 hc6
 rw [List.drop_drop] at hta htb
 have hprod : (a.nx.length : Int) * b.nx.length ≤ 144 := by
  have h1 : (a.nx.length : Int) * b.nx.length ≤ 12 * b.nx.length := Int.mul_le_mul_of_nonneg_right (by omega) (by omega)
  omega
 have hx1 := hx.2
 have hin := pair_in ga gb
 have hm0 : 0 ≤ goI a.al a.nx (x.tdiv b.nx.length) c * b.nx.length := Int.mul_nonneg ga.1 (by omega)
 have hb0 : ¬ (b.nx.length : Int) = 0 := by omega
 unfold nxT tabP
 have d1 : (x.tdiv b.nx.length).toNat * 6 ≤ a.nx.length * 6 := by omega
 have d2 : (x.tmod b.nx.length).toNat * 6 ≤ b.nx.length * 6 := by omega
 have d3 : c.toNat < a.nx.length * 6 - (x.tdiv b.nx.length).toNat * 6 := by omega
 have d4 : c.toNat < b.nx.length * 6 - (x.tmod b.nx.length).toNat * 6 := by omega
 generalize goI a.al a.nx (x.tdiv b.nx.length) c = g1 at *
 generalize goI b.al b.nx (x.tmod b.nx.length) c = g2 at *
 obtain ⟨x0, x1⟩ := hx
 obtain ⟨p0, p1⟩ := p
 obtain ⟨q0, q1⟩ := q
 have xs : x ≤ 144 := by omega
 have hl1 : ((List.length [g1 * (b.nx.length : Int) + g2])) = 1 := rfl
 clear ha hb sa sb wa wb x1
 obtain ⟨n, rfl⟩ : ∃ m, n = m + 1 := ⟨n - 1, by omega⟩
 rw [xm1]
 simp only [xeb, Try.f116, SLM, simprocAttr]
 simp -implicitDefEqProofs (maxSteps := 2000000) (disch := first | assumption | (refine Shut.mk ?_; kernel_rfl) | omega | (simp only [GT]; done) | (simp only [LN] <;> omega) | fail) only [↓DN, ↓kAsg, ↓kRet, UP, simprocAttr, hla, hlb, hta, htb, hb0, p0, p1, q0, q1, d1, d2, d3, d4, u_t6, u_a6, c_a6, u_int, Int.toNat_natCast, List.length_drop, List.drop_drop, ints_take, ints_snoc, List.length_append, hl1]
theorem xvp {R : Type} {L n id : Nat} {hq : H} {k : A → H → Option R} (hn : 1 ≤ n) {a b : Aut} (ha : AOK a) (hb : AOK b) (x c : Int) (o : List Int) (hx : inP a b x) (hc0 : 0 ≤ c) (hc6 : c < 6) (ho : o.length ≤ 2147483648) (hid : hq[id]? = some (.arr (ints o) 1 0)) :
  kCall env (evCall env L n) hq 116 (.d (.int .i64 x) :: .d (.int .i64 c) :: .sl id 0 0 o.length :: [tabP a, .iptr [.int .i64 b.nx.length], tabP b].map A.d) k
  = k (.sl id (nxT a b x c).length 0 (o ++ nxT a b x c).length) (hq.set id (.arr (ints (o ++ nxT a b x c)) 1 (nxT a b x c).length)) := by
 refine kCall_refS hid (by simp [idsL, idsA]) x6s ?_
 have hpl : place [id] id = some 0 := by simp [place]
 simp only [List.map_cons, List.map_nil, mapAs, mapA, hpl]
 exact xlw hn ha hb hx hc0 hc6 o ho
theorem ag_bb : isAggT env.P 97 = some false := by kernel_rfl
theorem xlu {L n : Nat} (hn : 2 ≤ n) {a b : Aut} {f : Bool → Bool → Bool} {go : FuncId} (hm : (env.hint go).mode = 0) (kc_o : ∀ (x y : Bool) {R : Type} {n : Nat} {hq : H} {k : A → H → Option R}, 1 ≤ n → kCall env (evCall env L n) hq go [.d (.bool x), .d (.bool y)] k = k (.d (.bool (f x y))) hq) (ha : AOK a) (hb : AOK b) {x : Int} (hx : inP a b x) :
  evCall env L n 118 [.d (.int .i64 x), .d (.iptr [.fn go []]), .d (autP a), .d (.iptr [.int .i64 b.nx.length]), .d (autP b)] [] = some (.d (.bool (glT f a b x)), []) := by
 obtain ⟨sa, wa, a1, a2, a3⟩ := aok_short ha
 obtain ⟨sb, wb, b1, b2, b3⟩ := aok_short hb
 obtain ⟨p, q⟩ := pair_rng (na := a.nx.length) (nb := b.nx.length) (by omega) hx.1 hx.2
 have hprod : (a.nx.length : Int) * b.nx.length ≤ 144 := by
  have h1 : (a.nx.length : Int) * b.nx.length ≤ 12 * b.nx.length := Int.mul_le_mul_of_nonneg_right (by omega) (by omega)
  omega
 have hb0 : ¬ (b.nx.length : Int) = 0 := by omega
 have e1 : (x.tdiv b.nx.length).toNat < a.ac.length := by omega
 have e2 : (x.tmod b.nx.length).toNat < b.ac.length := by omega
 have e3 : x.tdiv b.nx.length < (a.ac.length : Int) := by omega
 have e4 : x.tmod b.nx.length < (b.ac.length : Int) := by omega
 obtain ⟨x0, x1⟩ := hx
 obtain ⟨p0, p1⟩ := p
 obtain ⟨q0, q1⟩ := q
 have xs : x ≤ 144 := by omega
 have kc_p := fun {R : Type} {n : Nat} {hq : H} {k : A → H → Option R} (hn : 1 ≤ n) => kc_o (a.ac.getD (x.tdiv b.nx.length).toNat false) (b.ac.getD (x.tmod b.nx.length).toNat false) (R := R) (n := n) (hq := hq) (k := k) hn
 unfold glT autP
 clear ha hb sa sb wa wb x1 kc_o
 obtain ⟨n, rfl⟩ : ∃ m, n = m + 1 := ⟨n - 1, by omega⟩
 rw [xlv]
 simp only [xef, Try.f118, SLM, simprocAttr]
 simp -implicitDefEqProofs (maxSteps := 2000000) (disch := first | assumption | (refine Shut.mk ?_; kernel_rfl) | omega | (simp only [GT]; done) | (simp only [LN] <;> omega) | fail) only [↓DN, ↓kAsg, ↓kRet, UP, simprocAttr, LA, ag_bb, hm, hb0, p0, e3, q0, e4, e1, e2, ↓kc_p, List.length_drop, List.drop_drop]
theorem xvl {R : Type} {L n : Nat} {hq : H} {k : A → H → Option R} (hn : 2 ≤ n) {a b : Aut} {f : Bool → Bool → Bool} {go : FuncId} (hm : (env.hint go).mode = 0) (kc_o : ∀ (x y : Bool) {R : Type} {n : Nat} {hq : H} {k : A → H → Option R}, 1 ≤ n → kCall env (evCall env L n) hq go [.d (.bool x), .d (.bool y)] k = k (.d (.bool (f x y))) hq) (ha : AOK a) (hb : AOK b) (x : Int) (hx : inP a b x) :
  kCall env (evCall env L n) hq 118 (.d (.int .i64 x) :: [.iptr [.fn go []], autP a, .iptr [.int .i64 b.nx.length], autP b].map A.d) k = k (.d (.bool (glT f a b x))) hq :=
 kCall_still rfl (xlu hn hm kc_o ha hb hx) rfl (.inl rfl)
theorem xpd {R : Type} {L n : Nat} {hq : H} {k : A → H → Option R} {a b : A} {id g o len f1 f2 : Nat} {c1 c2 : List A} : kCall env (evCall env L n) hq 117 [a, .sl id g o len, b, .clo f1 c1, .clo f2 c2] k = match box (lentA hq [a, .sl id g o len, b, .clo f1 c1, .clo f2 c2]) with
  | .mk (some fs) => kLent (evCall env L n) 117 fs fun r => k r hq
  | _ => none := kCall_lent xar
theorem ints1 {v : Int} : ints [v] = [.int .i64 v] := rfl
theorem xp7 {L n : Nat} (hn : 8 ≤ n) (hL : 2 ^ 60 ≤ L) {a b : Aut} {f : Bool → Bool → Bool} {go : FuncId} (hm : (env.hint go).mode = 0) (kc_o : ∀ (x y : Bool) {R : Type} {n : Nat} {hq : H} {k : A → H → Option R}, 1 ≤ n → kCall env (evCall env L n) hq go [.d (.bool x), .d (.bool y)] k = k (.d (.bool (f x y))) hq) (ha : AOK a) (hb : AOK b) {i j : Int} (hi : 0 ≤ i ∧ i < a.nx.length) (hj : 0 ≤ j ∧ j < b.nx.length) :
  evCall env L n 88 [.agg [.d (.int .i64 a.al), .d (.ivs a.nx.length (rowsD a.nx)), .d (.ivs a.ac.length (bools a.ac))], .agg [.d (.int .i64 b.al), .d (.ivs b.nx.length (rowsD b.nx)), .d (.ivs b.ac.length (bools b.ac))], .d (.int .i64 i), .d (.int .i64 j), .d (.fn go [])] [] = some (.tup [.d (.str (txt (twoG f a b i j).1)), .d (.bool (twoG f a b i j).2)], []) := by
 obtain ⟨sa, wa, a1, a2, a3⟩ := aok_short ha
 obtain ⟨sb, wb, b1, b2, b3⟩ := aok_short hb
 have hprod : (a.nx.length : Int) * b.nx.length ≤ 144 := by
  have h1 : (a.nx.length : Int) * b.nx.length ≤ 12 * b.nx.length := Int.mul_le_mul_of_nonneg_right (by omega) (by omega)
  omega
 have hprodN : a.nx.length * b.nx.length ≤ 144 := by
  have := hprod; rw [← Int.natCast_mul] at this; omega
 have hin := pair_in hi hj
 have hp := fun {n : Nat} (hn : 7 ≤ n) => @xs6 L n hn hL (inP a b) (glT f a b) 116 118 [tabP a, .iptr [.int .i64 b.nx.length], tabP b] [.iptr [.fn go []], autP a, .iptr [.int .i64 b.nx.length], autP b] (a.nx.length * b.nx.length) (nxT a b) (letters a.al) [i * b.nx.length + j]
  (fun {R n id hq k} x c o h4 hI h0 h6 ho hid => xvp (by omega) ha hb x c o hI h0 h6 ho hid)
  (fun {R n hq k} x h2 hI => xvl h2 hm kc_o ha hb x hI)
  (fun x hI => by rw [Int.natCast_mul]; exact hI) (by omega) (fun x hx => by simp at hx; subst hx; exact hin) (fun x c hI h0 h6 y hy => nxT_rng ha hb hI.1 hI.2 ⟨h0, h6⟩ y hy) (fun x c => by simp [nxT]) letters_in (letters_len a.al) (by simp) (by
   have : 0 < (a.nx.length : Int) * b.nx.length := Int.mul_pos (by omega) (by omega)
   rw [← Int.natCast_mul] at this
   simp only [List.length_cons, List.length_nil]; omega)
 have kl_p := fun {R : Type} {n : Nat} {k : A → Option R} (hn : 7 ≤ n) => kLent_ev (k := k) (hp (n := n) hn) rfl
 have er : pathG (nxT a b) (glT f a b) (letters a.al) [i * b.nx.length + j] (a.nx.length * b.nx.length) = twoG f a b i j := rfl
 rw [er] at kl_p
 simp only [ints1, List.length_cons, List.length_nil, Nat.zero_add, Int.natCast_mul, tabP, autP] at kl_p
 have hi2 : 0 ≤ i * (b.nx.length : Int) := Int.mul_nonneg hi.1 (by omega)
 obtain ⟨i0, i1⟩ := hi
 obtain ⟨j0, j1⟩ := hj
 obtain ⟨n0, n1⟩ := hin
 have hm0 : 0 ≤ (a.nx.length : Int) * b.nx.length := by omega
 have hla := tableL_len a.al a.nx
 have hlb := tableL_len b.al b.nx
 clear hp kc_o ha hb er
 generalize twoG f a b i j = r at *
 obtain ⟨n, rfl⟩ : ∃ m, n = m + 1 := ⟨n - 1, by omega⟩
 rw [xpq]
 simp only [xim, Try.f88, SLM, simprocAttr]
 simp -implicitDefEqProofs (maxSteps := 2000000) (disch := first | assumption | (refine Shut.mk ?_; kernel_rfl) | omega | (simp only [GT]; done) | (simp only [LN] <;> omega) | fail) only [↓DN, ↓kAsg, ↓kRet, UP, simprocAttr, ↓xtj, ↓x7, LA, sa, wa, sb, wb, ↓xpd, ↓kl_p, Int.toNat_natCast, ints_length, hla, hlb]
def splitOK (a : Aut) (i j : Int) : Bool := autOK a.al a.nx a.ac && (decide (0 ≤ i) && decide (i < a.nx.length)) && (decide (0 ≤ j) && decide (j < a.nx.length))
def splitG (a : Aut) (i j : Int) : List Int × Bool := if splitOK a i j = true then twoG (fun x y => x != y) a a i j else ([], false)
theorem xm3 {L n : Nat} (hn : 1 ≤ n) (x y : Bool) : evCall env L n 89 [.d (.bool x), .d (.bool y)] [] = some (.d (.bool (x != y)), []) := by
 obtain ⟨n, rfl⟩ : ∃ m, n = m + 1 := ⟨n - 1, by omega⟩
 rw [xlx]
 simp only [xeu, Try.f89, SLM, simprocAttr]
 simp -implicitDefEqProofs (maxSteps := 2000000) (disch := first | assumption | (refine Shut.mk ?_; kernel_rfl) | omega | (simp only [GT]; done) | (simp only [LN] <;> omega) | fail) only [↓DN, ↓kAsg, ↓kRet, UP, simprocAttr, evBin_neqB]
 all_goals (cases x <;> cases y <;> rfl)
theorem x2z {R : Type} {L n : Nat} {hq : H} {k : A → H → Option R} (hn : 1 ≤ n) (x y : Bool) : kCall env (evCall env L n) hq 89 [.d (.bool x), .d (.bool y)] k = k (.d (.bool (x != y))) hq :=
 kCall_still rfl (xm3 hn x y) rfl (.inl rfl)
theorem xhj {L n : Nat} (hn : 9 ≤ n) (a : Aut) (i j : Int) (hs : rowsShort a.nx) (hac : a.ac.length ≤ 4294967296) (hL : 2 ^ 60 ≤ L) : evCall env L n 60 [.agg [.d (.int .i64 a.al), .d (.ivs a.nx.length (rowsD a.nx)), .d (.ivs a.ac.length (bools a.ac))], .d (.int .i64 i), .d (.int .i64 j)] [] = some (.tup [.d (.str (txt (splitG a i j).1)), .d (.bool (splitG a i j).2)], []) := by
 have hrl := hs.1
 unfold splitG splitOK
 cases hv : autOK a.al a.nx a.ac with
 | false =>
  simp only [Bool.false_and, Bool.false_eq_true, if_false, txt, List.map_nil]
  obtain ⟨n, rfl⟩ : ∃ m, n = m + 1 := ⟨n - 1, by omega⟩
  rw [x52]
  simp only [x46, Try.f60, SLM, simprocAttr]
  simp -implicitDefEqProofs (maxSteps := 2000000) (disch := first | assumption | (refine Shut.mk ?_; kernel_rfl) | omega | (simp only [GT]; done) | (simp only [LN] <;> omega) | fail) only [↓DN, ↓kAsg, ↓kRet, UP, simprocAttr, ↓xz, ↓x2z, ↓xy, ↓xa, ↓x8, ↓x9, LA, hv]
 | true =>
  by_cases h1 : 0 ≤ i
  ·by_cases h2 : i < a.nx.length
   ·by_cases h3 : 0 ≤ j
    ·by_cases h4 : j < a.nx.length
     ·simp only [h1, h2, h3, h4, decide_true, Bool.and_self, if_true]
      have kl_b := fun {R : Type} {n : Nat} {k : A → Option R} (hn : 8 ≤ n) => kLent_ev (call := evCall env L n) (k := k) (f := 88) (@xp7 L n hn hL a a (fun x y => x != y) 89 x6m (fun x y {R n hq k} hn => x2z hn x y) hv hv i j ⟨h1, h2⟩ ⟨h3, h4⟩) rfl
      have kv_l := fun {R : Type} {n : Nat} {hq : H} {args : List A} {k : A → H → Option R} => kCall_lent (E := env) (call := evCall env L n) (h := hq) (k := k) (args := args) x86
      generalize twoG (fun x y => x != y) a a i j = r at *
      have g1 : ¬ i < 0 := by omega
      have g2 : ¬ (a.nx.length : Int) ≤ i := by omega
      have g3 : ¬ j < 0 := by omega
      have g4 : ¬ (a.nx.length : Int) ≤ j := by omega
      obtain ⟨n, rfl⟩ : ∃ m, n = m + 1 := ⟨n - 1, by omega⟩
      rw [x52]
      simp only [x46, Try.f60, SLM, simprocAttr]
      simp -implicitDefEqProofs (maxSteps := 2000000) (disch := first | assumption | (refine Shut.mk ?_; kernel_rfl) | omega | (simp only [GT]; done) | (simp only [LN] <;> omega) | fail) only [↓DN, ↓kAsg, ↓kRet, UP, simprocAttr, ↓xz, ↓x2z, ↓xy, ↓xa, ↓x8, ↓x9, LA, hv, g1, g2, g3, g4, ↓kv_l, ↓kl_b]
     ·simp only [h1, h2, h3, h4, decide_true, decide_false, Bool.and_self, Bool.and_false, Bool.false_eq_true, if_false, txt, List.map_nil]
      have g1 : ¬ i < 0 := by omega
      have g2 : ¬ (a.nx.length : Int) ≤ i := by omega
      have g3 : ¬ j < 0 := by omega
      have g4 : (a.nx.length : Int) ≤ j := by omega
      obtain ⟨n, rfl⟩ : ∃ m, n = m + 1 := ⟨n - 1, by omega⟩
      rw [x52]
      simp only [x46, Try.f60, SLM, simprocAttr]
      simp -implicitDefEqProofs (maxSteps := 2000000) (disch := first | assumption | (refine Shut.mk ?_; kernel_rfl) | omega | (simp only [GT]; done) | (simp only [LN] <;> omega) | fail) only [↓DN, ↓kAsg, ↓kRet, UP, simprocAttr, ↓xz, ↓x2z, ↓xy, ↓xa, ↓x8, ↓x9, LA, hv, g1, g2, g3, g4]
    ·simp only [h1, h2, h3, decide_true, decide_false, Bool.and_self, Bool.and_false, Bool.false_and, Bool.false_eq_true, if_false, txt, List.map_nil]
     have g1 : ¬ i < 0 := by omega
     have g2 : ¬ (a.nx.length : Int) ≤ i := by omega
     have g3 : j < 0 := by omega
     obtain ⟨n, rfl⟩ : ∃ m, n = m + 1 := ⟨n - 1, by omega⟩
     rw [x52]
     simp only [x46, Try.f60, SLM, simprocAttr]
     simp -implicitDefEqProofs (maxSteps := 2000000) (disch := first | assumption | (refine Shut.mk ?_; kernel_rfl) | omega | (simp only [GT]; done) | (simp only [LN] <;> omega) | fail) only [↓DN, ↓kAsg, ↓kRet, UP, simprocAttr, ↓xz, ↓x2z, ↓xy, ↓xa, ↓x8, ↓x9, LA, hv, g1, g2, g3]
   ·simp only [h1, h2, decide_true, decide_false, Bool.and_self, Bool.and_false, Bool.false_and, Bool.false_eq_true, if_false, txt, List.map_nil]
    have g1 : ¬ i < 0 := by omega
    have g2 : (a.nx.length : Int) ≤ i := by omega
    obtain ⟨n, rfl⟩ : ∃ m, n = m + 1 := ⟨n - 1, by omega⟩
    rw [x52]
    simp only [x46, Try.f60, SLM, simprocAttr]
    simp -implicitDefEqProofs (maxSteps := 2000000) (disch := first | assumption | (refine Shut.mk ?_; kernel_rfl) | omega | (simp only [GT]; done) | (simp only [LN] <;> omega) | fail) only [↓DN, ↓kAsg, ↓kRet, UP, simprocAttr, ↓xz, ↓x2z, ↓xy, ↓xa, ↓x8, ↓x9, LA, hv, g1, g2]
  ·simp only [h1, decide_true, decide_false, Bool.and_self, Bool.and_false, Bool.false_and, Bool.false_eq_true, if_false, txt, List.map_nil]
   have g1 : i < 0 := by omega
   obtain ⟨n, rfl⟩ : ∃ m, n = m + 1 := ⟨n - 1, by omega⟩
   rw [x52]
   simp only [x46, Try.f60, SLM, simprocAttr]
   simp -implicitDefEqProofs (maxSteps := 2000000) (disch := first | assumption | (refine Shut.mk ?_; kernel_rfl) | omega | (simp only [GT]; done) | (simp only [LN] <;> omega) | fail) only [↓DN, ↓kAsg, ↓kRet, UP, simprocAttr, ↓xz, ↓x2z, ↓xy, ↓xa, ↓x8, ↓x9, LA, hv, g1]
theorem x55 {R : Type} {L n : Nat} {hq : H} {k : A → H → Option R} (hn : 9 ≤ n) (a : Aut) (i j : Int) (hs : rowsShort a.nx) (hac : a.ac.length ≤ 4294967296) (hL : 2 ^ 60 ≤ L) : kCall env (evCall env L n) hq 60 [.agg [.d (.int .i64 a.al), .d (.ivs a.nx.length (rowsD a.nx)), .d (.ivs a.ac.length (bools a.ac))], .d (.int .i64 i), .d (.int .i64 j)] k = k (.tup [.d (.str (txt (splitG a i j).1)), .d (.bool (splitG a i j).2)]) hq :=
 kCall_still rfl (xhj hn a i j hs hac hL) rfl (.inl rfl)
theorem x39 {R : Type} {L n : Nat} {k : A → Option R} (hn : 9 ≤ n) (a : Aut) (i j : Int) (hs : rowsShort a.nx) (hac : a.ac.length ≤ 4294967296) (hL : 2 ^ 60 ≤ L) : kLent (evCall env L n) 60 [.agg [.d (.int .i64 a.al), .d (.ivs a.nx.length (rowsD a.nx)), .d (.ivs a.ac.length (bools a.ac))], .d (.int .i64 i), .d (.int .i64 j)] k = k (.tup [.d (.str (txt (splitG a i j).1)), .d (.bool (splitG a i j).2)]) :=
 kLent_ev (xhj hn a i j hs hac hL) rfl
theorem x2n {R : Type} {L n : Nat} {hq : H} {k : A → H → Option R} {id0 g0 o0 len0 : Nat} {a : Aut} {i j : Int} : kCall env (evCall env L n) hq 60 [.agg [.d (.int .i64 a.al), .sl id0 g0 o0 len0, .d (.ivs a.ac.length (bools a.ac))], .d (.int .i64 i), .d (.int .i64 j)] k = match box (lentA hq [.agg [.d (.int .i64 a.al), .sl id0 g0 o0 len0, .d (.ivs a.ac.length (bools a.ac))], .d (.int .i64 i), .d (.int .i64 j)]) with
  | .mk (some fs) => kLent (evCall env L n) 60 fs fun r => k r hq
  | _ => none := kCall_lent x59
theorem x2q {R : Type} {L n : Nat} {hq : H} {k : A → H → Option R} {id1 g1 o1 len1 : Nat} {a : Aut} {i j : Int} : kCall env (evCall env L n) hq 60 [.agg [.d (.int .i64 a.al), .d (.ivs a.nx.length (rowsD a.nx)), .sl id1 g1 o1 len1], .d (.int .i64 i), .d (.int .i64 j)] k = match box (lentA hq [.agg [.d (.int .i64 a.al), .d (.ivs a.nx.length (rowsD a.nx)), .sl id1 g1 o1 len1], .d (.int .i64 i), .d (.int .i64 j)]) with
  | .mk (some fs) => kLent (evCall env L n) 60 fs fun r => k r hq
  | _ => none := kCall_lent x59
theorem x2p {R : Type} {L n : Nat} {hq : H} {k : A → H → Option R} {id1 g1 o1 len1 : Nat} {id0 g0 o0 len0 : Nat} {a : Aut} {i j : Int} : kCall env (evCall env L n) hq 60 [.agg [.d (.int .i64 a.al), .sl id0 g0 o0 len0, .sl id1 g1 o1 len1], .d (.int .i64 i), .d (.int .i64 j)] k = match box (lentA hq [.agg [.d (.int .i64 a.al), .sl id0 g0 o0 len0, .sl id1 g1 o1 len1], .d (.int .i64 i), .d (.int .i64 j)]) with
  | .mk (some fs) => kLent (evCall env L n) 60 fs fun r => k r hq
  | _ => none := kCall_lent x59
theorem xmp {L n : Nat} (hn : 1 ≤ n) (al : Int) (rs : List (List Int)) (z : Nat) (cs : List D) (hrl : rs.length ≤ 4294967296) (i : Int) : evCall env L n 85 [.agg [.d (.int .i64 al), .d (.ivs rs.length (rowsD rs)), .d (.ivs z cs)], .d (.int .i64 i)] [] = some (.d (.bool (decide (0 ≤ i) && decide (i < rs.length))), []) := by
 by_cases h1 : 0 ≤ i
 ·by_cases h2 : i < rs.length
  ·simp only [h1, h2, decide_true, Bool.and_self]
   obtain ⟨n, rfl⟩ : ∃ m, n = m + 1 := ⟨n - 1, by omega⟩
   rw [xhd]
   simp only [xe7, Try.f85, SLM, simprocAttr]
   simp -implicitDefEqProofs (maxSteps := 2000000) (disch := first | assumption | (refine Shut.mk ?_; kernel_rfl) | omega | (simp only [GT]; done) | (simp only [LN] <;> omega) | fail) only [↓DN, ↓kAsg, ↓kRet, UP, simprocAttr, LA, h1, h2]
  ·simp only [h1, h2, decide_true, decide_false, Bool.and_false]
   obtain ⟨n, rfl⟩ : ∃ m, n = m + 1 := ⟨n - 1, by omega⟩
   rw [xhd]
   simp only [xe7, Try.f85, SLM, simprocAttr]
   simp -implicitDefEqProofs (maxSteps := 2000000) (disch := first | assumption | (refine Shut.mk ?_; kernel_rfl) | omega | (simp only [GT]; done) | (simp only [LN] <;> omega) | fail) only [↓DN, ↓kAsg, ↓kRet, UP, simprocAttr, LA, h1, h2]
 ·simp only [h1, decide_false, Bool.false_and]
  obtain ⟨n, rfl⟩ : ∃ m, n = m + 1 := ⟨n - 1, by omega⟩
  rw [xhd]
  simp only [xe7, Try.f85, SLM, simprocAttr]
  simp -implicitDefEqProofs (maxSteps := 2000000) (disch := first | assumption | (refine Shut.mk ?_; kernel_rfl) | omega | (simp only [GT]; done) | (simp only [LN] <;> omega) | fail) only [↓DN, ↓kAsg, ↓kRet, UP, simprocAttr, LA, h1]
theorem xbk {R : Type} {L n : Nat} {hq : H} {k : A → H → Option R} (hn : 1 ≤ n) (al : Int) (rs : List (List Int)) (z : Nat) (cs : List D) (hrl : rs.length ≤ 4294967296) (i : Int) : kCall env (evCall env L n) hq 85 [.agg [.d (.int .i64 al), .d (.ivs rs.length (rowsD rs)), .d (.ivs z cs)], .d (.int .i64 i)] k = k (.d (.bool (decide (0 ≤ i) && decide (i < rs.length)))) hq :=
 kCall_still rfl (xmp hn al rs z cs hrl i) rfl (.inl rfl)
theorem xca {R : Type} {L n : Nat} {k : A → Option R} (hn : 1 ≤ n) (al : Int) (rs : List (List Int)) (z : Nat) (cs : List D) (hrl : rs.length ≤ 4294967296) (i : Int) : kLent (evCall env L n) 85 [.agg [.d (.int .i64 al), .d (.ivs rs.length (rowsD rs)), .d (.ivs z cs)], .d (.int .i64 i)] k = k (.d (.bool (decide (0 ≤ i) && decide (i < rs.length)))) :=
 kLent_ev (xmp hn al rs z cs hrl i) rfl
theorem x8y {R : Type} {L n : Nat} {hq : H} {k : A → H → Option R} {id0 g0 o0 len0 : Nat} {al : Int} {z : Nat} {cs : List D} {i : Int} : kCall env (evCall env L n) hq 85 [.agg [.d (.int .i64 al), .sl id0 g0 o0 len0, .d (.ivs z cs)], .d (.int .i64 i)] k = match box (lentA hq [.agg [.d (.int .i64 al), .sl id0 g0 o0 len0, .d (.ivs z cs)], .d (.int .i64 i)]) with
  | .mk (some fs) => kLent (evCall env L n) 85 fs fun r => k r hq
  | _ => none := kCall_lent x6r
theorem x8z {R : Type} {L n : Nat} {hq : H} {k : A → H → Option R} {id1 g1 o1 len1 : Nat} {al : Int} {rs : List (List Int)} {i : Int} : kCall env (evCall env L n) hq 85 [.agg [.d (.int .i64 al), .d (.ivs rs.length (rowsD rs)), .sl id1 g1 o1 len1], .d (.int .i64 i)] k = match box (lentA hq [.agg [.d (.int .i64 al), .d (.ivs rs.length (rowsD rs)), .sl id1 g1 o1 len1], .d (.int .i64 i)]) with
  | .mk (some fs) => kLent (evCall env L n) 85 fs fun r => k r hq
  | _ => none := kCall_lent x6r
theorem x8u {R : Type} {L n : Nat} {hq : H} {k : A → H → Option R} {id1 g1 o1 len1 : Nat} {id0 g0 o0 len0 : Nat} {al : Int} {i : Int} : kCall env (evCall env L n) hq 85 [.agg [.d (.int .i64 al), .sl id0 g0 o0 len0, .sl id1 g1 o1 len1], .d (.int .i64 i)] k = match box (lentA hq [.agg [.d (.int .i64 al), .sl id0 g0 o0 len0, .sl id1 g1 o1 len1], .d (.int .i64 i)]) with
  | .mk (some fs) => kLent (evCall env L n) 85 fs fun r => k r hq
  | _ => none := kCall_lent x6r
theorem xhq {L n : Nat} (hn : 12 ≤ n) (a : Aut) (i j : Int) (hs : rowsShort a.nx) (hac : a.ac.length ≤ 4294967296) (hL : 2 ^ 60 ≤ L) : evCall env L n 56 [.agg [.d (.int .i64 a.al), .d (.ivs a.nx.length (rowsD a.nx)), .d (.ivs a.ac.length (bools a.ac))], .d (.int .i64 i), .d (.int .i64 j)] [] = some (.tup [.d (.str (txt (splitG a i j).1)), .d (.bool (splitG a i j).2)], []) := by
 have hrl := hs.1
 unfold splitG splitOK
 cases hv : autOK a.al a.nx a.ac with
 | false =>
  simp only [Bool.false_and, Bool.false_eq_true, if_false, txt, List.map_nil]
  obtain ⟨n, rfl⟩ : ∃ m, n = m + 1 := ⟨n - 1, by omega⟩
  rw [x7a]
  simp only [x64, Try.f56, SLM, simprocAttr]
  simp -implicitDefEqProofs (maxSteps := 2000000) (disch := first | assumption | (refine Shut.mk ?_; kernel_rfl) | omega | (simp only [GT]; done) | (simp only [LN] <;> omega) | fail) only [↓DN, ↓kAsg, ↓kRet, UP, simprocAttr, ↓x18, ↓xbk, ↓x19, ↓xca, ↓x13, ↓x11, ↓x12, ↓x8y, ↓x8z, ↓x8u, LA, hv]
 | true =>
  by_cases h1 : 0 ≤ i ∧ i < a.nx.length
  ·by_cases h3 : 0 ≤ j ∧ j < a.nx.length
   ·obtain ⟨h1, h2⟩ := h1
    obtain ⟨h3, h4⟩ := h3
    simp only [h1, h2, h3, h4, decide_true, Bool.and_self, if_true]
    have kc_b := fun {R : Type} {n : Nat} {k : A → Option R} (hn : 11 ≤ n) => kLent_ev (call := evCall env L n) (k := k) (f := 86) (@xt4 L n hn hL a a i j 1 hv hv rfl ⟨h1, h2⟩ ⟨h3, h4⟩ (.inl rfl)) rfl
    simp only [if_true, autsD, ints, List.map_cons, List.map_nil] at kc_b
    have kl_b := fun {R : Type} {n : Nat} {k : A → Option R} (hn : 11 ≤ n) => kc_b (R := R) (n := n) (k := k) hn
    have kv_l := fun {R : Type} {n : Nat} {hq : H} {args : List A} {k : A → H → Option R} => kCall_lent (E := env) (call := evCall env L n) (h := hq) (k := k) (args := args) xe0
    clear kc_b
    generalize twoG (fun x y => x != y) a a i j = r at *
    obtain ⟨n, rfl⟩ : ∃ m, n = m + 1 := ⟨n - 1, by omega⟩
    rw [x7a]
    simp only [x64, Try.f56, SLM, simprocAttr]
    simp -implicitDefEqProofs (maxSteps := 2000000) (disch := first | assumption | (refine Shut.mk ?_; kernel_rfl) | omega | (simp only [GT]; done) | (simp only [LN] <;> omega) | fail) only [↓DN, ↓kAsg, ↓kRet, UP, simprocAttr, ↓x18, ↓xbk, ↓x19, ↓xca, ↓x13, ↓x11, ↓x12, ↓x8y, ↓x8z, ↓x8u, LA, hv, h1, h2, h3, h4, decide_true, Bool.and_self, ↓kv_l, ↓kl_b]
   ·have e3 : (decide (0 ≤ j) && decide (j < a.nx.length)) = false := by
     rw [Bool.and_eq_false_iff, decide_eq_false_iff_not, decide_eq_false_iff_not]; omega
    obtain ⟨h1, h2⟩ := h1
    simp only [h1, h2, e3, decide_true, Bool.and_self, Bool.and_false, Bool.false_eq_true, if_false, txt, List.map_nil]
    obtain ⟨n, rfl⟩ : ∃ m, n = m + 1 := ⟨n - 1, by omega⟩
    rw [x7a]
    simp only [x64, Try.f56, SLM, simprocAttr]
    simp -implicitDefEqProofs (maxSteps := 2000000) (disch := first | assumption | (refine Shut.mk ?_; kernel_rfl) | omega | (simp only [GT]; done) | (simp only [LN] <;> omega) | fail) only [↓DN, ↓kAsg, ↓kRet, UP, simprocAttr, ↓x18, ↓xbk, ↓x19, ↓xca, ↓x13, ↓x11, ↓x12, ↓x8y, ↓x8z, ↓x8u, LA, hv, h1, h2, e3, decide_true, Bool.and_self]
  ·have e3 : (decide (0 ≤ i) && decide (i < a.nx.length)) = false := by
    rw [Bool.and_eq_false_iff, decide_eq_false_iff_not, decide_eq_false_iff_not]; omega
   simp only [e3, Bool.and_false, Bool.false_and, Bool.false_eq_true, if_false, txt, List.map_nil]
   obtain ⟨n, rfl⟩ : ∃ m, n = m + 1 := ⟨n - 1, by omega⟩
   rw [x7a]
   simp only [x64, Try.f56, SLM, simprocAttr]
   simp -implicitDefEqProofs (maxSteps := 2000000) (disch := first | assumption | (refine Shut.mk ?_; kernel_rfl) | omega | (simp only [GT]; done) | (simp only [LN] <;> omega) | fail) only [↓DN, ↓kAsg, ↓kRet, UP, simprocAttr, ↓x18, ↓xbk, ↓x19, ↓xca, ↓x13, ↓x11, ↓x12, ↓x8y, ↓x8z, ↓x8u, LA, hv, e3]
theorem x53 {R : Type} {L n : Nat} {hq : H} {k : A → H → Option R} (hn : 12 ≤ n) (a : Aut) (i j : Int) (hs : rowsShort a.nx) (hac : a.ac.length ≤ 4294967296) (hL : 2 ^ 60 ≤ L) : kCall env (evCall env L n) hq 56 [.agg [.d (.int .i64 a.al), .d (.ivs a.nx.length (rowsD a.nx)), .d (.ivs a.ac.length (bools a.ac))], .d (.int .i64 i), .d (.int .i64 j)] k = k (.tup [.d (.str (txt (splitG a i j).1)), .d (.bool (splitG a i j).2)]) hq :=
 kCall_still rfl (xhq hn a i j hs hac hL) rfl (.inl rfl)
theorem x3c {R : Type} {L n : Nat} {k : A → Option R} (hn : 12 ≤ n) (a : Aut) (i j : Int) (hs : rowsShort a.nx) (hac : a.ac.length ≤ 4294967296) (hL : 2 ^ 60 ≤ L) : kLent (evCall env L n) 56 [.agg [.d (.int .i64 a.al), .d (.ivs a.nx.length (rowsD a.nx)), .d (.ivs a.ac.length (bools a.ac))], .d (.int .i64 i), .d (.int .i64 j)] k = k (.tup [.d (.str (txt (splitG a i j).1)), .d (.bool (splitG a i j).2)]) :=
 kLent_ev (xhq hn a i j hs hac hL) rfl
theorem x2k {R : Type} {L n : Nat} {hq : H} {k : A → H → Option R} {id0 g0 o0 len0 : Nat} {a : Aut} {i j : Int} : kCall env (evCall env L n) hq 56 [.agg [.d (.int .i64 a.al), .sl id0 g0 o0 len0, .d (.ivs a.ac.length (bools a.ac))], .d (.int .i64 i), .d (.int .i64 j)] k = match box (lentA hq [.agg [.d (.int .i64 a.al), .sl id0 g0 o0 len0, .d (.ivs a.ac.length (bools a.ac))], .d (.int .i64 i), .d (.int .i64 j)]) with
  | .mk (some fs) => kLent (evCall env L n) 56 fs fun r => k r hq
  | _ => none := kCall_lent x5b
theorem x2o {R : Type} {L n : Nat} {hq : H} {k : A → H → Option R} {id1 g1 o1 len1 : Nat} {a : Aut} {i j : Int} : kCall env (evCall env L n) hq 56 [.agg [.d (.int .i64 a.al), .d (.ivs a.nx.length (rowsD a.nx)), .sl id1 g1 o1 len1], .d (.int .i64 i), .d (.int .i64 j)] k = match box (lentA hq [.agg [.d (.int .i64 a.al), .d (.ivs a.nx.length (rowsD a.nx)), .sl id1 g1 o1 len1], .d (.int .i64 i), .d (.int .i64 j)]) with
  | .mk (some fs) => kLent (evCall env L n) 56 fs fun r => k r hq
  | _ => none := kCall_lent x5b
theorem x2l {R : Type} {L n : Nat} {hq : H} {k : A → H → Option R} {id1 g1 o1 len1 : Nat} {id0 g0 o0 len0 : Nat} {a : Aut} {i j : Int} : kCall env (evCall env L n) hq 56 [.agg [.d (.int .i64 a.al), .sl id0 g0 o0 len0, .sl id1 g1 o1 len1], .d (.int .i64 i), .d (.int .i64 j)] k = match box (lentA hq [.agg [.d (.int .i64 a.al), .sl id0 g0 o0 len0, .sl id1 g1 o1 len1], .d (.int .i64 i), .d (.int .i64 j)]) with
  | .mk (some fs) => kLent (evCall env L n) 56 fs fun r => k r hq
  | _ => none := kCall_lent x5b
end Ev
end Go.Proofs.Ytppdfjdfjfoddaa
end

/-!
  The words that separate an automaton's states, walked: the program's and the reference's.
-/
section
set_option linter.unusedSimpArgs false
set_option linter.unusedVariables false
set_option maxRecDepth 8000
set_option pp.maxSteps 6000
set_option maxHeartbeats 4000000
namespace Go.Proofs.Ytppdfjdfjfoddaa
namespace Ev
def sepJ (a : Aut) (i : Int) : Nat → Nat → List Str → List Str
 | 0, _, o => o
 | q + 1, j, o => if (splitG a i j).2 = true ∧ txt (splitG a i j).1 ∉ o then sepJ a i q (j + 1) (o ++ [txt (splitG a i j).1]) else sepJ a i q (j + 1) o
def sepA (a : Aut) : Nat → Nat → List Str → List Str
 | 0, _, o => o
 | q + 1, i, o => sepA a q (i + 1) (sepJ a i (a.nx.length - (i + 1)) (i + 1) o)
def sepW (a : Aut) : List Str := sepA a a.nx.length 0 [[]]
theorem sepJ_len {a : Aut} {i : Int} : ∀ (q j : Nat) (o : List Str), o.length ≤ (sepJ a i q j o).length ∧ (sepJ a i q j o).length ≤ o.length + q
 | 0, _, o => ⟨Nat.le_refl _, Nat.le_refl _⟩
 | q + 1, j, o => by
  unfold sepJ
  split
  ·have := sepJ_len (a := a) (i := i) q (j + 1) (o ++ [txt (splitG a i j).1]); simp at this ⊢; omega
  ·have := sepJ_len (a := a) (i := i) q (j + 1) o; omega
theorem sepA_len {a : Aut} : ∀ (q i : Nat) (o : List Str), o.length ≤ (sepA a q i o).length ∧ (sepA a q i o).length ≤ o.length + q * a.nx.length
 | 0, _, o => by simp [sepA]
 | q + 1, i, o => by
  unfold sepA
  have h1 := sepJ_len (a := a) (i := i) (a.nx.length - (i + 1)) (i + 1) o
  have h2 := sepA_len (a := a) q (i + 1) (sepJ a i (a.nx.length - (i + 1)) (i + 1) o)
  rw [Nat.succ_mul]
  omega
theorem sepW_len {a : Aut} (h : AOK a) : 1 ≤ (sepW a).length ∧ (sepW a).length ≤ 145 := by
 obtain ⟨_, _, h1, h2, _⟩ := aok_short h
 have := sepA_len (a := a) a.nx.length 0 [[]]
 have hm : a.nx.length * a.nx.length ≤ 12 * 12 := Nat.mul_le_mul h2 h2
 unfold sepW
 simp only [List.length_cons, List.length_nil] at this
 omega
theorem xhi {R : Type} {L n : Nat} (hn : 12 ≤ n) (hL : 2 ^ 60 ≤ L) {a : Aut} (ha : AOK a) {i : Nat} (hi : i < a.nx.length) {k : Exit → List A → H → Option R} : ∀ (q j m : Nat) (o : List Str) (len : Nat) (hq : j + q = a.nx.length) (hm : q < m) (hlen : len = o.length) (ho : o.length + q ≤ 100000),
  kLoop env (evCall env L n) L 0 [] (Z1 (U4 (U1 (Z32 (Z8 (Z1 ([]))))))) (x1k 1) (U1 (Z4 (Z1 (U32 (U8 (U1 ([]))))))) m (Y1 (.ptr 0 0 0 :: .d .nils :: .sl 1 0 0 len :: .d (.int .i64 ((i : Int))) :: .d (.int .i64 ((j : Int))) :: Y32 (Y8 (Y1 ([]))))) [.box [.d (.int .i64 a.al), .d (.ivs a.nx.length (rowsD a.nx)), .d (.ivs a.ac.length (bools a.ac))], .arr (strsL o) 1 0] k
  = k (.exit 2) (Y1 (.ptr 0 0 0 :: .d .nils :: .sl 1 0 0 (sepJ a i q j o).length :: .d (.int .i64 ((i : Int))) :: .d (.int .i64 (a.nx.length)) :: Y32 (Y8 (Y1 ([]))))) [.box [.d (.int .i64 a.al), .d (.ivs a.nx.length (rowsD a.nx)), .d (.ivs a.ac.length (bools a.ac))], .arr (strsL (sepJ a i q j o)) 1 0] := by
 obtain ⟨sa, wa, a1, a2, a3⟩ := aok_short ha
 have hac : a.ac.length ≤ 4294967296 := by omega
 intro q
 induction q with
 | zero =>
  intro j m o len hq hm hlen ho
  obtain ⟨m, rfl⟩ : ∃ q, m = q + 1 := ⟨m - 1, by omega⟩
  obtain rfl : j = a.nx.length := by omega
  subst hlen
  rw [x4b]
  simp only [x3v, Try.f17, SLM, simprocAttr]
  simp -implicitDefEqProofs (maxSteps := 2000000) (disch := first | assumption | (refine Shut.mk ?_; kernel_rfl) | omega | (simp only [GT]; done) | (simp only [LN] <;> omega) | fail) only [↓DN, ↓kAsg, ↓kRet, UP, simprocAttr, ↓x18, ↓x53, ↓x67, ↓x19, ↓x3c, ↓x8w, ↓x13, ↓x11, ↓x12, ↓x2k, ↓x2o, ↓x2l, ↓x5d, LA, SE, Int.lt_irrefl]
  rfl
 | succ q ih =>
  intro j m o len hq hm hlen ho
  obtain ⟨m, rfl⟩ : ∃ q, m = q + 1 := ⟨m - 1, by omega⟩
  subst hlen
  have hc : (j : Int) < a.nx.length := by omega
  have kc_s := fun {R : Type} {n : Nat} {hq : H} {k : A → H → Option R} (hn : 12 ≤ n) => @x53 R L n hq k hn a i j sa hac hL
  have hal := sa.1
  simp only [sepJ]
  generalize splitG a i j = r at *
  obtain ⟨w, b⟩ := r
  simp only at kc_s ⊢
  have kl_i := fun {R : Type} {n : Nat} {k : A → Option R} (hn : 2 ≤ n) => @x8w R L n k hn o (txt w) (by omega) hL
  cases b with
  | false =>
   have ih' := ih (j + 1) m o o.length (by omega) (by omega) rfl (by omega)
   rw [show ((j + 1 : Nat) : Int) = (j : Int) + 1 by omega] at ih'
   rw [if_neg fun h => by cases h.1]
   clear ih
   rw [x4b]
   simp only [x3v, Try.f17, SLM, simprocAttr]
   simp -implicitDefEqProofs (maxSteps := 2000000) (disch := first | assumption | (refine Shut.mk ?_; kernel_rfl) | omega | (simp only [GT]; done) | (simp only [LN] <;> omega) | fail) only [↓DN, ↓kAsg, ↓kRet, UP, simprocAttr, ↓x18, ↓x67, ↓x19, ↓x3c, ↓x13, ↓x11, ↓x12, ↓x2k, ↓x2o, ↓x2l, ↓x5d, LA, SE, hc, ↓kc_s, ↓ih']
  | true =>
   by_cases h : txt w ∈ o
   ·have ih' := ih (j + 1) m o o.length (by omega) (by omega) rfl (by omega)
    rw [show ((j + 1 : Nat) : Int) = (j : Int) + 1 by omega] at ih'
    rw [if_neg fun h2 => h2.2 h]
    rw [decide_eq_true h] at kl_i
    clear ih
    rw [x4b]
    simp only [x3v, Try.f17, SLM, simprocAttr]
    simp -implicitDefEqProofs (maxSteps := 2000000) (disch := first | assumption | (refine Shut.mk ?_; kernel_rfl) | omega | (simp only [GT]; done) | (simp only [LN] <;> omega) | fail) only [↓DN, ↓kAsg, ↓kRet, UP, simprocAttr, ↓x18, ↓x67, ↓x19, ↓x3c, ↓x13, ↓x11, ↓x12, ↓x2k, ↓x2o, ↓x2l, ↓x5d, LA, SE, hc, ↓kc_s, ↓kl_i, ↓ih']
   ·have ih' := ih (j + 1) m (o ++ [txt w]) (o.length + 1) (by omega) (by omega) (by simp) (by simp; omega)
    rw [show ((j + 1 : Nat) : Int) = (j : Int) + 1 by omega] at ih'
    rw [if_pos ⟨rfl, h⟩]
    rw [decide_eq_false h] at kl_i
    clear ih
    rw [x4b]
    simp only [x3v, Try.f17, SLM, simprocAttr]
    simp -implicitDefEqProofs (maxSteps := 2000000) (disch := first | assumption | (refine Shut.mk ?_; kernel_rfl) | omega | (simp only [GT]; done) | (simp only [LN] <;> omega) | fail) only [↓DN, ↓kAsg, ↓kRet, UP, simprocAttr, ↓x18, ↓x67, ↓x19, ↓x3c, ↓x13, ↓x11, ↓x12, ↓x2k, ↓x2o, ↓x2l, ↓x5d, LA, SE, hc, ↓kc_s, ↓kl_i, strsL_take, strsL_snoc, List.length_append, ↓ih']
theorem xgl {R : Type} {L n : Nat} (hn : 12 ≤ n) (hL : 2 ^ 60 ≤ L) {a : Aut} (ha : AOK a) {k : Exit → List A → H → Option R} : ∀ (q i m : Nat) (o : List Str) (len : Nat) (hq : i + q = a.nx.length) (hm : q < m) (hlen : len = o.length) (ho : o.length + q * 12 ≤ 10000),
  kLoop env (evCall env L n) L 0 [] (Z1 (U4 (U1 (Z32 (Z8 (Z1 ([]))))))) (x1k 0) (U1 (Z4 (U32 (U8 (U2 ([])))))) m (Y1 (.ptr 0 0 0 :: .d .nils :: .sl 1 0 0 len :: .d (.int .i64 ((i : Int))) :: Y32 (Y8 (Y2 ([]))))) [.box [.d (.int .i64 a.al), .d (.ivs a.nx.length (rowsD a.nx)), .d (.ivs a.ac.length (bools a.ac))], .arr (strsL o) 1 0] k
  = k (.exit 0) (Y1 (.ptr 0 0 0 :: .d .nils :: .sl 1 0 0 (sepA a q i o).length :: .d (.int .i64 (a.nx.length)) :: Y32 (Y8 (Y2 ([]))))) [.box [.d (.int .i64 a.al), .d (.ivs a.nx.length (rowsD a.nx)), .d (.ivs a.ac.length (bools a.ac))], .arr (strsL (sepA a q i o)) 1 0] := by
 obtain ⟨sa, wa, a1, a2, a3⟩ := aok_short ha
 intro q
 induction q with
 | zero =>
  intro i m o len hq hm hlen ho
  obtain ⟨m, rfl⟩ : ∃ q, m = q + 1 := ⟨m - 1, by omega⟩
  obtain rfl : i = a.nx.length := by omega
  subst hlen
  rw [x8q]
  simp only [x6l, Try.f17, SLM, simprocAttr]
  simp -implicitDefEqProofs (maxSteps := 2000000) (disch := first | assumption | (refine Shut.mk ?_; kernel_rfl) | omega | (simp only [GT]; done) | (simp only [LN] <;> omega) | fail) only [↓DN, ↓kAsg, ↓kRet, UP, simprocAttr, ↓x18, ↓x53, ↓x67, ↓x19, ↓x3c, ↓x8w, ↓x13, ↓x11, ↓x12, ↓x2k, ↓x2o, ↓x2l, ↓x5d, LA, SE, Int.lt_irrefl]
  rfl
 | succ q ih =>
  intro i m o len hq hm hlen ho
  obtain ⟨m, rfl⟩ : ∃ q, m = q + 1 := ⟨m - 1, by omega⟩
  subst hlen
  have hc : (i : Int) < a.nx.length := by omega
  have loop_c := fun {R : Type} {n : Nat} {k : Exit → List A → H → Option R} (hn : 12 ≤ n) => @xhi R L n hn hL a ha i (by omega) k (a.nx.length - (i + 1)) (i + 1) L o o.length (by omega) (by omega) rfl (by omega)
  rw [show ((i + 1 : Nat) : Int) = (i : Int) + 1 by omega] at loop_c
  have hl := (sepJ_len (a := a) (i := i) (a.nx.length - (i + 1)) (i + 1) o).2
  have ih' := ih (i + 1) m (sepJ a i (a.nx.length - (i + 1)) (i + 1) o) _ (by omega) (by omega) rfl (by omega)
  rw [show ((i + 1 : Nat) : Int) = (i : Int) + 1 by omega] at ih'
  simp only [sepA]
  clear ih
  generalize sepJ a i (a.nx.length - (i + 1)) (i + 1) o = w at *
  rw [x8q]
  simp only [x6l, Try.f17, SLM, simprocAttr]
  simp -implicitDefEqProofs (maxSteps := 2000000) (disch := first | assumption | (refine Shut.mk ?_; kernel_rfl) | omega | (simp only [GT]; done) | (simp only [LN] <;> omega) | fail) only [↓DN, ↓kAsg, ↓kRet, UP, simprocAttr, ↓x18, ↓x53, ↓x67, ↓x19, ↓x3c, ↓x8w, ↓x13, ↓x11, ↓x12, ↓x2k, ↓x2o, ↓x2l, ↓x5d, LA, SE, hc, ↓loop_c, ↓ih']
def sepR (a : Aut) : List Str := if autOK a.al a.nx a.ac = true then sepW a else []
theorem x70 {L n : Nat} (hn : 13 ≤ n) (a : Aut) (hs : rowsShort a.nx) (hac : a.ac.length ≤ 4294967296) (hL : 2 ^ 60 ≤ L) : evCall env L n 17 [.agg [.d (.int .i64 a.al), .d (.ivs a.nx.length (rowsD a.nx)), .d (.ivs a.ac.length (bools a.ac))]] [] = some (.d (.ivs (sepR a).length (strsL (sepR a))), []) := by
 have hrl := hs.1
 unfold sepR
 cases hv : autOK a.al a.nx a.ac with
 | false =>
  simp only [Bool.false_eq_true, if_false, List.length_nil, strsL_nil]
  obtain ⟨n, rfl⟩ : ∃ m, n = m + 1 := ⟨n - 1, by omega⟩
  rw [xbo]
  simp only [x7m, Try.f17, SLM, simprocAttr]
  simp -implicitDefEqProofs (maxSteps := 2000000) (disch := first | assumption | (refine Shut.mk ?_; kernel_rfl) | omega | (simp only [GT]; done) | (simp only [LN] <;> omega) | fail) only [↓DN, ↓kAsg, ↓kRet, UP, simprocAttr, ↓x18, ↓x53, ↓x67, ↓x19, ↓x3c, ↓x8w, ↓x13, ↓x11, ↓x12, ↓x2k, ↓x2o, ↓x2l, ↓x5d, LA, hv]
 | true =>
  obtain ⟨sa, wa, a1, a2, a3⟩ := aok_short hv
  have loop_c := fun {R : Type} {n : Nat} {k : Exit → List A → H → Option R} (hn : 12 ≤ n) => @xgl R L n hn hL a hv k a.nx.length 0 L [[]] 1 (by omega) (by omega) rfl (by simp; omega)
  have e : strsL [[]] = [.str []] := rfl
  have e2 : sepA a a.nx.length 0 [[]] = sepW a := rfl
  rw [e, e2] at loop_c
  have hl := sepW_len hv
  simp only [if_true, Int.natCast_zero] at loop_c ⊢
  generalize sepW a = w at *
  have e4 : (strsL w).take w.length = strsL w := strsL_take (Nat.le_refl _)
  obtain ⟨n, rfl⟩ : ∃ m, n = m + 1 := ⟨n - 1, by omega⟩
  rw [xbo]
  simp only [x7m, Try.f17, SLM, simprocAttr]
  simp -implicitDefEqProofs (maxSteps := 2000000) (disch := first | assumption | (refine Shut.mk ?_; kernel_rfl) | omega | (simp only [GT]; done) | (simp only [LN] <;> omega) | fail) only [↓DN, ↓kAsg, ↓kRet, UP, simprocAttr, ↓x18, ↓x53, ↓x67, ↓x19, ↓x3c, ↓x8w, ↓x13, ↓x11, ↓x12, ↓x2k, ↓x2o, ↓x2l, ↓x5d, LA, SE, hv, e4, ↓loop_c]
theorem xkq {R : Type} {L n : Nat} {hq : H} {k : A → H → Option R} (hn : 13 ≤ n) (a : Aut) (hs : rowsShort a.nx) (hac : a.ac.length ≤ 4294967296) (hL : 2 ^ 60 ≤ L) : kCall env (evCall env L n) hq 17 [.agg [.d (.int .i64 a.al), .d (.ivs a.nx.length (rowsD a.nx)), .d (.ivs a.ac.length (bools a.ac))]] k = k (.d (.ivs (sepR a).length (strsL (sepR a)))) hq :=
 kCall_still rfl (x70 hn a hs hac hL) rfl (.inr rfl)
theorem xht {R : Type} {L n : Nat} (hn : 9 ≤ n) (hL : 2 ^ 60 ≤ L) {a : Aut} (ha : AOK a) {i : Nat} (hi : i < a.nx.length) {k : Exit → List A → H → Option R} : ∀ (q j m : Nat) (o : List Str) (len : Nat) (hq : j + q = a.nx.length) (hm : q < m) (hlen : len = o.length) (ho : o.length + q ≤ 100000),
  kLoop env (evCall env L n) L 0 [] (Z1 (U4 (U1 (Z8 (U2 (Z16 (Z8 (Z4 (Z2 (Z1 ([]))))))))))) (x1l 1) (U1 (Z4 (Z1 (U8 (Z2 (U16 (U8 (U4 (U2 (U1 ([]))))))))))) m (Y1 (.ptr 0 0 0 :: .d .nils :: .sl 1 0 0 len :: .d (.int .i64 ((i : Int))) :: .d (.int .i64 ((j : Int))) :: Y8 (.d (.int .i64 (a.nx.length)) :: .d (.int .i64 ((i : Int))) :: Y16 (Y8 (Y4 (Y2 (Y1 ([])))))))) [.box [.d (.int .i64 a.al), .d (.ivs a.nx.length (rowsD a.nx)), .d (.ivs a.ac.length (bools a.ac))], .arr (strsL o) 1 0] k
  = k (.exit 2) (Y1 (.ptr 0 0 0 :: .d .nils :: .sl 1 0 0 (sepJ a i q j o).length :: .d (.int .i64 ((i : Int))) :: .d (.int .i64 (a.nx.length)) :: Y8 (.d (.int .i64 (a.nx.length)) :: .d (.int .i64 ((i : Int))) :: Y16 (Y8 (Y4 (Y2 (Y1 ([])))))))) [.box [.d (.int .i64 a.al), .d (.ivs a.nx.length (rowsD a.nx)), .d (.ivs a.ac.length (bools a.ac))], .arr (strsL (sepJ a i q j o)) 1 0] := by
 obtain ⟨sa, wa, a1, a2, a3⟩ := aok_short ha
 have hac : a.ac.length ≤ 4294967296 := by omega
 intro q
 induction q with
 | zero =>
  intro j m o len hq hm hlen ho
  obtain ⟨m, rfl⟩ : ∃ q, m = q + 1 := ⟨m - 1, by omega⟩
  obtain rfl : j = a.nx.length := by omega
  subst hlen
  rw [x4c]
  simp only [x3u, Try.f19, SLM, simprocAttr]
  simp -implicitDefEqProofs (maxSteps := 2000000) (disch := first | assumption | (refine Shut.mk ?_; kernel_rfl) | omega | (simp only [GT]; done) | (simp only [LN] <;> omega) | fail) only [↓DN, ↓kAsg, ↓kRet, UP, simprocAttr, ↓xz, ↓x55, ↓xx, ↓xy, ↓x39, ↓x1d, ↓xa, ↓x8, ↓x9, ↓x2n, ↓x2q, ↓x2p, ↓xm, LA, SE, Int.lt_irrefl]
  rfl
 | succ q ih =>
  intro j m o len hq hm hlen ho
  obtain ⟨m, rfl⟩ : ∃ q, m = q + 1 := ⟨m - 1, by omega⟩
  subst hlen
  have hc : (j : Int) < a.nx.length := by omega
  have kc_s := fun {R : Type} {n : Nat} {hq : H} {k : A → H → Option R} (hn : 9 ≤ n) => @x55 R L n hq k hn a i j sa hac hL
  have hal := sa.1
  simp only [sepJ]
  generalize splitG a i j = r at *
  obtain ⟨w, b⟩ := r
  simp only at kc_s ⊢
  have kl_i := fun {R : Type} {n : Nat} {k : A → Option R} (hn : 3 ≤ n) => @x1d R L n k hn o (txt w) (by omega) hL
  cases b with
  | false =>
   have ih' := ih (j + 1) m o o.length (by omega) (by omega) rfl (by omega)
   rw [show ((j + 1 : Nat) : Int) = (j : Int) + 1 by omega] at ih'
   rw [if_neg fun h => by cases h.1]
   clear ih
   rw [x4c]
   simp only [x3u, Try.f19, SLM, simprocAttr]
   simp -implicitDefEqProofs (maxSteps := 2000000) (disch := first | assumption | (refine Shut.mk ?_; kernel_rfl) | omega | (simp only [GT]; done) | (simp only [LN] <;> omega) | fail) only [↓DN, ↓kAsg, ↓kRet, UP, simprocAttr, ↓xz, ↓xx, ↓xy, ↓x39, ↓xa, ↓x8, ↓x9, ↓x2n, ↓x2q, ↓x2p, ↓xm, LA, SE, hc, ↓kc_s, ↓ih']
  | true =>
   by_cases h : txt w ∈ o
   ·have ih' := ih (j + 1) m o o.length (by omega) (by omega) rfl (by omega)
    rw [show ((j + 1 : Nat) : Int) = (j : Int) + 1 by omega] at ih'
    rw [if_neg fun h2 => h2.2 h]
    rw [decide_eq_true h] at kl_i
    clear ih
    rw [x4c]
    simp only [x3u, Try.f19, SLM, simprocAttr]
    simp -implicitDefEqProofs (maxSteps := 2000000) (disch := first | assumption | (refine Shut.mk ?_; kernel_rfl) | omega | (simp only [GT]; done) | (simp only [LN] <;> omega) | fail) only [↓DN, ↓kAsg, ↓kRet, UP, simprocAttr, ↓xz, ↓xx, ↓xy, ↓x39, ↓xa, ↓x8, ↓x9, ↓x2n, ↓x2q, ↓x2p, ↓xm, LA, SE, hc, ↓kc_s, ↓kl_i, ↓ih']
   ·have ih' := ih (j + 1) m (o ++ [txt w]) (o.length + 1) (by omega) (by omega) (by simp) (by simp; omega)
    rw [show ((j + 1 : Nat) : Int) = (j : Int) + 1 by omega] at ih'
    rw [if_pos ⟨rfl, h⟩]
    rw [decide_eq_false h] at kl_i
    clear ih
    rw [x4c]
    simp only [x3u, Try.f19, SLM, simprocAttr]
    simp -implicitDefEqProofs (maxSteps := 2000000) (disch := first | assumption | (refine Shut.mk ?_; kernel_rfl) | omega | (simp only [GT]; done) | (simp only [LN] <;> omega) | fail) only [↓DN, ↓kAsg, ↓kRet, UP, simprocAttr, ↓xz, ↓xx, ↓xy, ↓x39, ↓xa, ↓x8, ↓x9, ↓x2n, ↓x2q, ↓x2p, ↓xm, LA, SE, hc, ↓kc_s, ↓kl_i, strsL_take, strsL_snoc, List.length_append, ↓ih']
theorem xgk {R : Type} {L n : Nat} (hn : 9 ≤ n) (hL : 2 ^ 60 ≤ L) {a : Aut} (ha : AOK a) {k : Exit → List A → H → Option R} : ∀ (q i m : Nat) (o : List Str) (len : Nat) (hq : i + q = a.nx.length) (hm : q < m) (hlen : len = o.length) (ho : o.length + q * 12 ≤ 10000),
  kLoop env (evCall env L n) L 0 [] (Z1 (U4 (U1 (Z8 (U2 (Z16 (Z8 (Z4 (Z2 (Z1 ([]))))))))))) (x1l 0) (U1 (Z2 (Z1 (U8 (U2 (Z2 (U16 (U8 (U4 (U2 (U1 ([])))))))))))) m (Y1 (.ptr 0 0 0 :: .d .nils :: .sl 1 0 0 len :: Y8 (Y2 (.d (.int .i64 (a.nx.length)) :: .d (.int .i64 ((i : Int))) :: Y16 (Y8 (Y4 (Y2 (Y1 ([]))))))))) [.box [.d (.int .i64 a.al), .d (.ivs a.nx.length (rowsD a.nx)), .d (.ivs a.ac.length (bools a.ac))], .arr (strsL o) 1 0] k
  = k (.exit 0) (Y1 (.ptr 0 0 0 :: .d .nils :: .sl 1 0 0 (sepA a q i o).length :: Y8 (Y2 (.d (.int .i64 (a.nx.length)) :: .d (.int .i64 (a.nx.length)) :: Y16 (Y8 (Y4 (Y2 (Y1 ([]))))))))) [.box [.d (.int .i64 a.al), .d (.ivs a.nx.length (rowsD a.nx)), .d (.ivs a.ac.length (bools a.ac))], .arr (strsL (sepA a q i o)) 1 0] := by
 obtain ⟨sa, wa, a1, a2, a3⟩ := aok_short ha
 intro q
 induction q with
 | zero =>
  intro i m o len hq hm hlen ho
  obtain ⟨m, rfl⟩ : ∃ q, m = q + 1 := ⟨m - 1, by omega⟩
  obtain rfl : i = a.nx.length := by omega
  subst hlen
  rw [x8d]
  simp only [x6n, Try.f19, SLM, simprocAttr]
  simp -implicitDefEqProofs (maxSteps := 2000000) (disch := first | assumption | (refine Shut.mk ?_; kernel_rfl) | omega | (simp only [GT]; done) | (simp only [LN] <;> omega) | fail) only [↓DN, ↓kAsg, ↓kRet, UP, simprocAttr, ↓xz, ↓x55, ↓xx, ↓xy, ↓x39, ↓x1d, ↓xa, ↓x8, ↓x9, ↓x2n, ↓x2q, ↓x2p, ↓xm, LA, SE, Int.lt_irrefl]
  rfl
 | succ q ih =>
  intro i m o len hq hm hlen ho
  obtain ⟨m, rfl⟩ : ∃ q, m = q + 1 := ⟨m - 1, by omega⟩
  subst hlen
  have hc : (i : Int) < a.nx.length := by omega
  have loop_c := fun {R : Type} {n : Nat} {k : Exit → List A → H → Option R} (hn : 9 ≤ n) => @xht R L n hn hL a ha i (by omega) k (a.nx.length - (i + 1)) (i + 1) L o o.length (by omega) (by omega) rfl (by omega)
  rw [show ((i + 1 : Nat) : Int) = (i : Int) + 1 by omega] at loop_c
  have hl := (sepJ_len (a := a) (i := i) (a.nx.length - (i + 1)) (i + 1) o).2
  have ih' := ih (i + 1) m (sepJ a i (a.nx.length - (i + 1)) (i + 1) o) _ (by omega) (by omega) rfl (by omega)
  rw [show ((i + 1 : Nat) : Int) = (i : Int) + 1 by omega] at ih'
  simp only [sepA]
  clear ih
  generalize sepJ a i (a.nx.length - (i + 1)) (i + 1) o = w at *
  rw [x8d]
  simp only [x6n, Try.f19, SLM, simprocAttr]
  simp -implicitDefEqProofs (maxSteps := 2000000) (disch := first | assumption | (refine Shut.mk ?_; kernel_rfl) | omega | (simp only [GT]; done) | (simp only [LN] <;> omega) | fail) only [↓DN, ↓kAsg, ↓kRet, UP, simprocAttr, ↓xz, ↓x55, ↓xx, ↓xy, ↓x39, ↓x1d, ↓xa, ↓x8, ↓x9, ↓x2n, ↓x2q, ↓x2p, ↓xm, LA, SE, hc, ↓loop_c, ↓ih']
theorem xkp {L n : Nat} (hn : 10 ≤ n) (a : Aut) (hv : AOK a) (hL : 2 ^ 60 ≤ L) : evCall env L n 19 [.agg [.d (.int .i64 a.al), .d (.ivs a.nx.length (rowsD a.nx)), .d (.ivs a.ac.length (bools a.ac))]] [] = some (.sl 0 0 0 (sepW a).length, [.arr (strsL (sepW a)) 1 0]) := by
  obtain ⟨sa, wa, a1, a2, a3⟩ := aok_short hv
  have hrl := sa.1
  have hac : a.ac.length ≤ 4294967296 := by omega
  have loop_c := fun {R : Type} {n : Nat} {k : Exit → List A → H → Option R} (hn : 9 ≤ n) => @xgk R L n hn hL a hv k a.nx.length 0 L [[]] 1 (by omega) (by omega) rfl (by simp; omega)
  have e : strsL [[]] = [.str []] := rfl
  have e2 : sepA a a.nx.length 0 [[]] = sepW a := rfl
  rw [e, e2] at loop_c
  have hl := sepW_len hv
  unfold AOK at hv
  simp only [if_true, Int.natCast_zero] at loop_c ⊢
  generalize sepW a = w at *
  obtain ⟨n, rfl⟩ : ∃ m, n = m + 1 := ⟨n - 1, by omega⟩
  rw [xc9]
  simp only [x7o, Try.f19, SLM, simprocAttr]
  simp -implicitDefEqProofs (maxSteps := 2000000) (disch := first | assumption | (refine Shut.mk ?_; kernel_rfl) | omega | (simp only [GT]; done) | (simp only [LN] <;> omega) | fail) only [↓DN, ↓kAsg, ↓kRet, UP, simprocAttr, ↓xz, ↓x55, ↓xx, ↓xy, ↓x39, ↓x1d, ↓xa, ↓x8, ↓x9, ↓x2n, ↓x2q, ↓x2p, ↓xm, LA, SE, hv, ↓loop_c]
theorem xi2 {L n : Nat} (hn : 10 ≤ n) (a : Aut) (hv : autOK a.al a.nx a.ac = false) (hs : rowsShort a.nx) (hac : a.ac.length ≤ 4294967296) (hL : 2 ^ 60 ≤ L) : evCall env L n 19 [.agg [.d (.int .i64 a.al), .d (.ivs a.nx.length (rowsD a.nx)), .d (.ivs a.ac.length (bools a.ac))]] [] = some (.d (.ivs 0 []), []) := by
  have hrl := hs.1
  obtain ⟨n, rfl⟩ : ∃ m, n = m + 1 := ⟨n - 1, by omega⟩
  rw [xc9]
  simp only [x7o, Try.f19, SLM, simprocAttr]
  simp -implicitDefEqProofs (maxSteps := 2000000) (disch := first | assumption | (refine Shut.mk ?_; kernel_rfl) | omega | (simp only [GT]; done) | (simp only [LN] <;> omega) | fail) only [↓DN, ↓kAsg, ↓kRet, UP, simprocAttr, ↓xz, ↓x55, ↓xx, ↓xy, ↓x39, ↓x1d, ↓xa, ↓x8, ↓x9, ↓x2n, ↓x2q, ↓x2p, ↓xm, LA, SE, hv]
end Ev
end Go.Proofs.Ytppdfjdfjfoddaa
end
