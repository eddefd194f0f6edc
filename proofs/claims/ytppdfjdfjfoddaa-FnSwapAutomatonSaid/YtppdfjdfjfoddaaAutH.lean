/-
  The reference's step; automata with exchanged letters: the reference's.
-/
import Derived.Test.YtppdfjdfjfoddaaAutT
section
set_option linter.unusedSimpArgs false
set_option linter.unusedVariables false
set_option maxRecDepth 8000
set_option pp.maxSteps 6000
set_option maxHeartbeats 4000000
namespace Go.Proofs.Ytppdfjdfjfoddaa
namespace Ev
def cntB (a : Int) : Nat → Int → Nat
 | 0, _ => 0
 | j + 1, i => (if bitAt a i = true then 1 else 0) + cntB a j (i + 1)
theorem cntB_place {a l : Int} (h0 : 0 ≤ l) (h1 : l < 6) : cntB a l.toNat 0 = placeI a l := by
 unfold placeI letters
 generalize hp : bitAt a = p
 have e : ∀ i, bitAt a i = p i := fun i => by rw [hp]
 rcases six h0 h1 with rfl | rfl | rfl | rfl | rfl | rfl <;>
  simp only [cntB, e, show (0 : Int).toNat = 0 from rfl, show (1 : Int).toNat = 1 from rfl, show (2 : Int).toNat = 2 from rfl, show (3 : Int).toNat = 3 from rfl, show (4 : Int).toNat = 4 from rfl, show (5 : Int).toNat = 5 from rfl, Int.zero_add, Int.reduceAdd] <;>
  cases h0' : p 0 <;> cases h1' : p 1 <;> cases h2' : p 2 <;> cases h3' : p 3 <;> cases h4' : p 4 <;> cases h5' : p 5 <;> simp_all [List.filter]
theorem xgs {R : Type} {L n : Nat} (hn : 1 ≤ n) {a l : Int} (hl : l < 6) {k : Exit → List A → H → Option R} : ∀ (j : Nat) (i c : Int) (m : Nat) (h0 : 0 ≤ i) (hi : i + j = l) (hm : j < m) (hc0 : 0 ≤ c) (hc1 : c ≤ i),
  kLoop env (evCall env L n) L 0 [] (U2 (Z2 (U2 (U1 (Z8 (Z2 (Z1 ([])))))))) (x7m 0) (Z2 (U2 (Z2 (Z1 (U8 (U2 (U1 ([])))))))) m (.d (.int .i64 a) :: .d (.int .i64 l) :: Y2 (.d (.int .i64 0) :: .d (.int .i64 c) :: .d (.int .i64 i) :: Y8 (Y2 (Y1 ([]))))) [] k
  = k (.exit 0) (.d (.int .i64 a) :: .d (.int .i64 l) :: Y2 (.d (.int .i64 0) :: .d (.int .i64 ((c + cntB a j i))) :: .d (.int .i64 l) :: Y8 (Y2 (Y1 ([]))))) [] := by
 intro j
 induction j with
 | zero =>
  intro i c m h0 hi hm hc0 hc1
  obtain ⟨m, rfl⟩ : ∃ q, m = q + 1 := ⟨m - 1, by omega⟩
  obtain rfl : i = l := by omega
  rw [x9l]
  simp only [x9i, Try.f83, SLM, simprocAttr]
  simp -implicitDefEqProofs (maxSteps := 2000000) (disch := first | assumption | (refine Shut.mk ?_; kernel_rfl) | omega | (simp only [GT]; done) | (simp only [LN] <;> omega) | fail) only [↓DN, ↓kAsg, ↓kRet, UP, simprocAttr, ↓x22, Int.lt_irrefl]
  simp only [cntB, Int.natCast_zero, Int.add_zero]
 | succ j ih =>
  intro i c m h0 hi hm hc0 hc1
  obtain ⟨m, rfl⟩ : ∃ q, m = q + 1 := ⟨m - 1, by omega⟩
  have hc : i < l := by omega
  cases hb : bitAt a i with
  | true =>
   have e : c + 1 + (cntB a j (i + 1) : Int) = c + cntB a (j + 1) i := by simp only [cntB, hb, if_true]; omega
   rw [x9l]
   simp only [x9i, Try.f83, SLM, simprocAttr]
   simp -implicitDefEqProofs (maxSteps := 2000000) (disch := first | assumption | (refine Shut.mk ?_; kernel_rfl) | omega | (simp only [GT]; done) | (simp only [LN] <;> omega) | fail) only [↓DN, ↓kAsg, ↓kRet, UP, simprocAttr, ↓x22, hc, hb, ↓ih]
   rw [e]
  | false =>
   have e : c + (cntB a j (i + 1) : Int) = c + cntB a (j + 1) i := by simp only [cntB, hb, Bool.false_eq_true, if_false]; omega
   rw [x9l]
   simp only [x9i, Try.f83, SLM, simprocAttr]
   simp -implicitDefEqProofs (maxSteps := 2000000) (disch := first | assumption | (refine Shut.mk ?_; kernel_rfl) | omega | (simp only [GT]; done) | (simp only [LN] <;> omega) | fail) only [↓DN, ↓kAsg, ↓kRet, UP, simprocAttr, ↓x22, hc, hb, ↓ih]
   rw [e]
theorem xnq {L n : Nat} (hn : 2 ≤ n) (a l : Int) (h0 : 0 ≤ l) (h1 : l < 6) (hL : 2 ^ 60 ≤ L) : evCall env L n 83 [.d (.int .i64 a), .d (.int .i64 l)] [] = some (.d (.int .i64 (placeI a l)), []) := by
 have loop_a := fun {R : Type} {n : Nat} (hn : 1 ≤ n) {k : Exit → List A → H → Option R} => xgs (R := R) (L := L) hn (a := a) h1 (k := k) l.toNat 0 0 L (by omega) (by omega) (by omega) (by omega) (by omega)
 rw [cntB_place h0 h1] at loop_a
 obtain ⟨n, rfl⟩ : ∃ m, n = m + 1 := ⟨n - 1, by omega⟩
 rw [xnx]
 simp only [xkd, Try.f83, SLM, simprocAttr]
 simp -implicitDefEqProofs (maxSteps := 2000000) (disch := first | assumption | (refine Shut.mk ?_; kernel_rfl) | omega | (simp only [GT]; done) | (simp only [LN] <;> omega) | fail) only [↓DN, ↓kAsg, ↓kRet, UP, simprocAttr, ↓x22, ↓xgs, ↓loop_a, Int.zero_add]
theorem xia {R : Type} {L n : Nat} {hq : H} {k : A → H → Option R} (hn : 2 ≤ n) (a l : Int) (h0 : 0 ≤ l) (h1 : l < 6) (hL : 2 ^ 60 ≤ L) : kCall env (evCall env L n) hq 83 [.d (.int .i64 a), .d (.int .i64 l)] k = k (.d (.int .i64 (placeI a l))) hq :=
 kCall_still rfl (xnq hn a l h0 h1 hL) rfl (.inl rfl)
theorem goI_not {al q l : Int} {rs : List (List Int)} (h : bitAt al l = false) : goI al rs q l = q := by
 unfold goI; rw [h]; rfl
theorem goI_bit {al q l : Int} {rs : List (List Int)} (h : bitAt al l = true) : goI al rs q l = (rs.getD q.toNat []).getD (placeI al l) 0 := by
 unfold goI; rw [if_pos h]
theorem xmu {L n : Nat} (hn : 3 ≤ n) (al q l : Int) (rs : List (List Int)) (z : Nat) (cs : List D) (hs : rowsShort rs) (hw : rowsWide (letters al).length rs) (hq0 : 0 ≤ q) (hq1 : q < rs.length) (h0 : 0 ≤ l) (h1 : l < 6) (hL : 2 ^ 60 ≤ L) : evCall env L n 45 [.agg [.d (.int .i64 al), .d (.ivs rs.length (rowsD rs)), .d (.ivs z cs)], .d (.int .i64 q), .d (.int .i64 l)] [] = some (.d (.int .i64 (goI al rs q l)), []) := by
 have hrl := hs.1
 have hk : q.toNat < rs.length := by omega
 have hrow := short_at hs hk
 have hrw := wide_at hw hk
 cases hb : bitAt al l with
 | false =>
  rw [goI_not hb]
  clear hrw
  obtain ⟨n, rfl⟩ : ∃ m, n = m + 1 := ⟨n - 1, by omega⟩
  rw [xmr]
  simp only [xkq, Try.f45, SLM, simprocAttr]
  simp -implicitDefEqProofs (maxSteps := 2000000) (disch := first | assumption | (refine Shut.mk ?_; kernel_rfl) | omega | (simp only [GT]; done) | (simp only [LN] <;> omega) | fail) only [↓DN, ↓kAsg, ↓kRet, UP, simprocAttr, ↓x22, ↓xia, LA, hb]
 | true =>
  rw [goI_bit hb]
  have hp := (place_lt6 h0 h1 hb).1
  have hp2 : placeI al l < (rs.getD q.toNat []).length := by omega
  have hp3 : (placeI al l : Int) < (rs.getD q.toNat []).length := by omega
  have hp4 : ((placeI al l : Nat) : Int).toNat = placeI al l := Int.toNat_natCast _
  clear hrw hp
  obtain ⟨n, rfl⟩ : ∃ m, n = m + 1 := ⟨n - 1, by omega⟩
  rw [xmr]
  simp only [xkq, Try.f45, SLM, simprocAttr]
  simp -implicitDefEqProofs (maxSteps := 2000000) (disch := first | assumption | (refine Shut.mk ?_; kernel_rfl) | omega | (simp only [GT]; done) | (simp only [LN] <;> omega) | fail) only [↓DN, ↓kAsg, ↓kRet, UP, simprocAttr, ↓x22, ↓xia, LA, hb, u_ints, u_intss, c_ints, c_int, hp4]
theorem x5y {R : Type} {L n : Nat} {hq : H} {k : A → H → Option R} (hn : 3 ≤ n) (al q l : Int) (rs : List (List Int)) (z : Nat) (cs : List D) (hs : rowsShort rs) (hw : rowsWide (letters al).length rs) (hq0 : 0 ≤ q) (hq1 : q < rs.length) (h0 : 0 ≤ l) (h1 : l < 6) (hL : 2 ^ 60 ≤ L) : kCall env (evCall env L n) hq 45 [.agg [.d (.int .i64 al), .d (.ivs rs.length (rowsD rs)), .d (.ivs z cs)], .d (.int .i64 q), .d (.int .i64 l)] k = k (.d (.int .i64 (goI al rs q l))) hq :=
 kCall_still rfl (xmu hn al q l rs z cs hs hw hq0 hq1 h0 h1 hL) rfl (.inl rfl)
theorem x62 {R : Type} {L n : Nat} {k : A → Option R} (hn : 3 ≤ n) (al q l : Int) (rs : List (List Int)) (z : Nat) (cs : List D) (hs : rowsShort rs) (hw : rowsWide (letters al).length rs) (hq0 : 0 ≤ q) (hq1 : q < rs.length) (h0 : 0 ≤ l) (h1 : l < 6) (hL : 2 ^ 60 ≤ L) : kLent (evCall env L n) 45 [.agg [.d (.int .i64 al), .d (.ivs rs.length (rowsD rs)), .d (.ivs z cs)], .d (.int .i64 q), .d (.int .i64 l)] k = k (.d (.int .i64 (goI al rs q l))) :=
 kLent_ev (xmu hn al q l rs z cs hs hw hq0 hq1 h0 h1 hL) rfl
theorem x4n {R : Type} {L n : Nat} {hq : H} {k : A → H → Option R} {id0 g0 o0 len0 : Nat} {al q l : Int} {z : Nat} {cs : List D} : kCall env (evCall env L n) hq 45 [.agg [.d (.int .i64 al), .sl id0 g0 o0 len0, .d (.ivs z cs)], .d (.int .i64 q), .d (.int .i64 l)] k = match box (lentA hq [.agg [.d (.int .i64 al), .sl id0 g0 o0 len0, .d (.ivs z cs)], .d (.int .i64 q), .d (.int .i64 l)]) with
  | .mk (some fs) => kLent (evCall env L n) 45 fs fun r => k r hq
  | _ => none := kCall_lent x91
theorem x4m {R : Type} {L n : Nat} {hq : H} {k : A → H → Option R} {id1 g1 o1 len1 : Nat} {al q l : Int} {rs : List (List Int)} : kCall env (evCall env L n) hq 45 [.agg [.d (.int .i64 al), .d (.ivs rs.length (rowsD rs)), .sl id1 g1 o1 len1], .d (.int .i64 q), .d (.int .i64 l)] k = match box (lentA hq [.agg [.d (.int .i64 al), .d (.ivs rs.length (rowsD rs)), .sl id1 g1 o1 len1], .d (.int .i64 q), .d (.int .i64 l)]) with
  | .mk (some fs) => kLent (evCall env L n) 45 fs fun r => k r hq
  | _ => none := kCall_lent x91
theorem x4p {R : Type} {L n : Nat} {hq : H} {k : A → H → Option R} {id1 g1 o1 len1 : Nat} {id0 g0 o0 len0 : Nat} {al q l : Int} : kCall env (evCall env L n) hq 45 [.agg [.d (.int .i64 al), .sl id0 g0 o0 len0, .sl id1 g1 o1 len1], .d (.int .i64 q), .d (.int .i64 l)] k = match box (lentA hq [.agg [.d (.int .i64 al), .sl id0 g0 o0 len0, .sl id1 g1 o1 len1], .d (.int .i64 q), .d (.int .i64 l)]) with
  | .mk (some fs) => kLent (evCall env L n) 45 fs fun r => k r hq
  | _ => none := kCall_lent x91
def rowSw (al : Int) (rs : List (List Int)) (x y : Int) (ls : List Int) (q : Int) : List Int := ls.map fun l => goI al rs q (swapI l x y)
def rowsSw (al : Int) (rs : List (List Int)) (x y : Int) (ls : List Int) (i j : Nat) : List (List Int) := (List.range' i j).map fun (q : Nat) => rowSw al rs x y ls q
def swapOK (al : Int) (rs : List (List Int)) (ac : List Bool) (x y : Int) : Bool := autOK al rs ac && isLet x && isLet y
theorem rowsSw_succ {al : Int} {rs : List (List Int)} {x y : Int} {ls : List Int} {i j : Nat} : rowsSw al rs x y ls i (j + 1) = rowSw al rs x y ls i :: rowsSw al rs x y ls (i + 1) j := by
 simp [rowsSw, List.range'_succ]
theorem rowsSw_len {al : Int} {rs : List (List Int)} {x y : Int} {ls : List Int} {i j : Nat} : (rowsSw al rs x y ls i j).length = j := by simp [rowsSw]
theorem rows_snoc {l : List (List Int)} {r : List Int} {z : Nat} (h : z = r.length) : rowsD l ++ [.ivs z (ints r)] = rowsD (l ++ [r]) := by
 subst h
 simp [rowsD, rowD]
theorem rowsD_nil : rowsD [] = [] := rfl
theorem bools_nil : bools [] = [] := rfl
def eR (l : List (List Int)) : Nat := if l = [] then 0 else 1
theorem eR_snoc {l : List (List Int)} {r : List Int} : eR (l ++ [r]) = 1 := by simp [eR]
theorem eR_or (l : List (List Int)) : eR l = 0 ∨ eR l = 1 := by unfold eR; split <;> simp
theorem rowSw_go {al : Int} {rs : List (List Int)} {x y q : Int} {ls : List Int} {i : Nat} (h : i < ls.length) : rowSw al rs x y (ls.drop i) q = goI al rs q (swapI (ls.getD i 0) x y) :: rowSw al rs x y (ls.drop (i + 1)) q := by
 rw [drop_go h (d := 0)]
 rfl
theorem x1e {R : Type} {L n : Nat} (hn : 4 ≤ n) (hL : 2 ^ 60 ≤ L) {al al2 x y q : Int} {rs : List (List Int)} {z : Nat} {cs cs2 cn : List D} {e d : Nat} (hs : rowsShort rs) (hw : rowsWide (letters al).length rs) (hq0 : 0 ≤ q) (hq1 : q < rs.length) (hx0 : 0 ≤ x) (hx1 : x ≤ 5) (hy0 : 0 ≤ y) (hy1 : y ≤ 5) {ls : List Int} (hls : ∀ v ∈ ls, 0 ≤ v ∧ v ≤ 5) (hll : ls.length ≤ 6) {k : Exit → List A → H → Option R} : ∀ (j : Nat) (i : Int) (m : Nat) (r : List Int) (len : Nat) (h0 : 0 ≤ i) (hi : i + j = ls.length) (hm : j < m) (hr : r.length ≤ 6 - j) (hlen : len = r.length),
  kLoop env (evCall env L n) L 0 [] (Z1 (U2 (U1 (Z2 (U4 (U2 (U1 (Z32 (Z16 (Z8 (Z4 (Z1 ([]))))))))))))) (x1n 1) (U1 (Z2 (Z1 (U2 (Z4 (Z2 (Z1 (U32 (U16 (U8 (U4 (U1 ([]))))))))))))) m (Y1 (.d (.int .i64 x) :: .d (.int .i64 y) :: .ptr 0 0 0 :: Y2 (.ptr 1 0 0 :: .d (.bool false) :: .ptr 2 0 0 :: .d (.ivs ls.length (ints ls)) :: .d (.int .i64 q) :: .sl 3 0 0 len :: .d (.int .i64 i) :: Y32 (Y16 (Y8 (Y4 (Y1 ([])))))))) [.box [.d (.int .i64 al), .d (.ivs rs.length (rowsD rs)), .d (.ivs z cs)], .box [.d (.int .i64 0), .sl 4 0 0 0, .sl 5 0 0 0], .box [.d (.int .i64 al2), .sl 6 0 0 d, .sl 7 0 0 z], .arr (ints r) 1 0, .arr [] 0 0, .arr [] 0 0, .arr cn e 0, .arr cs2 1 0] k
  = k (.exit 2) (Y1 (.d (.int .i64 x) :: .d (.int .i64 y) :: .ptr 0 0 0 :: Y2 (.ptr 1 0 0 :: .d (.bool false) :: .ptr 2 0 0 :: .d (.ivs ls.length (ints ls)) :: .d (.int .i64 q) :: .sl 3 0 0 (r.length + (rowSw al rs x y (ls.drop i.toNat) q).length) :: .d (.int .i64 (ls.length)) :: Y32 (Y16 (Y8 (Y4 (Y1 ([])))))))) [.box [.d (.int .i64 al), .d (.ivs rs.length (rowsD rs)), .d (.ivs z cs)], .box [.d (.int .i64 0), .sl 4 0 0 0, .sl 5 0 0 0], .box [.d (.int .i64 al2), .sl 6 0 0 d, .sl 7 0 0 z], .arr (ints (r ++ rowSw al rs x y (ls.drop i.toNat) q)) 1 0, .arr [] 0 0, .arr [] 0 0, .arr cn e 0, .arr cs2 1 0] := by
 intro j
 have hrl := hs.1
 induction j with
 | zero =>
  intro i m r len h0 hi hm hr hlen
  obtain ⟨m, rfl⟩ : ∃ q, m = q + 1 := ⟨m - 1, by omega⟩
  obtain rfl : i = ls.length := by omega
  rw [x8p]
  simp only [x76, Try.f10, SLM, simprocAttr]
  simp -implicitDefEqProofs (maxSteps := 2000000) (disch := first | assumption | (refine Shut.mk ?_; kernel_rfl) | omega | (simp only [GT]; done) | (simp only [LN] <;> omega) | fail) only [↓DN, ↓kAsg, ↓kRet, UP, simprocAttr, ↓x1g, ↓x16, ↓x23, ↓xc, ↓x1f, ↓x5y, ↓x1i, ↓x62, ↓x1d, ↓x1b, ↓x1c, ↓x4n, ↓x4m, ↓x4p, LA, Int.lt_irrefl, hlen]
  simp only [Int.toNat_natCast, List.drop_length, rowSw, List.map_nil, List.append_nil, List.length_nil, Nat.add_zero]
 | succ j ih =>
  intro i m r len h0 hi hm hr hlen
  obtain ⟨m, rfl⟩ : ∃ q, m = q + 1 := ⟨m - 1, by omega⟩
  subst hlen
  have hc : i < ls.length := by omega
  have hk : i.toNat < ls.length := by omega
  have hv := getD_all hls hk
  have hs1 := swapI_let hv.1 hx0 hy0
  have hs2 := swapI_le (b := 5) hv.2 hx1 hy1
  have hs3 : swapI (ls.getD i.toNat 0) x y < 6 := by omega
  have e1 : (i + 1).toNat = i.toNat + 1 := by omega
  have hrr : (r ++ [goI al rs q (swapI (ls.getD i.toNat 0) x y)]).length ≤ 6 - j := by simp; omega
  have hr6 : r.length ≤ 6 := by omega
  clear hv
  rw [x8p]
  simp only [x76, Try.f10, SLM, simprocAttr]
  simp -implicitDefEqProofs (maxSteps := 2000000) (disch := first | assumption | (refine Shut.mk ?_; kernel_rfl) | omega | (simp only [GT]; done) | (simp only [LN] <;> omega) | fail) only [↓DN, ↓kAsg, ↓kRet, UP, simprocAttr, ↓x1g, ↓x16, ↓x23, ↓xc, ↓x1f, ↓x5y, ↓x1i, ↓x62, ↓x1d, ↓x1b, ↓x1c, ↓x4n, ↓x4m, ↓x4p, LA, hc, u_ints, c_int, ints_take, ints_snoc, List.length_append, ↓ih]
  rw [rowSw_go hk, e1]
  simp only [List.append_assoc, List.cons_append, List.nil_append, List.length_append, List.length_cons, List.length_nil, Nat.add_assoc, Nat.add_comm 1, Nat.zero_add]
theorem rowSw_len {al : Int} {rs : List (List Int)} {x y q : Int} {ls : List Int} : (rowSw al rs x y ls q).length = ls.length := by simp [rowSw]
theorem x37 {R : Type} {L n : Nat} (hn : 4 ≤ n) (hL : 2 ^ 60 ≤ L) {al al2 x y : Int} {rs : List (List Int)} {z : Nat} {cs cs2 : List D} (hs : rowsShort rs) (hw : rowsWide (letters al).length rs) (hx0 : 0 ≤ x) (hx1 : x ≤ 5) (hy0 : 0 ≤ y) (hy1 : y ≤ 5) {ls : List Int} (hls : ∀ v ∈ ls, 0 ≤ v ∧ v ≤ 5) (hll : ls.length ≤ 6) {k : Exit → List A → H → Option R} : ∀ (j : Nat) (i : Int) (m : Nat) (d : List (List Int)) (len e : Nat) (h0 : 0 ≤ i) (hi : i + j = rs.length) (hm : j < m) (hd : (d.length : Int) ≤ i) (hlen : len = d.length) (he : e = eR d),
  kLoop env (evCall env L n) L 0 [] (Z1 (U2 (U1 (Z2 (U4 (U2 (U1 (Z32 (Z16 (Z8 (Z4 (Z1 ([]))))))))))))) (x1n 0) (U1 (Z2 (Z1 (U2 (Z4 (Z1 (U32 (U16 (U8 (U4 (U2 (U1 ([]))))))))))))) m (Y1 (.d (.int .i64 x) :: .d (.int .i64 y) :: .ptr 0 0 0 :: Y2 (.ptr 1 0 0 :: .d (.bool false) :: .ptr 2 0 0 :: .d (.ivs ls.length (ints ls)) :: .d (.int .i64 i) :: Y32 (Y16 (Y8 (Y4 (Y2 (Y1 ([]))))))))) [.box [.d (.int .i64 al), .d (.ivs rs.length (rowsD rs)), .d (.ivs z cs)], .box [.d (.int .i64 0), .sl 3 0 0 0, .sl 4 0 0 0], .box [.d (.int .i64 al2), .sl 5 0 0 len, .sl 6 0 0 z], .arr [] 0 0, .arr [] 0 0, .arr (rowsD d) e 0, .arr cs2 1 0] k
  = k (.exit 0) (Y1 (.d (.int .i64 x) :: .d (.int .i64 y) :: .ptr 0 0 0 :: Y2 (.ptr 1 0 0 :: .d (.bool false) :: .ptr 2 0 0 :: .d (.ivs ls.length (ints ls)) :: .d (.int .i64 (rs.length)) :: Y32 (Y16 (Y8 (Y4 (Y2 (Y1 ([]))))))))) [.box [.d (.int .i64 al), .d (.ivs rs.length (rowsD rs)), .d (.ivs z cs)], .box [.d (.int .i64 0), .sl 3 0 0 0, .sl 4 0 0 0], .box [.d (.int .i64 al2), .sl 5 0 0 (d ++ rowsSw al rs x y ls i.toNat j).length, .sl 6 0 0 z], .arr [] 0 0, .arr [] 0 0, .arr (rowsD (d ++ rowsSw al rs x y ls i.toNat j)) (eR (d ++ rowsSw al rs x y ls i.toNat j)) 0, .arr cs2 1 0] := by
 intro j
 have hrl := hs.1
 induction j with
 | zero =>
  intro i m d len e h0 hi hm hd hlen he
  obtain ⟨m, rfl⟩ : ∃ q, m = q + 1 := ⟨m - 1, by omega⟩
  obtain rfl : i = rs.length := by omega
  subst hlen
  subst he
  have e1 : rowsSw al rs x y ls (rs.length : Int).toNat 0 = [] := rfl
  rw [e1, List.append_nil]
  rw [x67]
  simp only [x5n, Try.f10, SLM, simprocAttr]
  simp -implicitDefEqProofs (maxSteps := 2000000) (disch := first | assumption | (refine Shut.mk ?_; kernel_rfl) | omega | (simp only [GT]; done) | (simp only [LN] <;> omega) | fail) only [↓DN, ↓kAsg, ↓kRet, UP, simprocAttr, ↓x1g, ↓x16, ↓x23, ↓xc, ↓x1f, ↓x5y, ↓x1i, ↓x62, ↓x1d, ↓x1b, ↓x1c, ↓x4n, ↓x4m, ↓x4p, ↓x1e, LA, Int.lt_irrefl]
 | succ j ih =>
  intro i m d len e h0 hi hm hd hlen he
  obtain ⟨m, rfl⟩ : ∃ q, m = q + 1 := ⟨m - 1, by omega⟩
  subst hlen
  have hc : i < rs.length := by omega
  have hk : i.toNat < rs.length := by omega
  have e1 : (i + 1).toNat = i.toNat + 1 := by omega
  have e2 : ((i.toNat : Nat) : Int) = i := by omega
  have loop_a := fun {R : Type} {k : Exit → List A → H → Option R} => x1e (R := R) (L := L) (n := n) hn hL (al := al) (al2 := al2) (q := i) (z := z) (cs := cs) (cs2 := cs2) (cn := rowsD d) (e := e) (d := d.length) hs hw h0 hc hx0 hx1 hy0 hy1 hls hll (k := k) ls.length 0 L [] 0 (by omega) (by omega) (by omega) (by simp) rfl
  simp only [Int.toNat_zero, List.drop_zero, List.nil_append, List.length_nil, Nat.zero_add, ints_nil] at loop_a
  have hd2 : ((d ++ [rowSw al rs x y ls i]).length : Int) ≤ i + 1 := by simp; omega
  have hd3 : d.length ≤ 4294967295 := by omega
  have ht : (rowsD d).take d.length = rowsD d := rows_take (Nat.le_refl _)
  have hrw : (rowSw al rs x y ls i).length ≤ 6 := by rw [rowSw_len]; exact hll
  have he2 : 1 = eR (d ++ [rowSw al rs x y ls i]) := eR_snoc.symm
  have hl2 : d.length + 1 = (d ++ [rowSw al rs x y ls i]).length := by simp
  rw [rowsSw_succ, e2]
  rcases eR_or d with h1 | h1
  ·have he0 : e = 0 := by omega
   subst he0
   rw [x67]
   simp only [x5n, Try.f10, SLM, simprocAttr]
   simp -implicitDefEqProofs (maxSteps := 2000000) (disch := first | assumption | (refine Shut.mk ?_; kernel_rfl) | omega | (simp only [GT]; done) | (simp only [LN] <;> omega) | fail) only [↓DN, ↓kAsg, ↓kRet, UP, simprocAttr, ↓x1g, ↓x16, ↓x23, ↓xc, ↓x1f, ↓x5y, ↓x1i, ↓x62, ↓x1d, ↓x1b, ↓x1c, ↓x4n, ↓x4m, ↓x4p, ↓x1e, LA, hc, u_ints, c_int, u_intss, c_ints, ↓loop_a, ht, rows_snoc, List.length_append, eR_snoc, ints_length, ints_take, ↓ih]
   rw [e1]
   simp only [List.append_assoc, List.cons_append, List.nil_append, List.length_append, List.length_cons, List.length_nil, Nat.add_assoc, Nat.add_comm 1, Nat.zero_add]
  ·have he0 : e = 1 := by omega
   subst he0
   rw [x67]
   simp only [x5n, Try.f10, SLM, simprocAttr]
   simp -implicitDefEqProofs (maxSteps := 2000000) (disch := first | assumption | (refine Shut.mk ?_; kernel_rfl) | omega | (simp only [GT]; done) | (simp only [LN] <;> omega) | fail) only [↓DN, ↓kAsg, ↓kRet, UP, simprocAttr, ↓x1g, ↓x16, ↓x23, ↓xc, ↓x1f, ↓x5y, ↓x1i, ↓x62, ↓x1d, ↓x1b, ↓x1c, ↓x4n, ↓x4m, ↓x4p, ↓x1e, LA, hc, u_ints, c_int, u_intss, c_ints, ↓loop_a, ht, rows_snoc, List.length_append, eR_snoc, ints_length, ints_take, ↓ih]
   rw [e1]
   simp only [List.append_assoc, List.cons_append, List.nil_append, List.length_append, List.length_cons, List.length_nil, Nat.add_assoc, Nat.add_comm 1, Nat.zero_add]
end Ev
end Go.Proofs.Ytppdfjdfjfoddaa
end

/-!
  Automata with exchanged letters: the reference's.
-/
section
set_option linter.unusedSimpArgs false
set_option linter.unusedVariables false
set_option maxRecDepth 8000
set_option pp.maxSteps 6000
set_option maxHeartbeats 4000000
namespace Go.Proofs.Ytppdfjdfjfoddaa
namespace Ev
def swapAl (al x y : Int) (ok : Bool) : Int := if ok = true then swapAlpha al x y else 0
def swapRs (al : Int) (rs : List (List Int)) (x y : Int) (ok : Bool) : List (List Int) := if ok = true then rowsSw al rs x y (letters (swapAlpha al x y)) 0 rs.length else []
def swapAc (ac : List Bool) (ok : Bool) : List Bool := if ok = true then ac else []
theorem seek_all {p : Nat → Bool} {n : Nat} (h : (seek p n 0).isNone = true) {i : Nat} (hi : i < n) : p i = false :=
 seek_none.1 (by simpa using h) i (by omega) (by omega)
theorem autOK_wide {al : Int} {rs : List (List Int)} {ac : List Bool} (h : autOK al rs ac = true) : rowsWide (letters al).length rs := by
 unfold autOK at h
 simp only [Bool.and_eq_true] at h
 intro r hr
 obtain ⟨i, hi, rfl⟩ := List.getElem_of_mem hr
 have hb := seek_all h.2 hi
 unfold rowBadAt at hb
 rw [List.getD_eq_getElem?_getD, List.getElem?_eq_getElem hi] at hb
 apply Classical.byContradiction
 intro hc
 rw [rowBad_w (by simp only [Option.getD_some]; omega)] at hb
 cases hb
theorem autOK_len {al : Int} {rs : List (List Int)} {ac : List Bool} (h : autOK al rs ac = true) : 1 ≤ rs.length ∧ rs.length ≤ 12 ∧ ac.length = rs.length ∧ isAlpha al = true := by
 unfold autOK at h
 simp only [Bool.and_eq_true, decide_eq_true_eq] at h
 obtain ⟨⟨⟨⟨h1, h2⟩, h3⟩, h4⟩, _⟩ := h
 exact ⟨by omega, by omega, by omega, h1⟩
theorem xjd {L n : Nat} (hn : 6 ≤ n) (al x y : Int) (rs : List (List Int)) (ac : List Bool) (hs : rowsShort rs) (ha : ac.length ≤ 4294967296) (hL : 2 ^ 60 ≤ L) : evCall env L n 10 [.agg [.d (.int .i64 al), .d (.ivs rs.length (rowsD rs)), .d (.ivs ac.length (bools ac))], .d (.int .i64 x), .d (.int .i64 y)] [] = some (.tup [.agg [.d (.int .i64 (swapAl al x y (swapOK al rs ac x y))), .d (.ivs (swapRs al rs x y (swapOK al rs ac x y)).length (rowsD (swapRs al rs x y (swapOK al rs ac x y)))), .d (.ivs (swapAc ac (swapOK al rs ac x y)).length (bools (swapAc ac (swapOK al rs ac x y))))], .d (.bool (swapOK al rs ac x y))], []) := by
 have hrl := hs.1
 unfold swapOK
 cases hv : autOK al rs ac with
 | false =>
  obtain ⟨n, rfl⟩ : ∃ m, n = m + 1 := ⟨n - 1, by omega⟩
  rw [x5x]
  simp only [x5b, Try.f10, SLM, simprocAttr]
  simp -implicitDefEqProofs (maxSteps := 2000000) (disch := first | assumption | (refine Shut.mk ?_; kernel_rfl) | omega | (simp only [GT]; done) | (simp only [LN] <;> omega) | fail) only [↓DN, ↓kAsg, ↓kRet, UP, simprocAttr, ↓x1g, ↓x16, ↓x23, ↓xc, ↓x1f, ↓x5y, ↓x1i, ↓x62, ↓x1d, ↓x1b, ↓x1c, ↓x4n, ↓x4m, ↓x4p, ↓x37, ↓x1e, LA, hv, Bool.false_and, swapAl, swapRs, swapAc, Bool.false_eq_true, if_false, List.length_nil, rowsD_nil, bools_nil]
 | true =>
  cases hx : isLet x with
  | false =>
   obtain ⟨n, rfl⟩ : ∃ m, n = m + 1 := ⟨n - 1, by omega⟩
   rw [x5x]
   simp only [x5b, Try.f10, SLM, simprocAttr]
   simp -implicitDefEqProofs (maxSteps := 2000000) (disch := first | assumption | (refine Shut.mk ?_; kernel_rfl) | omega | (simp only [GT]; done) | (simp only [LN] <;> omega) | fail) only [↓DN, ↓kAsg, ↓kRet, UP, simprocAttr, ↓x1g, ↓x16, ↓x23, ↓xc, ↓x1f, ↓x5y, ↓x1i, ↓x62, ↓x1d, ↓x1b, ↓x1c, ↓x4n, ↓x4m, ↓x4p, ↓x37, ↓x1e, LA, hv, hx, Bool.false_and, Bool.and_false, swapAl, swapRs, swapAc, Bool.false_eq_true, if_false, List.length_nil, rowsD_nil, bools_nil]
  | true =>
   cases hy : isLet y with
   | false =>
    obtain ⟨n, rfl⟩ : ∃ m, n = m + 1 := ⟨n - 1, by omega⟩
    rw [x5x]
    simp only [x5b, Try.f10, SLM, simprocAttr]
    simp -implicitDefEqProofs (maxSteps := 2000000) (disch := first | assumption | (refine Shut.mk ?_; kernel_rfl) | omega | (simp only [GT]; done) | (simp only [LN] <;> omega) | fail) only [↓DN, ↓kAsg, ↓kRet, UP, simprocAttr, ↓x1g, ↓x16, ↓x23, ↓xc, ↓x1f, ↓x5y, ↓x1i, ↓x62, ↓x1d, ↓x1b, ↓x1c, ↓x4n, ↓x4m, ↓x4p, ↓x37, ↓x1e, LA, hv, hx, hy, Bool.false_and, Bool.and_false, swapAl, swapRs, swapAc, Bool.false_eq_true, if_false, List.length_nil, rowsD_nil, bools_nil]
   | true =>
    have bx := isLet_iff.1 hx
    have by' := isLet_iff.1 hy
    have hw := autOK_wide hv
    have hll := letters_len (swapAlpha al x y)
    have loop_a := fun {R : Type} {n : Nat} (hn : 4 ≤ n) {k : Exit → List A → H → Option R} => x37 (R := R) (L := L) (n := n) hn hL (al := al) (al2 := swapAlpha al x y) (z := ac.length) (cs := bools ac) (cs2 := bools ac) hs hw bx.1 bx.2 by'.1 by'.2 (ls := letters (swapAlpha al x y)) letters_in hll (k := k) rs.length 0 L [] 0 0 (by omega) (by omega) (by omega) (by simp) rfl rfl
    simp only [Int.toNat_zero, List.nil_append, rowsD_nil] at loop_a
    have hrn : (rowsSw al rs x y (letters (swapAlpha al x y)) 0 rs.length).length = rs.length := rowsSw_len
    have htk : ∀ z, z = rs.length → (rowsD (rowsSw al rs x y (letters (swapAlpha al x y)) 0 rs.length)).take z = rowsD (rowsSw al rs x y (letters (swapAlpha al x y)) 0 rs.length) := fun z hz => rows_take (by rw [hrn]; omega)
    have htk2 := htk rs.length rfl
    have hbt : (bools ac).take ac.length = bools ac := bools_take (Nat.le_refl _)
    rcases eR_or (rowsSw al rs x y (letters (swapAlpha al x y)) 0 rs.length) with h1 | h1
    ·have hlen := autOK_len hv
     have : eR (rowsSw al rs x y (letters (swapAlpha al x y)) 0 rs.length) = 1 := by
      unfold eR
      rw [if_neg (by intro hc; rw [hc] at hrn; simp at hrn; omega)]
     omega
    ·obtain ⟨n, rfl⟩ : ∃ m, n = m + 1 := ⟨n - 1, by omega⟩
     rw [x5x]
     simp only [x5b, Try.f10, SLM, simprocAttr]
     simp -implicitDefEqProofs (maxSteps := 2000000) (disch := first | assumption | (refine Shut.mk ?_; kernel_rfl) | omega | (simp only [GT]; done) | (simp only [LN] <;> omega) | fail) only [↓DN, ↓kAsg, ↓kRet, UP, simprocAttr, ↓x1g, ↓x16, ↓x23, ↓xc, ↓x1f, ↓x5y, ↓x1i, ↓x62, ↓x1d, ↓x1b, ↓x1c, ↓x4n, ↓x4m, ↓x4p, ↓x37, ↓x1e, LA, hv, hx, hy, Bool.and_self, ↓loop_a, h1, hrn, htk2, hbt, swapAl, swapRs, swapAc, if_true, bools_length, rowsD_length]
theorem x39 {R : Type} {L n : Nat} {hq : H} {k : A → H → Option R} (hn : 6 ≤ n) (al x y : Int) (rs : List (List Int)) (ac : List Bool) (hs : rowsShort rs) (ha : ac.length ≤ 4294967296) (hL : 2 ^ 60 ≤ L) : kCall env (evCall env L n) hq 10 [.agg [.d (.int .i64 al), .d (.ivs rs.length (rowsD rs)), .d (.ivs ac.length (bools ac))], .d (.int .i64 x), .d (.int .i64 y)] k = k (.tup [.agg [.d (.int .i64 (swapAl al x y (swapOK al rs ac x y))), .d (.ivs (swapRs al rs x y (swapOK al rs ac x y)).length (rowsD (swapRs al rs x y (swapOK al rs ac x y)))), .d (.ivs (swapAc ac (swapOK al rs ac x y)).length (bools (swapAc ac (swapOK al rs ac x y))))], .d (.bool (swapOK al rs ac x y))]) hq :=
 kCall_still rfl (xjd hn al x y rs ac hs ha hL) rfl (.inr rfl)
end Ev
end Go.Proofs.Ytppdfjdfjfoddaa
end
