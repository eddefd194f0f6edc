/-
  Automata that are drawn: a random one.
-/
import Derived.Test.YtppdfjdfjfoddaaShRn
import Derived.Test.YtppdfjdfjfoddaaCopy
import Derived.Test.YtppdfjdfjfoddaaDraw2
set_option linter.unusedSimpArgs false
set_option linter.unusedVariables false
set_option maxRecDepth 8000
set_option pp.maxSteps 6000
set_option maxHeartbeats 4000000
namespace Go.Proofs.Ytppdfjdfjfoddaa
namespace Ev
theorem xj7 {c : List UInt8} (hc : c.length ≤ 2000) {al st i9 : Int} {w : Nat} (hw : w ≤ 6) {d : List (List Int)} (hdl : d.length ≤ 4294967296) {cs : List D} {z : Nat} : ∀ (j i : Nat) (p : Int) (o : List Int) (hi : i + j = w) (ho : o.length = i) (hp : 0 ≤ p) (hp2 : p + j ≤ 1000000000),
  ∃ (r : List Int) (q : Int), r.length = w ∧ q = p + j ∧ ∀ (R : Type) (L n m : Nat) (k : Exit → List A → H → Option R), 2 ≤ n → 2 ^ 60 ≤ L → j < m →
  kLoop env (evCall env L n) L 1 [0, 0, 0, 0, 0, 0, 0, 0, 0, 0, 0, 0, 0, 0, 0, 0, 0, 0, 0, 0, 0, 0, 0, 0, 0, 0, 0, 0, 0, 0, 0, 0, 0, 0, 0, 0, 0, 1002] (U1 (Z1 (U1 (Z2 (Z1 (U4 (U2 (Z32 (Z4 (Z1 ([]))))))))))) (x2k 1) (Z1 (U1 (Z1 (U2 (U1 (Z4 (Z2 (U32 (U4 (U1 ([]))))))))))) m (.ptr 0 0 0 :: Y1 (.d (.int .i64 st) :: Y2 (Y1 (.ptr 1 0 0 :: .ptr 2 0 0 :: .d (.int .i64 w) :: .d (.int .i64 i9) :: .sl 3 0 0 i :: .d (.int .i64 ((i : Int))) :: Y32 (Y4 (Y1 ([]))))))) (O.box [A.d (D.ivs c.length (bytesL c)), A.d (D.int .i64 p)] :: .box [.d (.int .i64 0), .sl 4 0 0 0, .sl 5 0 0 0] :: .box [.d (.int .i64 al), .sl 6 0 0 d.length, .sl 7 0 0 z] :: .arr (ints o) 1 0 :: .arr [] 0 0 :: .arr [] 0 0 :: .vec (refsV 8 d ++ nilsA 0) 1 0 :: .arr cs 1 0 :: rowsO d) k
  = k (.exit 2) (.ptr 0 0 0 :: Y1 (.d (.int .i64 st) :: Y2 (Y1 (.ptr 1 0 0 :: .ptr 2 0 0 :: .d (.int .i64 w) :: .d (.int .i64 i9) :: .sl 3 0 0 w :: .d (.int .i64 ((w : Int))) :: Y32 (Y4 (Y1 ([]))))))) (O.box [A.d (D.ivs c.length (bytesL c)), A.d (D.int .i64 q)] :: .box [.d (.int .i64 0), .sl 4 0 0 0, .sl 5 0 0 0] :: .box [.d (.int .i64 al), .sl 6 0 0 d.length, .sl 7 0 0 z] :: .arr (ints r) 1 0 :: .arr [] 0 0 :: .arr [] 0 0 :: .vec (refsV 8 d ++ nilsA 0) 1 0 :: .arr cs 1 0 :: rowsO d) := by
 intro j
 induction j with
 | zero =>
  intro i p o hi ho hp hp2
  obtain rfl : i = w := by omega
  refine ⟨o, p, ho, by omega, fun R L n m k hn hL hm => ?_⟩
  obtain ⟨m, rfl⟩ : ∃ q, m = q + 1 := ⟨m - 1, by omega⟩
  subst ho
  rw [x6d]
  simp only [x6l, Try.f138, SLM, simprocAttr]
  simp -implicitDefEqProofs (maxSteps := 2000000) (disch := first | assumption | (refine Shut.mk ?_; kernel_rfl) | omega | (simp only [GT]; done) | (simp only [LN] <;> omega) | fail) only [↓DN, ↓kAsg, ↓kRet, UP, simprocAttr, ↓xc, LA, Int.lt_irrefl, rowsO_len, rows_get_at, rows_getD_at, rows_set_at, ↓gc_rnC1, ↓gc_rnC01]
 | succ j ih =>
  intro i p o hi ho hp hp2
  obtain ⟨v, v0, v1, v2, kd⟩ := x35 hc p st hp (by omega)
  obtain ⟨r, q, g1, g2, kd2⟩ := ih (i + 1) (p + 1) (o ++ [v]) (by omega) (by simp; omega) (by omega) (by omega)
  refine ⟨r, q, g1, by omega, fun R L n m k hn hL hm => ?_⟩
  obtain ⟨m, rfl⟩ : ∃ q, m = q + 1 := ⟨m - 1, by omega⟩
  have kd2' := kd2 R L n m k hn hL (by omega)
  rw [show ((i + 1 : Nat) : Int) = (i : Int) + 1 by omega] at kd2'
  have hc1 : (i : Int) < w := by omega
  subst ho
  clear ih kd2
  rw [x6d]
  simp only [x6l, Try.f138, SLM, simprocAttr]
  simp -implicitDefEqProofs (maxSteps := 2000000) (disch := first | assumption | (refine Shut.mk ?_; kernel_rfl) | omega | (simp only [GT]; done) | (simp only [LN] <;> omega) | fail) only [↓DN, ↓kAsg, ↓kRet, UP, simprocAttr, ↓xc, LA, hc1, ↓kd, ints_take, ints_snoc, List.length_append, ↓kd2', rowsO_len, rows_get_at, rows_getD_at, rows_set_at, ↓gc_rnC1, ↓gc_rnC01]
theorem xi9 {c : List UInt8} (hc : c.length ≤ 2000) {al st i9 : Int} {w : Nat} (hw : w ≤ 6) {cs : List D} {z : Nat} : ∀ (j i : Nat) (p : Int) (o : List Int) (hi : i + j = w) (ho : o.length = i) (hp : 0 ≤ p) (hp2 : p + j ≤ 1000000000),
  ∃ (r : List Int) (q : Int), r.length = w ∧ q = p + j ∧ ∀ (R : Type) (L n m : Nat) (k : Exit → List A → H → Option R), 2 ≤ n → 2 ^ 60 ≤ L → j < m →
  kLoop env (evCall env L n) L 1 [0, 0, 0, 0, 0, 0, 0, 0, 0, 0, 0, 0, 0, 0, 0, 0, 0, 0, 0, 0, 0, 0, 0, 0, 0, 0, 0, 0, 0, 0, 0, 0, 0, 0, 0, 0, 0, 1002] (U1 (Z1 (U1 (Z2 (Z1 (U4 (U2 (Z32 (Z4 (Z1 ([]))))))))))) (x2k 1) (Z1 (U1 (Z1 (U2 (U1 (Z4 (Z2 (U32 (U4 (U1 ([]))))))))))) m (.ptr 0 0 0 :: Y1 (.d (.int .i64 st) :: Y2 (Y1 (.ptr 1 0 0 :: .ptr 2 0 0 :: .d (.int .i64 w) :: .d (.int .i64 i9) :: .sl 3 0 0 i :: .d (.int .i64 ((i : Int))) :: Y32 (Y4 (Y1 ([]))))))) (O.box [A.d (D.ivs c.length (bytesL c)), A.d (D.int .i64 p)] :: .box [.d (.int .i64 0), .sl 4 0 0 0, .sl 5 0 0 0] :: .box [.d (.int .i64 al), .sl 6 0 0 0, .sl 7 0 0 z] :: .arr (ints o) 1 0 :: .arr [] 0 0 :: .arr [] 0 0 :: .arr [] 0 0 :: .arr cs 0 0 :: []) k
  = k (.exit 2) (.ptr 0 0 0 :: Y1 (.d (.int .i64 st) :: Y2 (Y1 (.ptr 1 0 0 :: .ptr 2 0 0 :: .d (.int .i64 w) :: .d (.int .i64 i9) :: .sl 3 0 0 w :: .d (.int .i64 ((w : Int))) :: Y32 (Y4 (Y1 ([]))))))) (O.box [A.d (D.ivs c.length (bytesL c)), A.d (D.int .i64 q)] :: .box [.d (.int .i64 0), .sl 4 0 0 0, .sl 5 0 0 0] :: .box [.d (.int .i64 al), .sl 6 0 0 0, .sl 7 0 0 z] :: .arr (ints r) 1 0 :: .arr [] 0 0 :: .arr [] 0 0 :: .arr [] 0 0 :: .arr cs 0 0 :: []) := by
 intro j
 induction j with
 | zero =>
  intro i p o hi ho hp hp2
  obtain rfl : i = w := by omega
  refine ⟨o, p, ho, by omega, fun R L n m k hn hL hm => ?_⟩
  obtain ⟨m, rfl⟩ : ∃ q, m = q + 1 := ⟨m - 1, by omega⟩
  subst ho
  rw [x6d]
  simp only [x6l, Try.f138, SLM, simprocAttr]
  simp -implicitDefEqProofs (maxSteps := 2000000) (disch := first | assumption | (refine Shut.mk ?_; kernel_rfl) | omega | (simp only [GT]; done) | (simp only [LN] <;> omega) | fail) only [↓DN, ↓kAsg, ↓kRet, UP, simprocAttr, ↓xc, LA, Int.lt_irrefl]
 | succ j ih =>
  intro i p o hi ho hp hp2
  obtain ⟨v, v0, v1, v2, kd⟩ := x35 hc p st hp (by omega)
  obtain ⟨r, q, g1, g2, kd2⟩ := ih (i + 1) (p + 1) (o ++ [v]) (by omega) (by simp; omega) (by omega) (by omega)
  refine ⟨r, q, g1, by omega, fun R L n m k hn hL hm => ?_⟩
  obtain ⟨m, rfl⟩ : ∃ q, m = q + 1 := ⟨m - 1, by omega⟩
  have kd2' := kd2 R L n m k hn hL (by omega)
  rw [show ((i + 1 : Nat) : Int) = (i : Int) + 1 by omega] at kd2'
  have hc1 : (i : Int) < w := by omega
  subst ho
  clear ih kd2
  rw [x6d]
  simp only [x6l, Try.f138, SLM, simprocAttr]
  simp -implicitDefEqProofs (maxSteps := 2000000) (disch := first | assumption | (refine Shut.mk ?_; kernel_rfl) | omega | (simp only [GT]; done) | (simp only [LN] <;> omega) | fail) only [↓DN, ↓kAsg, ↓kRet, UP, simprocAttr, ↓xc, LA, hc1, ↓kd, ints_take, ints_snoc, List.length_append, ↓kd2']
theorem gc_rnE2 {m : List Bool} {s : List A} {y1 y2 x0 x1 : D} {k z rl : Nat} {r : List Int} {cs : List D} {d : List (List Int)} {p : H} (hr : rl = r.length) (hl : d.length ≤ 4294967296) : gc 1 m s (.box [.d y1, .d y2] :: .box [.d x0, .sl 4 0 0 0, .sl 5 0 0 0] :: .box [.d x1, .sl 6 1 0 k, .sl 7 1 0 z] :: .arr (ints r) 1 0 :: .arr [] 0 0 :: .arr [] 0 0 :: .vec (refsV 8 d ++ [.sl 3 0 0 rl]) 1 1 :: .arr cs 1 1 :: (rowsO d ++ p)) = match box (tidy m s) with
  | .mk s1 => if idsL s1 = [0, 1, 2] then (s1, .box [.d y1, .d y2] :: .box [.d x0, .sl 3 0 0 0, .sl 4 0 0 0] :: .box [.d x1, .sl 5 0 0 k, .sl 6 0 0 z] :: .arr [] 0 0 :: .arr [] 0 0 :: .vec (refsV 7 (d ++ [r]) ++ nilsA 0) 1 0 :: .arr cs 1 0 :: rowsO (d ++ [r])) else gcO 1 m s (.box [.d y1, .d y2] :: .box [.d x0, .sl 4 0 0 0, .sl 5 0 0 0] :: .box [.d x1, .sl 6 1 0 k, .sl 7 1 0 z] :: .arr (ints r) 1 0 :: .arr [] 0 0 :: .arr [] 0 0 :: .vec (refsV 8 d ++ [.sl 3 0 0 rl]) 1 1 :: .arr cs 1 1 :: (rowsO d ++ p))
  | .no => ([], []) := by
 have hn : nilsA 0 = [] := rfl
 subst hr
 rw [gc_rnE1 hl, ← rowsO_snocI, refsV_snoc, hn, List.append_nil, Nat.add_comm 7]
 simp only [box]
 split
 ·rename_i hid
  rw [calmAs_box _ (by rw [hid]; intro i hi; simp at hi; rcases hi with rfl | rfl | rfl <;> rfl)]
 ·rfl
theorem bools_snoc1 {l : List Bool} {b : Bool} : bools l ++ [.bool b] = bools (l ++ [b]) := by simp [bools]
theorem xjh {c : List UInt8} (hc : c.length ≤ 2000) {al st : Int} {w s : Nat} (hw : w ≤ 6) (hst : st = s) (hs : s ≤ 100) : ∀ (j i : Nat) (p : Int) (d : List (List Int)) (bl : List Bool) (hi : i + j = s) (hd : d.length = i) (hbl : bl.length = i) (hrw : ∀ r ∈ d, r.length = w) (hp : 0 ≤ p) (hp2 : p + 7 * j ≤ 1000000000),
  ∃ (d2 : List (List Int)) (bl2 : List Bool) (q : Int), d2.length = s ∧ bl2.length = s ∧ (∀ r ∈ d2, r.length = w) ∧ p ≤ q ∧ q ≤ p + 7 * j ∧ ∀ (R : Type) (L n m : Nat) (k : Exit → List A → H → Option R), 2 ≤ n → 2 ^ 60 ≤ L → j < m →
  kLoop env (evCall env L n) L 1 [0, 0, 0, 0, 0, 0, 0, 0, 0, 0, 0, 0, 0, 0, 0, 0, 0, 0, 0, 0, 0, 0, 0, 0, 0, 0, 0, 0, 0, 0, 0, 0, 0, 0, 0, 0, 0, 1002] (U1 (Z1 (U1 (Z2 (Z1 (U4 (U2 (Z32 (Z4 (Z1 ([]))))))))))) (x2k 0) (Z1 (U1 (Z1 (U2 (U1 (Z4 (U32 (U4 (U2 (U1 ([]))))))))))) m (.ptr 0 0 0 :: Y1 (.d (.int .i64 st) :: Y2 (Y1 (.ptr 1 0 0 :: .ptr 2 0 0 :: .d (.int .i64 w) :: .d (.int .i64 ((i : Int))) :: Y32 (Y4 (Y2 (Y1 ([])))))))) (O.box [A.d (D.ivs c.length (bytesL c)), A.d (D.int .i64 p)] :: .box [.d (.int .i64 0), .sl 3 0 0 0, .sl 4 0 0 0] :: .box [.d (.int .i64 al), .sl 5 0 0 (List.length d), .sl 6 0 0 (List.length bl)] :: .arr [] 0 0 :: .arr [] 0 0 :: .vec (refsV 7 d ++ nilsA 0) 1 0 :: .arr (bools bl) 1 0 :: rowsO d) k
  = k (.exit 0) (.ptr 0 0 0 :: Y1 (.d (.int .i64 st) :: Y2 (Y1 (.ptr 1 0 0 :: .ptr 2 0 0 :: .d (.int .i64 w) :: .d (.int .i64 ((s : Int))) :: Y32 (Y4 (Y2 (Y1 ([])))))))) (O.box [A.d (D.ivs c.length (bytesL c)), A.d (D.int .i64 q)] :: .box [.d (.int .i64 0), .sl 3 0 0 0, .sl 4 0 0 0] :: .box [.d (.int .i64 al), .sl 5 0 0 (List.length d2), .sl 6 0 0 (List.length bl2)] :: .arr [] 0 0 :: .arr [] 0 0 :: .vec (refsV 7 d2 ++ nilsA 0) 1 0 :: .arr (bools bl2) 1 0 :: rowsO d2) := by
 intro j
 induction j with
 | zero =>
  intro i p d bl hi hd hbl hrw hp hp2
  obtain rfl : i = s := by omega
  refine ⟨d, bl, p, hd, hbl, hrw, by omega, by omega, fun R L n m k hn hL hm => ?_⟩
  obtain ⟨m, rfl⟩ : ∃ q, m = q + 1 := ⟨m - 1, by omega⟩
  have hdl : d.length ≤ 4294967296 := by omega
  subst hst
  rw [x8j]
  simp only [x81, Try.f138, SLM, simprocAttr]
  simp -implicitDefEqProofs (maxSteps := 2000000) (disch := first | assumption | (refine Shut.mk ?_; kernel_rfl) | omega | (simp only [GT]; done) | (simp only [LN] <;> omega) | fail) only [↓DN, ↓kAsg, ↓kRet, UP, simprocAttr, ↓xc, LA, Int.lt_irrefl, ↓gc_rnF1]
 | succ j ih =>
  intro i p d bl hi hd hbl hrw hp hp2
  have hdl : d.length ≤ 4294967296 := by omega
  obtain ⟨r, q, g1, g2, kd1⟩ := xj7 hc (al := al) (st := st) (i9 := i) hw hdl (cs := bools bl) (z := bl.length) w 0 p [] (by omega) rfl hp (by omega)
  obtain ⟨v, v0, v1, v2, kd2⟩ := x35 hc q 3 (by omega) (by omega)
  obtain ⟨d2, bl2, q2, e1, e2, e3, e4, e5, kd3⟩ := ih (i + 1) (q + 1) (d ++ [r]) (bl ++ [decide (0 < v)]) (by omega) (by simp; omega) (by simp; omega) (by
   intro x hx
   rcases List.mem_append.1 hx with hx | hx
   ·exact hrw x hx
   ·simp at hx; subst hx; exact g1) (by omega) (by omega)
  refine ⟨d2, bl2, q2, e1, e2, e3, by omega, by omega, fun R L n m k hn hL hm => ?_⟩
  obtain ⟨m, rfl⟩ : ∃ q, m = q + 1 := ⟨m - 1, by omega⟩
  have kd3' := kd3 R L n m k hn hL (by omega)
  have loop_c := fun {R : Type} {n : Nat} {k : Exit → List A → H → Option R} (hn : 2 ≤ n) => kd1 R L n L k hn hL (by omega)
  rw [show ((i + 1 : Nat) : Int) = (i : Int) + 1 by omega] at kd3'
  simp only [Int.natCast_zero, ints_nil, List.length_append, List.length_cons, List.length_nil, Nat.zero_add] at loop_c kd3'
  have hc1 : (i : Int) < st := by omega
  have g1' : w = r.length := g1.symm
  have ht : (refsV 8 d ++ nilsA 0).take d.length = refsV 8 d := refs_takeN rfl
  have hlv : d.length ≤ (refsV 8 d ++ nilsA 0).length := by rw [List.length_append, refsV_len]; omega
  obtain ⟨G2, hG2⟩ : ∃ G : H, G = (O.box [A.d (D.ivs c.length (bytesL c)), A.d (D.int .i64 (q + 1))] :: .box [.d (.int .i64 0), .sl 4 0 0 0, .sl 5 0 0 0] :: .box [.d (.int .i64 al), .sl 6 1 0 (d.length + 1), .sl 7 0 0 bl.length] :: .arr (ints r) 1 0 :: .arr [] 0 0 :: .arr [] 0 0 :: .vec (refsV 8 d ++ [.sl 3 0 0 w]) 1 1 :: .arr (bools (bl ++ [decide (0 < v)])) 1 1 :: (rowsO d ++ .vec [.sl 3 0 0 w] 1 0 :: .arr [.bool (decide (0 < v))] 1 0 :: [])) := ⟨_, rfl⟩
  have k2 : G2[2]? = some (.box [.d (.int .i64 al), .sl 6 1 0 (d.length + 1), .sl 7 0 0 bl.length]) := by rw [hG2]; rfl
  have k3 : G2[3]? = some (.arr (ints r) 1 0) := by rw [hG2]; rfl
  have k6 : G2[6]? = some (.vec (refsV 8 d ++ [.sl 3 0 0 w]) 1 1) := by rw [hG2]; rfl
  have k7 : G2[7]? = some (.arr (bools (bl ++ [decide (0 < v)])) 1 1) := by rw [hG2]; rfl
  have ok3 : Okay G2 3 := .mk _ _ k3 (by simp) (by rw [kids_row k3]; simp)
  have ok7 : Okay G2 7 := .mk _ _ k7 (by simp) (by rw [kids_row k7]; simp)
  have ok6 : Okay G2 6 := .mk _ _ k6 (by simp) (by
   intro y hy
   have : kids G2 6 = List.range' 8 d.length ++ [3] := by simp [kids, k6, idsL_app, refsV_ids, idsL, idsA]
   rw [this, List.mem_append, List.mem_range'_1] at hy
   rcases hy with hy | hy
   ·obtain ⟨z, rfl⟩ : ∃ z, y = 8 + z := ⟨y - 8, by omega⟩
    have hz : z < d.length := by omega
    have hr : G2[8 + z]? = some (.arr (ints d[z]) 1 0) := by
     rw [hG2, show 8 + z = z + 1 + 1 + 1 + 1 + 1 + 1 + 1 + 1 by omega]
     simp only [List.getElem?_cons_succ]
     exact rows_in (List.getElem?_eq_getElem hz)
    exact .mk _ _ hr (by simp) (by rw [kids_row hr]; simp)
   ·simp at hy
    subst hy
    exact ok3)
  have ok2 : Okay G2 2 := .mk _ _ k2 (by simp) (by
   intro y hy
   have : kids G2 2 = [6, 7] := by simp [kids, k2, idsL, idsA]
   rw [this] at hy
   simp at hy
   rcases hy with rfl | rfl
   ·exact ok6
   ·exact ok7)
  have wG2 : 2 + wgt G2 ≤ 1099511627776 := by
   have h1 := wgt_app (rowsO d) [.vec [.sl 3 0 0 w] 1 0, .arr [.bool (decide (0 < v))] 1 0]
   rw [wgt_rows] at h1
   rw [hG2]
   simp only [wgt, idsL, idsA, idsL_app, refsV_ids, List.length_append, List.length_range', List.length_cons, List.length_nil] at h1 ⊢
   omega
  have st_sto : ∀ {call : CallF} {thaw : List Nat} {dst : Option Tmp} {x y : Operand}, memD env call thaw dst (.store 24 x y) G2 [.ptr 2 0 2, .sl 7 1 0 (bl.length + 1)] = some (.d .undef, G2.set 2 (.box (setRun [.d (.int .i64 al), .sl 6 1 0 (d.length + 1), .sl 7 0 0 bl.length] 2 [.sl 7 1 0 (bl.length + 1)])), { ids := reach fuelR G2 [2, 7] [], ro := false, wr := reach fuelR G2 [2, 7] [] }) := by
   intro call thaw dst x y
   exact memD_storeS (by kernel_rfl) (by kernel_rfl) k2 (by simp) ok2 ok7 wG2
  obtain ⟨o2, ho2⟩ : ∃ o, o = reach fuelR G2 [2, 7] [] := ⟨_, rfl⟩
  rw [← ho2] at st_sto
  rw [hG2] at st_sto
  simp only [List.set_cons_succ, List.set_cons_zero, setRun, List.take_succ_cons, List.take_zero, List.cons_append, List.nil_append, List.length_cons, List.length_nil, List.drop_succ_cons, List.drop_zero, List.drop_nil, Nat.reduceAdd] at st_sto
  clear hG2 k2 k3 k6 k7 ok2 ok3 ok6 ok7 wG2 ho2 ih kd1 kd3
  subst hd
  generalize hbv : decide (0 < v) = b at *
  rw [x8j]
  simp only [x81, Try.f138, SLM, simprocAttr]
  simp -implicitDefEqProofs (maxSteps := 2000000) (disch := first | assumption | (refine Shut.mk ?_; kernel_rfl) | omega | (simp only [GT]; done) | (simp only [LN] <;> omega) | fail) only [↓DN, ↓kAsg, ↓kRet, UP, simprocAttr, ↓xc, LA, hc1, hbv, ↓loop_c, ↓kd2, rowsO_len, refsV_len, nilsA_len, Nat.add_zero, Nat.le_refl, rows_get_at, rows_get_at1, rows_getD_at, rows_getD_at1, rows_set_at, rows_set_at1, Nat.sub_self, List.range'_zero, ht, u_intss, c_ints, u_bools, c_bool, bools_length, bools_take, bools_snoc1, List.append_assoc, List.cons_append, List.nil_append, ↓gc_rnB1, is_gc_rnB_eq, ren_gc_rnB_0, ren_gc_rnB_1, ren_gc_rnB_2, ren_gc_rnB_e0, ↓st_sto, ↓gc_rnE2, ↓kd3']
theorem xh8 {c : List UInt8} (hc : c.length ≤ 2000) {al st : Int} {w s : Nat} (hw : w ≤ 6) (hst : st = s) (hs : s ≤ 100) (h1 : 1 ≤ s) (p : Int) (hp : 0 ≤ p) (hp2 : p + 7 * s ≤ 1000000000) :
  ∃ (d2 : List (List Int)) (bl2 : List Bool) (q : Int), d2.length = s ∧ bl2.length = s ∧ (∀ r ∈ d2, r.length = w) ∧ p ≤ q ∧ q ≤ p + 7 * s ∧ ∀ (R : Type) (L n m : Nat) (k : Exit → List A → H → Option R), 2 ≤ n → 2 ^ 60 ≤ L → s < m →
  kLoop env (evCall env L n) L 1 [0, 0, 0, 0, 0, 0, 0, 0, 0, 0, 0, 0, 0, 0, 0, 0, 0, 0, 0, 0, 0, 0, 0, 0, 0, 0, 0, 0, 0, 0, 0, 0, 0, 0, 0, 0, 0, 1002] (U1 (Z1 (U1 (Z2 (Z1 (U4 (U2 (Z32 (Z4 (Z1 ([]))))))))))) (x2k 0) (Z1 (U1 (Z1 (U2 (U1 (Z4 (U32 (U4 (U2 (U1 ([]))))))))))) m (.ptr 0 0 0 :: Y1 (.d (.int .i64 st) :: Y2 (Y1 (.ptr 1 0 0 :: .ptr 2 0 0 :: .d (.int .i64 w) :: .d (.int .i64 0) :: Y32 (Y4 (Y2 (Y1 ([])))))))) (O.box [A.d (D.ivs c.length (bytesL c)), A.d (D.int .i64 p)] :: .box [.d (.int .i64 0), .sl 3 0 0 0, .sl 4 0 0 0] :: .box [.d (.int .i64 al), .sl 5 0 0 0, .sl 6 0 0 0] :: .arr [] 0 0 :: .arr [] 0 0 :: .arr [] 0 0 :: .arr [] 0 0 :: []) k
  = k (.exit 0) (.ptr 0 0 0 :: Y1 (.d (.int .i64 st) :: Y2 (Y1 (.ptr 1 0 0 :: .ptr 2 0 0 :: .d (.int .i64 w) :: .d (.int .i64 ((s : Int))) :: Y32 (Y4 (Y2 (Y1 ([])))))))) (O.box [A.d (D.ivs c.length (bytesL c)), A.d (D.int .i64 q)] :: .box [.d (.int .i64 0), .sl 3 0 0 0, .sl 4 0 0 0] :: .box [.d (.int .i64 al), .sl 5 0 0 (List.length d2), .sl 6 0 0 (List.length bl2)] :: .arr [] 0 0 :: .arr [] 0 0 :: .vec (refsV 7 d2 ++ nilsA 0) 1 0 :: .arr (bools bl2) 1 0 :: rowsO d2) := by
 obtain ⟨j, hj⟩ : ∃ j, s = j + 1 := ⟨s - 1, by omega⟩
 obtain ⟨r, q, g1, g2, kd1⟩ := xi9 hc (al := al) (st := st) (i9 := 0) hw (cs := []) (z := 0) w 0 p [] (by omega) rfl hp (by omega)
 obtain ⟨v, v0, v1, v2, kd2⟩ := x35 hc q 3 (by omega) (by omega)
 obtain ⟨d2, bl2, q2, e1, e2, e3, e4, e5, kd3⟩ := xjh hc (al := al) (st := st) hw hst hs j 1 (q + 1) [r] [decide (0 < v)] (by omega) rfl rfl (by intro x hx; simp at hx; subst hx; exact g1) (by omega) (by omega)
 refine ⟨d2, bl2, q2, e1, e2, e3, by omega, by omega, fun R L n m k hn hL hm => ?_⟩
 obtain ⟨m, rfl⟩ : ∃ q, m = q + 1 := ⟨m - 1, by omega⟩
 have kd3' := kd3 R L n m k hn hL (by omega)
 have loop_c := fun {R : Type} {n : Nat} {k : Exit → List A → H → Option R} (hn : 2 ≤ n) => kd1 R L n L k hn hL (by omega)
 simp only [Int.natCast_zero, ints_nil] at loop_c
 have e7 : refsV 7 [r] ++ nilsA 0 = [.sl 7 0 0 r.length] := rfl
 have e8 : rowsO [r] = [.arr (ints r) 1 0] := rfl
 have e9 : bools [decide (0 < v)] = [.bool (decide (0 < v))] := rfl
 rw [e7, e8, e9, g1] at kd3'
 simp only [List.length_cons, List.length_nil, Nat.zero_add, show ((1 : Nat) : Int) = 1 from rfl] at kd3'
 have hc1 : (0 : Int) < st := by omega
 generalize hbv : decide (0 < v) = b at *
 clear kd1 kd3
 rw [x8j]
 simp only [x81, Try.f138, SLM, simprocAttr]
 simp -implicitDefEqProofs (maxSteps := 2000000) (disch := first | assumption | (refine Shut.mk ?_; kernel_rfl) | omega | (simp only [GT]; done) | (simp only [LN] <;> omega) | fail) only [↓DN, ↓kAsg, ↓kRet, UP, simprocAttr, ↓xc, LA, hc1, hbv, ↓loop_c, ↓kd2, u_intss, c_ints, u_bools, c_bool, ↓kd3']
theorem xhl {c : List UInt8} (hc : c.length ≤ 2000) (al st : Int) {s : Nat} (hst : st = s) (hs : s ≤ 100) (h1 : 1 ≤ s) (p : Int) (hp : 0 ≤ p) (hp2 : p + 7 * s ≤ 1000000000) :
  ∃ (nx : List (List Int)) (ac : List Bool) (q : Int), nx.length = s ∧ ac.length = s ∧ (∀ r ∈ nx, r.length = (letters al).length) ∧ p ≤ q ∧ q ≤ p + 7 * s ∧ ∀ (L n : Nat), 3 ≤ n → 2 ^ 60 ≤ L →
  evCall env L n 138 [.ptr 0 0 0, .d (.int .i64 al), .d (.int .i64 st)] [O.box [A.d (D.ivs c.length (bytesL c)), A.d (D.int .i64 p)]] = some (autA 1 al nx.length ac.length, O.box [A.d (D.ivs c.length (bytesL c)), A.d (D.int .i64 q)] :: autO 1 nx ac) := by
 obtain ⟨nx, ac, q, g1, g2, g3, g4, g5, kd⟩ := xh8 hc (al := al) (st := st) (w := (letters al).length) (letters_len al) hst hs h1 p hp hp2
 refine ⟨nx, ac, q, g1, g2, g3, g4, g5, fun L n hn hL => ?_⟩
 have loop_c := fun {R : Type} {n : Nat} {k : Exit → List A → H → Option R} (hn : 2 ≤ n) => kd R L n L k hn hL (by omega)
 have hnl : nx.length ≤ 4294967296 := by omega
 have hbl : (bools ac).length = ac.length := bools_length
 unfold autA autO
 clear kd
 obtain ⟨n, rfl⟩ : ∃ m, n = m + 1 := ⟨n - 1, by omega⟩
 rw [xn9]
 simp only [xjc, Try.f138, SLM, simprocAttr]
 simp -implicitDefEqProofs (maxSteps := 2000000) (disch := first | assumption | (refine Shut.mk ?_; kernel_rfl) | omega | (simp only [GT]; done) | (simp only [LN] <;> omega) | fail) only [↓DN, ↓kAsg, ↓kRet, UP, simprocAttr, ↓xc, LA, hbl, ↓loop_c, ↓keep_rnG1, ↓trim_rnG1, z0As, z0A, eq_self, ren_rnG_5, ren_rnG_6]
end Ev
end Go.Proofs.Ytppdfjdfjfoddaa
