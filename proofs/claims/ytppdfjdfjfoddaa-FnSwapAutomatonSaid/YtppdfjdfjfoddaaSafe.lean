/-
  Automata that are drawn: one whose bad state is a trap.
-/
import Derived.Test.YtppdfjdfjfoddaaShSf
import Derived.Test.YtppdfjdfjfoddaaRdNew
import Derived.Test.YtppdfjdfjfoddaaMemD
set_option linter.unusedSimpArgs false
set_option linter.unusedVariables false
set_option maxRecDepth 8000
set_option pp.maxSteps 6000
set_option maxHeartbeats 4000000
namespace Go.Proofs.Ytppdfjdfjfoddaa
namespace Ev
def safeB (x : Int) : Nat → Nat → List Bool → List Bool
 | 0, _, bl => bl
 | j + 1, i, bl => safeB x j (i + 1) (bl.set i (decide ((i : Int) < x)))
theorem safeB_len (x : Int) : ∀ (j i : Nat) (bl : List Bool), (safeB x j i bl).length = bl.length
 | 0, _, _ => rfl
 | j + 1, i, bl => by rw [safeB, safeB_len x j, List.length_set]
def safeR (x : Int) : Nat → Nat → List Int → List Int
 | 0, _, r => r
 | j + 1, i, r => safeR x j (i + 1) (r.set i x)
theorem safeR_len (x : Int) : ∀ (j i : Nat) (r : List Int), (safeR x j i r).length = r.length
 | 0, _, _ => rfl
 | j + 1, i, r => by rw [safeR, safeR_len x j, List.length_set]
theorem bools_put {l : List Bool} {k : Nat} {v : Bool} (h : k < l.length) : List.take k (bools l) ++ [D.bool v] ++ List.drop (k + 1) (bools l) = bools (l.set k v) := bools_set h
theorem ints_put {l : List Int} {k : Nat} {v : Int} (h : k < l.length) : List.take k (ints l) ++ [D.int .i64 v] ++ List.drop (k + 1) (ints l) = ints (l.set k v) := ints_set h
theorem refs_head7 {rs : List (List Int)} {k : Nat} (h : k < rs.length) : ((refsV 7 rs ++ nilsA 0).drop k).head? = some (.sl (k + 7) 0 0 (rs.getD k []).length) := by
 rw [refs_head (b := 0) (k := 0) h, Nat.add_comm]
theorem refsV_set {rs : List (List Int)} {b k : Nat} {r : List Int} (h : r.length = (rs.getD k []).length) : refsV b (rs.set k r) = refsV b rs := by
 apply refsV_lens
 rw [List.map_set]
 by_cases hk : k < rs.length
 ·have : r.length = (rs.map List.length)[k]'(by simpa using hk) := by
   rw [h, List.getElem_map, List.getD_eq_getElem?_getD, List.getElem?_eq_getElem hk]; rfl
  rw [this, List.set_getElem_self]
 ·rw [List.set_eq_of_length_le (by simp; omega)]
theorem gc_sfB2 {m : List Bool} {s : List A} {y1 y2 x0 x1 : D} {k z : Nat} {cs : List D} {d d2 : List (List Int)} (he : refsV 7 d2 = refsV 7 d) (hl : d2.length ≤ 4294967296) : gc 1 m s (.box [.d y1, .d y2] :: .box [.d x0, .sl 3 0 0 0, .sl 4 0 0 0] :: .box [.d x1, .sl 5 0 0 k, .sl 6 0 0 z] :: .arr [] 0 0 :: .arr [] 0 0 :: .vec (refsV 7 d ++ nilsA 0) 1 0 :: .arr cs 1 0 :: rowsO d2) = match box (tidy m s) with
  | .mk s1 => if idsL s1 = [1, 2] ∧ z0As s1 = true then (mapAs (ren_sfB d2.length) s1, .box [.d y1, .d y2] :: .box [.d x0, .sl 3 0 0 0, .sl 4 0 0 0] :: .box [.d x1, .sl 5 0 0 k, .sl 6 0 0 z] :: .arr [] 0 0 :: .arr [] 0 0 :: .vec (refsV 7 d ++ nilsA 0) 1 0 :: .arr cs 1 0 :: rowsO d2) else gcO 1 m s (.box [.d y1, .d y2] :: .box [.d x0, .sl 3 0 0 0, .sl 4 0 0 0] :: .box [.d x1, .sl 5 0 0 k, .sl 6 0 0 z] :: .arr [] 0 0 :: .arr [] 0 0 :: .vec (refsV 7 d ++ nilsA 0) 1 0 :: .arr cs 1 0 :: rowsO d2)
  | .no => ([], []) := by
 rw [← he]
 exact gc_sfB1 hl
theorem xmh {R : Type} {L n : Nat} {y1 y2 x0 : D} {al st x : Int} {s : Nat} {nx : List (List Int)} (hx : st - 1 = x) (hst : st = s) (hs : s ≤ 100) (hnl : nx.length ≤ 4294967296) {k : Exit → List A → H → Option R} : ∀ (j i m : Nat) (bl : List Bool) (len : Nat) (hi : i + j = s) (hm : j < m) (hbl : bl.length = s) (hlen : len = bl.length),
  kLoop env (evCall env L n) L 1 [] (Z2 (U1 (Z2 (Z1 (U4 (Z32 (Z4 (Z2 (Z1 ([])))))))))) (x3l 0) (U2 (Z1 (U2 (U1 (Z2 (Z1 (U32 (U8 ([]))))))))) m (Y2 (.d (.int .i64 st) :: Y2 (Y1 (.ptr 1 0 0 :: .ptr 2 0 0 :: .d (.int .i64 ((i : Int))) :: Y32 (Y8 ([])))))) (.box [.d y1, .d y2] :: .box [.d x0, .sl 3 0 0 0, .sl 4 0 0 0] :: .box [.d (.int .i64 al), .sl 5 0 0 nx.length, .sl 6 0 0 len] :: .arr [] 0 0 :: .arr [] 0 0 :: .vec (refsV 7 nx ++ nilsA 0) 1 0 :: .arr (bools bl) 1 0 :: rowsO nx) k
  = k (.exit 0) (Y2 (.d (.int .i64 st) :: Y2 (Y1 (.ptr 1 0 0 :: .ptr 2 0 0 :: .d (.int .i64 ((s : Int))) :: Y32 (Y8 ([])))))) (.box [.d y1, .d y2] :: .box [.d x0, .sl 3 0 0 0, .sl 4 0 0 0] :: .box [.d (.int .i64 al), .sl 5 0 0 nx.length, .sl 6 0 0 s] :: .arr [] 0 0 :: .arr [] 0 0 :: .vec (refsV 7 nx ++ nilsA 0) 1 0 :: .arr (bools (safeB x j i bl)) 1 0 :: rowsO nx) := by
 intro j
 induction j with
 | zero =>
  intro i m bl len hi hm hbl hlen
  obtain ⟨m, rfl⟩ : ∃ q, m = q + 1 := ⟨m - 1, by omega⟩
  obtain rfl : i = s := by omega
  rw [hbl] at hlen
  subst hlen
  have hc1 : ¬ ((len : Int) < st) := by omega
  rw [xf5]
  simp only [xe4, Try.f137, SLM, simprocAttr]
  simp -implicitDefEqProofs (maxSteps := 2000000) (disch := first | assumption | (refine Shut.mk ?_; kernel_rfl) | omega | (simp only [GT]; done) | (simp only [LN] <;> omega) | fail) only [↓DN, ↓kAsg, ↓kRet, UP, simprocAttr, LA, hc1, ↓gc_sfB1, z0As, z0A, eq_self, ren_sfB_1, ren_sfB_2, safeB]
 | succ j ih =>
  intro i m bl len hi hm hbl hlen
  obtain ⟨m, rfl⟩ : ∃ q, m = q + 1 := ⟨m - 1, by omega⟩
  subst hlen
  have hc1 : (i : Int) < st := by omega
  have hk : i < bl.length := by omega
  have hb1 : (0 : Int) ≤ i := by omega
  have ih' := ih (i + 1) m (bl.set i (decide ((i : Int) < x))) bl.length (by omega) (by omega) (by simpa using hbl) (by simp)
  rw [show ((i + 1 : Nat) : Int) = (i : Int) + 1 by omega] at ih'
  rw [safeB]
  clear ih
  rw [xf5]
  simp only [xe4, Try.f137, SLM, simprocAttr]
  simp -implicitDefEqProofs (maxSteps := 2000000) (disch := first | assumption | (refine Shut.mk ?_; kernel_rfl) | omega | (simp only [GT]; done) | (simp only [LN] <;> omega) | fail) only [↓DN, ↓kAsg, ↓kRet, UP, simprocAttr, LA, hc1, hx, u_bools, c_bool, bools_put, ↓gc_sfB1, z0As, z0A, eq_self, ren_sfB_1, ren_sfB_2, ↓ih']
theorem xm8 {R : Type} {L n : Nat} {y1 y2 x0 : D} {al st i9 : Int} {s t : Nat} {bl : List Bool} {w : Nat} (hx : st - 1 = (t : Int)) (hs : s ≤ 100) (hw : w ≤ 100) (ht : t < s) {k : Exit → List A → H → Option R} : ∀ (j i m : Nat) (nx : List (List Int)) (len : Nat) (hi : i + j = w) (hm : j < m) (hr : (nx.getD t []).length = w) (hnx : nx.length = s) (hlen : len = nx.length),
  kLoop env (evCall env L n) L 1 [] (Z2 (U1 (Z2 (Z1 (U4 (Z32 (Z4 (Z2 (Z1 ([])))))))))) (x3l 1) (U2 (Z1 (U2 (U1 (Z4 (U32 (U4 (U2 (U1 ([])))))))))) m (Y2 (.d (.int .i64 st) :: Y2 (Y1 (.ptr 1 0 0 :: .ptr 2 0 0 :: .d (.int .i64 i9) :: .d (.int .i64 ((i : Int))) :: Y32 (Y4 (Y2 (Y1 ([])))))))) (.box [.d y1, .d y2] :: .box [.d x0, .sl 3 0 0 0, .sl 4 0 0 0] :: .box [.d (.int .i64 al), .sl 5 0 0 len, .sl 6 0 0 bl.length] :: .arr [] 0 0 :: .arr [] 0 0 :: .vec (refsV 7 nx ++ nilsA 0) 1 0 :: .arr (bools bl) 1 0 :: rowsO nx) k
  = k (.exit 2) (Y2 (.d (.int .i64 st) :: Y2 (Y1 (.ptr 1 0 0 :: .ptr 2 0 0 :: .d (.int .i64 i9) :: .d (.int .i64 ((w : Int))) :: Y32 (Y4 (Y2 (Y1 ([])))))))) (.box [.d y1, .d y2] :: .box [.d x0, .sl 3 0 0 0, .sl 4 0 0 0] :: .box [.d (.int .i64 al), .sl 5 0 0 s, .sl 6 0 0 bl.length] :: .arr [] 0 0 :: .arr [] 0 0 :: .vec (refsV 7 nx ++ nilsA 0) 1 0 :: .arr (bools bl) 1 0 :: rowsO (nx.set t (safeR t j i (nx.getD t [])))) := by
 intro j
 induction j with
 | zero =>
  intro i m nx len hi hm hr hnx hlen
  obtain ⟨m, rfl⟩ : ∃ q, m = q + 1 := ⟨m - 1, by omega⟩
  obtain rfl : i = w := by omega
  rw [hnx] at hlen
  subst hlen
  have hc1 : ¬ ((i : Int) < (i : Int)) := by omega
  have hnl : nx.length ≤ 4294967296 := by omega
  have hkd : t < nx.length := by omega
  have hg := rowsO_at hkd
  have e1 : nx.set t (nx.getD t []) = nx := by
   rw [List.getD_eq_getElem?_getD, List.getElem?_eq_getElem hkd]
   exact List.set_getElem_self hkd
  rw [safeR, e1]
  rw [xf3]
  simp only [xeg, Try.f137, SLM, simprocAttr]
  simp -implicitDefEqProofs (maxSteps := 2000000) (disch := first | assumption | (refine Shut.mk ?_; kernel_rfl) | omega | (simp only [GT]; done) | (simp only [LN] <;> omega) | fail) only [↓DN, ↓kAsg, ↓kRet, UP, simprocAttr, LA, hx, hr, hc1, u_intss, c_ints, refs_head7, ↓gc_sfB1, z0As, z0A, eq_self, ren_sfB_1, ren_sfB_2]
 | succ j ih =>
  intro i m nx len hi hm hr hnx hlen
  obtain ⟨m, rfl⟩ : ∃ q, m = q + 1 := ⟨m - 1, by omega⟩
  subst hlen
  have hnl : nx.length ≤ 4294967296 := by omega
  have hkd : t < nx.length := by omega
  have hg := rowsO_at hkd
  have hc1 : (i : Int) < (w : Int) := by omega
  have hk : i < (nx.getD t []).length := by omega
  have hb1 : (0 : Int) ≤ i := by omega
  have hgs : (nx.set t ((nx.getD t []).set i t)).getD t [] = (nx.getD t []).set i t := by
   rw [List.getD_eq_getElem?_getD, List.getElem?_set_self hkd]; rfl
  have hrs : refsV 7 (nx.set t ((nx.getD t []).set i t)) = refsV 7 nx := refsV_set (by simp)
  have ih' := ih (i + 1) m (nx.set t ((nx.getD t []).set i t)) nx.length (by omega) (by omega) (by rw [hgs]; simpa using hr) (by simpa using hnx) (by simp)
  rw [show ((i + 1 : Nat) : Int) = (i : Int) + 1 by omega, hgs, hrs, List.set_set] at ih'
  rw [safeR]
  have hnl2 : (nx.set t ((nx.getD t []).set i t)).length ≤ 4294967296 := by rw [List.length_set]; omega
  clear ih hgs
  generalize hro : nx.getD t [] = ro at *
  rw [xf3]
  simp only [xeg, Try.f137, SLM, simprocAttr]
  simp -implicitDefEqProofs (maxSteps := 2000000) (disch := first | assumption | (refine Shut.mk ?_; kernel_rfl) | omega | (simp only [GT]; done) | (simp only [LN] <;> omega) | fail) only [↓DN, ↓kAsg, ↓kRet, UP, simprocAttr, LA, hx, hr, hro, hg, hc1, u_intss, c_ints, refs_head7, rowsO_set, ints_put, ↓gc_sfB2, hrs, hnl2, z0As, z0A, eq_self, ren_sfB_1, ren_sfB_2, ↓ih']
theorem xlm {R : Type} {L n m : Nat} {y1 y2 x0 : D} {al st i9 : Int} {s t : Nat} {bl : List Bool} {w : Nat} {nx : List (List Int)} (hx : st - 1 = (t : Int)) (hs : s ≤ 100) (hw : w ≤ 100) (ht : t < s) (hm : w < m) (hr : (nx.getD t []).length = w) (hnx : nx.length = s) {k : Exit → List A → H → Option R} :
  kLoop env (evCall env L n) L 1 [] (Z2 (U1 (Z2 (Z1 (U4 (Z32 (Z4 (Z2 (Z1 ([])))))))))) (x3l 1) (U2 (Z1 (U2 (U1 (Z4 (U32 (U4 (U2 (U1 ([])))))))))) m (Y2 (.d (.int .i64 st) :: Y2 (Y1 (.ptr 1 0 0 :: .ptr 2 0 0 :: .d (.int .i64 i9) :: .d (.int .i64 0) :: Y32 (Y4 (Y2 (Y1 ([])))))))) (.box [.d y1, .d y2] :: .box [.d x0, .sl 3 0 0 0, .sl 4 0 0 0] :: .box [.d (.int .i64 al), .sl 5 0 0 s, .sl 6 0 0 bl.length] :: .arr [] 0 0 :: .arr [] 0 0 :: .vec (refsV 7 nx ++ nilsA 0) 1 0 :: .arr (bools bl) 1 0 :: rowsO nx) k
  = k (.exit 2) (Y2 (.d (.int .i64 st) :: Y2 (Y1 (.ptr 1 0 0 :: .ptr 2 0 0 :: .d (.int .i64 i9) :: .d (.int .i64 ((w : Int))) :: Y32 (Y4 (Y2 (Y1 ([])))))))) (.box [.d y1, .d y2] :: .box [.d x0, .sl 3 0 0 0, .sl 4 0 0 0] :: .box [.d (.int .i64 al), .sl 5 0 0 s, .sl 6 0 0 bl.length] :: .arr [] 0 0 :: .arr [] 0 0 :: .vec (refsV 7 (nx.set t (safeR t w 0 (nx.getD t []))) ++ nilsA 0) 1 0 :: .arr (bools bl) 1 0 :: rowsO (nx.set t (safeR t w 0 (nx.getD t [])))) := by
 rw [refsV_set (by rw [safeR_len])]
 exact xm8 hx hs hw ht w 0 m nx s (by omega) hm hr hnx hnx.symm
theorem rows_get_at2 {d : List (List Int)} {o o1 o2 : O} {p : H} {k : Nat} (h : k = d.length + 2) : (rowsO d ++ o1 :: o2 :: o :: p)[k]? = some o := by
 subst h
 rw [List.getElem?_append_right (by rw [rowsO_len]; omega), rowsO_len, Nat.add_sub_cancel_left]
 rfl
theorem rows_set_at2 {d : List (List Int)} {o o1 o2 q : O} {p : H} {k : Nat} (h : k = d.length + 2) : (rowsO d ++ o1 :: o2 :: o :: p).set k q = rowsO d ++ o1 :: o2 :: q :: p := by
 rw [List.set_append_right _ _ (by rw [rowsO_len]; omega), rowsO_len, h, Nat.add_sub_cancel_left]
 rfl
theorem rows_getD_at2 {d : List (List Int)} {o o1 o2 x : O} {p : H} {k : Nat} (h : k = d.length + 2) : (rowsO d ++ o1 :: o2 :: o :: p).getD k x = o := by
 rw [List.getD_eq_getElem?_getD, rows_get_at2 h]; rfl
theorem xoi {c : List UInt8} (hc : c.length ≤ 2000) (al st : Int) {s : Nat} (hst : st = s) (hs : s ≤ 100) (h1 : 1 ≤ s) (p : Int) (hp : 0 ≤ p) (hp2 : p + 7 * s ≤ 1000000000) :
  ∃ (nx : List (List Int)) (ac : List Bool) (q : Int), nx.length = s ∧ ac.length = s ∧ (∀ r ∈ nx, r.length = (letters al).length) ∧ p ≤ q ∧ q ≤ p + 7 * s ∧ ∀ (L n : Nat), 4 ≤ n → 2 ^ 60 ≤ L →
  evCall env L n 137 [.ptr 0 0 0, .d (.int .i64 al), .d (.int .i64 st)] [O.box [A.d (D.ivs c.length (bytesL c)), A.d (D.int .i64 p)]] = some (autD al nx ac, [O.box [A.d (D.ivs c.length (bytesL c)), A.d (D.int .i64 q)]]) := by
 obtain ⟨nx, ac, q, g1, g2, g3, g4, g5, he⟩ := xhl hc al st hst hs h1 p hp hp2
 obtain ⟨t, rfl⟩ : ∃ t, s = t + 1 := ⟨s - 1, by omega⟩
 have hx : st - 1 = (t : Int) := by omega
 have hw := letters_len al
 have hk : t < nx.length := by omega
 have hr : (nx.getD t []).length = (letters al).length := by
  rw [List.getD_eq_getElem?_getD, List.getElem?_eq_getElem hk]
  exact g3 _ (List.getElem_mem hk)
 have hl1 : (nx.set t (safeR t (letters al).length 0 (nx.getD t []))).length = t + 1 := by rw [List.length_set, g1]
 have hl2 : (safeB (t : Int) (t + 1) 0 ac).length = t + 1 := by rw [safeB_len, g2]
 refine ⟨nx.set t (safeR t (letters al).length 0 (nx.getD t [])), safeB (t : Int) (t + 1) 0 ac, q, hl1, hl2, ?_, g4, g5, fun L n hn hL => ?_⟩
 ·intro r hrm
  rcases List.mem_or_eq_of_mem_set hrm with h | h
  ·exact g3 r h
  ·rw [h, safeR_len, hr]
 have kd := fun {R : Type} {n : Nat} {hq : H} {k : A → H → Option R} (hn : 3 ≤ n) => kd_l3Random (R := R) (L := L) (n := n) (hq := hq) (k := k) hn hL he
 have hnl : nx.length ≤ 4294967296 := by omega
 have loop_a := fun {R : Type} {n : Nat} {y1 y2 x0 : D} {k : Exit → List A → H → Option R} => xmh (R := R) (L := L) (n := n) (y1 := y1) (y2 := y2) (x0 := x0) (al := al) (nx := nx) (k := k) hx hst hs hnl (t + 1) 0 L ac ac.length (by omega) (by omega) g2 rfl
 have loop_b := fun {R : Type} {n : Nat} {y1 y2 x0 : D} {i9 : Int} {k : Exit → List A → H → Option R} => xlm (R := R) (L := L) (n := n) (m := L) (y1 := y1) (y2 := y2) (x0 := x0) (al := al) (i9 := i9) (bl := safeB (t : Int) (t + 1) 0 ac) (k := k) hx hs (by omega) (by omega) (by omega) hr g1
 rw [hl2] at loop_b
 rw [g1, g2] at loop_a
 simp only [autA, autO, g1, g2] at kd
 simp only [Int.natCast_zero] at loop_a
 have hbl : (bools (safeB (t : Int) (t + 1) 0 ac)).length = t + 1 := by rw [bools_length, hl2]
 generalize nx.set t (safeR t (letters al).length 0 (nx.getD t [])) = nx2 at *
 generalize safeB (t : Int) (t + 1) 0 ac = ac2 at *
 have hnl2 : nx2.length ≤ 4294967296 := by omega
 have hH : Has (O.box [A.d (D.ivs c.length (bytesL c)), A.d (D.int .i64 q)] :: .box [.d (.int .i64 al), .sl 5 0 0 (t + 1), .sl 6 0 0 (t + 1)] :: .box [.d (.int .i64 al), .sl 5 0 0 (t + 1), .sl 6 0 0 (t + 1)] :: .arr [] 0 0 :: .arr [] 0 0 :: .vec (refsV 7 nx2 ++ nilsA 0) 1 0 :: .arr (bools ac2) 1 0 :: rowsO nx2) 5 nx2 ac2 := by
  have := has_at2 (h := [O.box [A.d (D.ivs c.length (bytesL c)), A.d (D.int .i64 q)], .box [.d (.int .i64 al), .sl 5 0 0 (t + 1), .sl 6 0 0 (t + 1)], .box [.d (.int .i64 al), .sl 5 0 0 (t + 1), .sl 6 0 0 (t + 1)], .arr [] 0 0, .arr [] 0 0]) (v := 5) (rs := nx2) (ac := ac2) (p := []) rfl
  simpa using this
 obtain ⟨h2, st_out, st_keep, st_trim⟩ := fin_aut (n := t + 1) (m := t + 1) (al := al) hH (by omega) hl1.symm hl2.symm
 simp only [autD] at st_out ⊢
 clear he g3 g4 g5 hH
 obtain ⟨n, rfl⟩ : ∃ m, n = m + 1 := ⟨n - 1, by omega⟩
 rw [xoe]
 simp only [xlz, Try.f137, SLM, simprocAttr]
 simp -implicitDefEqProofs (maxSteps := 2000000) (disch := first | assumption | (refine Shut.mk ?_; kernel_rfl) | omega | (simp only [GT]; done) | (simp only [LN] <;> omega) | fail) only [↓DN, ↓kAsg, ↓kRet, UP, simprocAttr, LA, hbl, g1, ↓kd, ↓loop_a, ↓loop_b, rowsO_len, List.append_assoc, List.cons_append, List.nil_append, rows_get_at2, rows_set_at2, rows_getD_at2, ↓gc_sfA1, is_sfA1_eq, ren_sfA_3, ren_sfA_e2, ↓gc_sfB1, ren_sfB_1, ren_sfB_2, ↓st_out, ↓st_keep, ↓st_trim, z0As, z0A, eq_self]
end Ev
end Go.Proofs.Ytppdfjdfjfoddaa
