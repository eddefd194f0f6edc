/-
  Where a letter leads: the program's table, the reference's step.
-/
import Derived.Test.YtppdfjdfjfoddaaAutF
set_option linter.unusedSimpArgs false
set_option linter.unusedVariables false
set_option maxRecDepth 8000
set_option pp.maxSteps 6000
set_option maxHeartbeats 4000000
namespace Go.Proofs.Ytppdfjdfjfoddaa
namespace Ev
def placeI (a l : Int) : Nat := ((letters a).filter fun m => decide (m < l)).length
def goI (al : Int) (rs : List (List Int)) (q l : Int) : Int := if bitAt al l = true then (rs.getD q.toNat []).getD (placeI al l) 0 else q
theorem six {l : Int} (h0 : 0 ≤ l) (h1 : l < 6) : l = 0 ∨ l = 1 ∨ l = 2 ∨ l = 3 ∨ l = 4 ∨ l = 5 := by omega
theorem place_lt6 {a l : Int} (h0 : 0 ≤ l) (h1 : l < 6) (hb : bitAt a l = true) : placeI a l < (letters a).length ∧ (letters a)[placeI a l]? = some l := by
 unfold placeI letters
 generalize bitAt a = p at *
 rcases six h0 h1 with rfl | rfl | rfl | rfl | rfl | rfl <;>
  cases h0' : p 0 <;> cases h1' : p 1 <;> cases h2' : p 2 <;> cases h3' : p 3 <;> cases h4' : p 4 <;> cases h5' : p 5 <;> simp_all [List.filter]
theorem letters_mem {a l : Int} : l ∈ letters a ↔ (0 ≤ l ∧ l < 6) ∧ bitAt a l = true := by
 unfold letters
 rw [List.mem_filter]
 constructor
 ·rintro ⟨h1, h2⟩
  simp at h1
  exact ⟨by omega, h2⟩
 ·rintro ⟨h1, h2⟩
  refine ⟨?_, h2⟩
  rcases six h1.1 h1.2 with rfl | rfl | rfl | rfl | rfl | rfl <;> simp
theorem letters_nodup (a : Int) : (letters a).Nodup := by
 unfold letters
 exact List.Nodup.sublist List.filter_sublist (by decide)
def fillN (q : Nat) : Nat → Nat → List Int → List Int
 | 0, _, t => t
 | j + 1, i, t => fillN q j (i + 1) (t.set (q * 6 + i) q)
def fillL (q : Nat) (row : List Int) : List Int → Nat → List Int → List Int
 | [], _, t => t
 | l :: ls, i, t => fillL q row ls (i + 1) (t.set (q * 6 + l.toNat) (row.getD i 0))
def fillT (ls : List Int) : List (List Int) → Nat → List Int → List Int
 | [], _, t => t
 | r :: rs, q, t => fillT ls rs (q + 1) (fillL q r ls 0 (fillN q 6 0 t))
def tableL (al : Int) (rs : List (List Int)) : List Int := fillT (letters al) rs 0 (List.replicate (rs.length * 6) 0)
theorem fillN_len : ∀ (j q i : Nat) (t : List Int), (fillN q j i t).length = t.length
 | 0, _, _, _ => rfl
 | j + 1, q, i, t => by simp [fillN, fillN_len j]
theorem fillL_len : ∀ (ls : List Int) (q i : Nat) (row t : List Int), (fillL q row ls i t).length = t.length
 | [], _, _, _, _ => rfl
 | l :: ls, q, i, row, t => by simp [fillL, fillL_len ls]
theorem fillT_len : ∀ (rs : List (List Int)) (ls : List Int) (q : Nat) (t : List Int), (fillT ls rs q t).length = t.length
 | [], _, _, _ => rfl
 | r :: rs, ls, q, t => by simp [fillT, fillT_len rs, fillL_len, fillN_len]
theorem tableL_len (al : Int) (rs : List (List Int)) : (tableL al rs).length = rs.length * 6 := by simp [tableL, fillT_len]
theorem getD_set {t : List Int} {k p : Nat} {v : Int} : (t.set k v).getD p 0 = if p = k ∧ k < t.length then v else t.getD p 0 := by
 simp only [List.getD_eq_getElem?_getD, List.getElem?_set]
 by_cases h : k = p
 ·subst h
  by_cases h2 : k < t.length
  ·simp [h2]
  ·simp [h2]
 ·have h' : ¬ p = k := fun e => h e.symm
  simp [h, h']
theorem fillN_get : ∀ (j q i : Nat) (t : List Int) (p : Nat), q * 6 + i + j ≤ t.length → (fillN q j i t).getD p 0 = if q * 6 + i ≤ p ∧ p < q * 6 + i + j then (q : Int) else t.getD p 0
 | 0, q, i, t, p, h => by
  simp only [fillN]
  rw [if_neg (by omega)]
 | j + 1, q, i, t, p, h => by
  simp only [fillN]
  rw [fillN_get j q (i + 1) _ p (by simp; omega), getD_set]
  by_cases h1 : q * 6 + (i + 1) ≤ p ∧ p < q * 6 + (i + 1) + j
  ·rw [if_pos h1, if_pos (by omega)]
  ·rw [if_neg h1]
   by_cases h2 : p = q * 6 + i
   ·rw [if_pos ⟨h2, by omega⟩, if_pos (by omega)]
   ·rw [if_neg (by omega), if_neg (by omega)]
theorem fillL_get_out : ∀ (ls : List Int) (q i : Nat) (row t : List Int) (p : Nat), (∀ l ∈ ls, p ≠ q * 6 + l.toNat) → (fillL q row ls i t).getD p 0 = t.getD p 0
 | [], _, _, _, _, _, _ => rfl
 | l :: ls, q, i, row, t, p, h => by
  simp only [fillL]
  rw [fillL_get_out ls q (i + 1) row _ p fun m hm => h m (by simp [hm]), getD_set, if_neg]
  intro hc
  exact h l (by simp) hc.1
theorem fillL_get_in : ∀ (ls : List Int) (q i : Nat) (row t : List Int) (k : Nat) (l : Int), ls[k]? = some l → ls.Nodup → (∀ m ∈ ls, 0 ≤ m) → q * 6 + l.toNat < t.length → (fillL q row ls i t).getD (q * 6 + l.toNat) 0 = row.getD (i + k) 0
 | l' :: ls, q, i, row, t, 0, l, h, hn, hp, hl => by
  simp only [List.getElem?_cons_zero, Option.some.injEq] at h
  subst h
  simp only [fillL]
  rw [fillL_get_out, getD_set, if_pos ⟨rfl, hl⟩, Nat.add_zero]
  intro m hm hc
  have h1 : m = l' := by
   have h2 := hp m (by simp [hm])
   have h3 := hp l' (by simp)
   omega
  subst h1
  exact (List.nodup_cons.1 hn).1 hm
 | l' :: ls, q, i, row, t, k + 1, l, h, hn, hp, hl => by
  simp only [fillL]
  rw [fillL_get_in ls q (i + 1) row _ k l (by simpa using h) (List.nodup_cons.1 hn).2 (fun m hm => hp m (by simp [hm])) (by simpa using hl)]
  congr 1
  omega
theorem letters_pos {a : Int} : ∀ m ∈ letters a, 0 ≤ m := fun m hm => (letters_mem.1 hm).1.1
theorem fillT_get {a : Int} : ∀ (rs : List (List Int)) (q0 : Nat) (t : List Int) (q l : Nat), l < 6 → (q0 + rs.length) * 6 ≤ t.length →
  (fillT (letters a) rs q0 t).getD (q * 6 + l) 0 = if q0 ≤ q ∧ q < q0 + rs.length then (if bitAt a l = true then (rs.getD (q - q0) []).getD (placeI a l) 0 else (q : Int)) else t.getD (q * 6 + l) 0
 | [], q0, t, q, l, hl, ht => by
  simp only [fillT]
  rw [if_neg (by simp only [List.length_nil]; omega)]
 | r :: rs, q0, t, q, l, hl, ht => by
  simp only [List.length_cons] at ht ⊢
  simp only [fillT]
  rw [fillT_get rs (q0 + 1) _ q l hl (by rw [fillL_len, fillN_len]; omega)]
  by_cases h1 : q0 + 1 ≤ q ∧ q < q0 + 1 + rs.length
  ·rw [if_pos h1, if_pos (show q0 ≤ q ∧ q < q0 + (rs.length + 1) by omega)]
   obtain ⟨d, hd⟩ : ∃ d, q - q0 = d + 1 := ⟨q - q0 - 1, by omega⟩
   rw [hd, List.getD_cons_succ, show q - (q0 + 1) = d by omega]
  ·rw [if_neg h1]
   by_cases h2 : q = q0
   ·subst h2
    rw [if_pos (show q ≤ q ∧ q < q + (rs.length + 1) by omega), Nat.sub_self, List.getD_cons_zero]
    by_cases hb : bitAt a l = true
    ·rw [if_pos hb]
     have hp := place_lt6 (a := a) (l := l) (by omega) (by omega) hb
     have hg := fillL_get_in (letters a) q 0 r (fillN q 6 0 t) (placeI a l) l hp.2 (letters_nodup a) letters_pos (by rw [fillN_len]; simp; omega)
     rw [Int.toNat_natCast] at hg
     rw [hg, Nat.zero_add]
    ·rw [if_neg hb, fillL_get_out, fillN_get _ _ _ _ _ (by omega), if_pos (by omega)]
     intro m hm hc
     have hm2 := letters_mem.1 hm
     have : m = l := by omega
     subst this
     exact hb hm2.2
   ·rw [if_neg (show ¬ (q0 ≤ q ∧ q < q0 + (rs.length + 1)) by omega), fillL_get_out, fillN_get _ _ _ _ _ (by omega), if_neg (by omega)]
    intro m hm hc
    have hm2 := letters_mem.1 hm
    omega
theorem tableL_get {al : Int} {rs : List (List Int)} {q l : Int} (h0 : 0 ≤ q) (h1 : q < rs.length) (h2 : 0 ≤ l) (h3 : l < 6) : (tableL al rs).getD (q.toNat * 6 + l.toNat) 0 = goI al rs q l := by
 unfold tableL goI
 rw [fillT_get rs 0 _ q.toNat l.toNat (by omega) (by simp)]
 rw [if_pos (by omega), Nat.sub_zero, show ((l.toNat : Nat) : Int) = l by omega, show ((q.toNat : Nat) : Int) = q by omega]
theorem t6_head {al : Int} {rs : List (List Int)} {q l : Int} (h0 : 0 ≤ q) (h1 : q < rs.length) (h2 : 0 ≤ l) (h3 : l < 6) : ((((ints (tableL al rs)).drop (q.toNat * 6)).drop l.toNat).map A.d).head? = some (.d (.int .i64 (goI al rs q l))) := by
 rw [List.drop_drop, ints_head (by rw [tableL_len]; omega), tableL_get h0 h1 h2 h3]
theorem u_t6 : env.P.underlying 56 = some (.slice 62) := by kernel_rfl
theorem u_a6 : env.P.underlying 62 = some (.array 6 3) := by kernel_rfl
theorem c_a6 : env.P.cellsOf 62 = 6 := by kernel_rfl
theorem flat_rep6 : ∀ n : Nat, (List.replicate n [D.int .i64 0, .int .i64 0, .int .i64 0, .int .i64 0, .int .i64 0, .int .i64 0]).flatten = ints (List.replicate (n * 6) 0)
 | 0 => rfl
 | n + 1 => by
  rw [List.replicate_succ, List.flatten_cons, flat_rep6 n, Nat.succ_mul]
  simp [ints, List.replicate_succ]
theorem make_t6 {n : Int} {h : H} (h0 : 0 ≤ n) (h1 : n ≤ 4294967296) : aMakeSlice env.P h 56 n n = some (.sl h.length 0 0 n.toNat, h ++ [.arr (ints (List.replicate (n.toNat * 6) 0)) 6 0]) := by
 have hm : n ≤ (maxNeed : Nat) := by unfold maxNeed; omega
 have he : elemT env.P 56 = some 62 := by kernel_rfl
 have hz : zeroA env.P 62 = some (.agg [.d (.int .i64 0), .d (.int .i64 0), .d (.int .i64 0), .d (.int .i64 0), .d (.int .i64 0), .d (.int .i64 0)]) := by kernel_rfl
 have hok : elemOk env.P 62 = true := by kernel_rfl
 simp only [aMakeSlice, he, hz, cellsA, dataOf, Option.map_some, hok, h0, hm, c_a6, Int.le_refl, and_self, if_true, flat_rep6]
theorem x4j {R : Type} {L n : Nat} (hn : 1 ≤ n) {al q : Int} {rs : List (List Int)} (hs : rowsShort rs) {r : List Int} (hq0 : 0 ≤ q) (hq1 : q < rs.length) {k : Exit → List A → H → Option R} : ∀ (j : Nat) (i : Int) (m : Nat) (t : List Int) (len : Nat) (h0 : 0 ≤ i) (hi : i + j = 6) (hm : j < m) (ht : t.length = rs.length * 6) (hlen : len = rs.length),
  kLoop env (evCall env L n) L 0 [] (Z2 (U4 (U1 (Z8 (Z2 (Z1 (U2 (U1 (Z4 (U1 (Z8 (Z1 (U2 (U1 (Z16 ([])))))))))))))))) (x25 1) (U2 (Z4 (Z1 (U8 (U2 (U1 (Z2 (Z1 (U4 (Z1 (U16 (U8 (U4 ([])))))))))))))) m (Y2 (.d .nils :: .sl 0 0 0 len :: .d (.ivs (letters al).length (ints (letters al))) :: .d (.int .i64 q) :: .d (.ivs r.length (ints r)) :: Y8 (Y2 (Y1 (.d (.ivs rs.length (rowsD rs)) :: .d (.int .i64 (rs.length)) :: .d (.int .i64 q) :: Y4 (.d (.int .i64 i) :: Y16 (Y8 (Y4 ([]))))))))) [.arr (ints t) 6 0] k
  = k (.exit 2) (Y2 (.d .nils :: .sl 0 0 0 rs.length :: .d (.ivs (letters al).length (ints (letters al))) :: .d (.int .i64 q) :: .d (.ivs r.length (ints r)) :: Y8 (Y2 (Y1 (.d (.ivs rs.length (rowsD rs)) :: .d (.int .i64 (rs.length)) :: .d (.int .i64 q) :: Y4 (.d (.int .i64 6) :: Y16 (Y8 (Y4 ([]))))))))) [.arr (ints (fillN q.toNat j i.toNat t)) 6 0] := by
 intro j
 have hrl := hs.1
 induction j with
 | zero =>
  intro i m t len h0 hi hm ht hlen
  obtain ⟨m, rfl⟩ : ∃ q, m = q + 1 := ⟨m - 1, by omega⟩
  obtain rfl : i = 6 := by omega
  rw [xe8]
  simp only [xcw, Try.f36, SLM, simprocAttr]
  simp -implicitDefEqProofs (maxSteps := 2000000) (disch := first | assumption | (refine Shut.mk ?_; kernel_rfl) | omega | (simp only [GT]; done) | (simp only [LN] <;> omega) | fail) only [↓DN, ↓kAsg, ↓kRet, UP, simprocAttr, ↓x3, LA, Int.lt_irrefl, hlen]
  rfl
 | succ j ih =>
  intro i m t len h0 hi hm ht hlen
  obtain ⟨m, rfl⟩ : ∃ q, m = q + 1 := ⟨m - 1, by omega⟩
  subst hlen
  have hc : i < 6 := by omega
  have hk : q.toNat * 6 + i.toNat < t.length := by omega
  have e1 : (i + 1).toNat = i.toNat + 1 := by omega
  have e2 : ((q.toNat : Nat) : Int) = q := by omega
  rw [xe8]
  simp only [xcw, Try.f36, SLM, simprocAttr]
  simp -implicitDefEqProofs (maxSteps := 2000000) (disch := first | assumption | (refine Shut.mk ?_; kernel_rfl) | omega | (simp only [GT]; done) | (simp only [LN] <;> omega) | fail) only [↓DN, ↓kAsg, ↓kRet, UP, simprocAttr, ↓x3, LA, hc, hq1, u_t6, u_a6, c_a6, u_int, c_int, ↓xok, ↓ih]
  rw [e1]
  simp only [fillN, e2]
theorem ints_splice {t : List Int} {k : Nat} {v : Int} (h : k < t.length) : List.take k (ints t) ++ [.int .i64 v] ++ List.drop (k + 1) (ints t) = ints (t.set k v) := ints_set h
theorem letters_drop {a : Int} {i : Nat} (h : i < (letters a).length) : (letters a).drop i = (letters a).getD i 0 :: (letters a).drop (i + 1) := drop_go h
theorem x6s {R : Type} {L n : Nat} (hn : 1 ≤ n) {al q : Int} {rs : List (List Int)} (hs : rowsShort rs) {r : List Int} (hr : r.length ≤ 4294967296) (hrl2 : (letters al).length ≤ r.length) (hq0 : 0 ≤ q) (hq1 : q < rs.length) {k : Exit → List A → H → Option R} : ∀ (j : Nat) (i : Int) (m : Nat) (t : List Int) (len : Nat) (h0 : 0 ≤ i) (hi : i + j = (letters al).length) (hm : j < m) (ht : t.length = rs.length * 6) (hlen : len = rs.length),
  kLoop env (evCall env L n) L 0 [] (Z2 (U4 (U1 (Z8 (Z2 (Z1 (U2 (U1 (Z4 (U1 (Z8 (Z1 (U2 (U1 (Z16 ([])))))))))))))))) (x25 2) (U2 (Z4 (Z1 (U8 (U2 (U1 (Z2 (Z1 (U4 (Z1 (U8 (U1 (Z2 (Z1 (U16 ([])))))))))))))))) m (Y2 (.d .nils :: .sl 0 0 0 len :: .d (.ivs (letters al).length (ints (letters al))) :: .d (.int .i64 q) :: .d (.ivs r.length (ints r)) :: Y8 (Y2 (Y1 (.d (.ivs rs.length (rowsD rs)) :: .d (.int .i64 (rs.length)) :: .d (.int .i64 q) :: Y4 (.d (.int .i64 6) :: Y8 (Y1 (.d (.ivs (letters al).length (ints (letters al))) :: .d (.int .i64 ((letters al).length)) :: .d (.int .i64 i) :: Y16 ([]))))))))) [.arr (ints t) 6 0] k
  = k (.exit 4) (Y2 (.d .nils :: .sl 0 0 0 rs.length :: .d (.ivs (letters al).length (ints (letters al))) :: .d (.int .i64 q) :: .d (.ivs r.length (ints r)) :: Y8 (Y2 (Y1 (.d (.ivs rs.length (rowsD rs)) :: .d (.int .i64 (rs.length)) :: .d (.int .i64 q) :: Y4 (.d (.int .i64 6) :: Y8 (Y1 (.d (.ivs (letters al).length (ints (letters al))) :: .d (.int .i64 ((letters al).length)) :: .d (.int .i64 ((letters al).length)) :: Y16 ([]))))))))) [.arr (ints (fillL q.toNat r ((letters al).drop i.toNat) i.toNat t)) 6 0] := by
 intro j
 have hrl := hs.1
 have hll := letters_len al
 induction j with
 | zero =>
  intro i m t len h0 hi hm ht hlen
  obtain ⟨m, rfl⟩ : ∃ q, m = q + 1 := ⟨m - 1, by omega⟩
  obtain rfl : i = (letters al).length := by omega
  rw [xeh]
  simp only [xcx, Try.f36, SLM, simprocAttr]
  simp -implicitDefEqProofs (maxSteps := 2000000) (disch := first | assumption | (refine Shut.mk ?_; kernel_rfl) | omega | (simp only [GT]; done) | (simp only [LN] <;> omega) | fail) only [↓DN, ↓kAsg, ↓kRet, UP, simprocAttr, ↓x3, ↓x4j, LA, Int.lt_irrefl, hlen]
  simp only [Int.toNat_natCast, List.drop_length, fillL]
 | succ j ih =>
  intro i m t len h0 hi hm ht hlen
  obtain ⟨m, rfl⟩ : ∃ q, m = q + 1 := ⟨m - 1, by omega⟩
  subst hlen
  have hc : i < (letters al).length := by omega
  have hk1 : i.toNat < (letters al).length := by omega
  have hk2 : i.toNat < r.length := by omega
  have hv := getD_all letters_in hk1
  have hv6 : (letters al).getD i.toNat 0 < 6 := by omega
  have hv0 := hv.1
  have hk : q.toNat * 6 + ((letters al).getD i.toNat 0).toNat < t.length := by omega
  have e1 : (i + 1).toNat = i.toNat + 1 := by omega
  rw [xeh]
  simp only [xcx, Try.f36, SLM, simprocAttr]
  simp -implicitDefEqProofs (maxSteps := 2000000) (disch := first | assumption | (refine Shut.mk ?_; kernel_rfl) | omega | (simp only [GT]; done) | (simp only [LN] <;> omega) | fail) only [↓DN, ↓kAsg, ↓kRet, UP, simprocAttr, ↓x3, ↓x4j, LA, hc, hq1, u_ints, u_t6, u_a6, c_a6, u_int, c_int, ↓xok, ints_splice, ↓ih]
  rw [letters_drop hk1, e1]
  simp only [fillL]
def rowsWide (w : Nat) (rs : List (List Int)) : Prop := ∀ r ∈ rs, r.length = w
theorem wide_at {w : Nat} {rs : List (List Int)} (h : rowsWide w rs) {k : Nat} (hk : k < rs.length) : (rs.getD k []).length = w := by
 rw [List.getD_eq_getElem?_getD, List.getElem?_eq_getElem hk]
 exact h _ (List.getElem_mem hk)
theorem xe5 {R : Type} {L n : Nat} (hL : 2 ^ 60 ≤ L) (hn : 1 ≤ n) {al : Int} {rs : List (List Int)} (hs : rowsShort rs) (hw : rowsWide (letters al).length rs) {k : Exit → List A → H → Option R} : ∀ (j : Nat) (i : Int) (m : Nat) (t : List Int) (len : Nat) (h0 : 0 ≤ i) (hi : i + j = rs.length) (hm : j < m) (ht : t.length = rs.length * 6) (hlen : len = rs.length),
  kLoop env (evCall env L n) L 0 [] (Z2 (U4 (U1 (Z8 (Z2 (Z1 (U2 (U1 (Z4 (U1 (Z8 (Z1 (U2 (U1 (Z16 ([])))))))))))))))) (x25 0) (U2 (Z2 (Z1 (U8 (U4 (U1 (Z2 (Z1 (U32 (U1 ([]))))))))))) m (Y2 (.d .nils :: .sl 0 0 0 len :: .d (.ivs (letters al).length (ints (letters al))) :: Y8 (Y4 (Y1 (.d (.ivs rs.length (rowsD rs)) :: .d (.int .i64 (rs.length)) :: .d (.int .i64 i) :: Y32 (Y1 ([]))))))) [.arr (ints t) 6 0] k
  = k (.exit 0) (Y2 (.d .nils :: .sl 0 0 0 rs.length :: .d (.ivs (letters al).length (ints (letters al))) :: Y8 (Y4 (Y1 (.d (.ivs rs.length (rowsD rs)) :: .d (.int .i64 (rs.length)) :: .d (.int .i64 (rs.length)) :: Y32 (Y1 ([]))))))) [.arr (ints (fillT (letters al) (rs.drop i.toNat) i.toNat t)) 6 0] := by
 intro j
 have hrl := hs.1
 have hll := letters_len al
 induction j with
 | zero =>
  intro i m t len h0 hi hm ht hlen
  obtain ⟨m, rfl⟩ : ∃ q, m = q + 1 := ⟨m - 1, by omega⟩
  obtain rfl : i = rs.length := by omega
  rw [xen]
  simp only [xcy, Try.f36, SLM, simprocAttr]
  simp -implicitDefEqProofs (maxSteps := 2000000) (disch := first | assumption | (refine Shut.mk ?_; kernel_rfl) | omega | (simp only [GT]; done) | (simp only [LN] <;> omega) | fail) only [↓DN, ↓kAsg, ↓kRet, UP, simprocAttr, ↓x3, ↓x4j, ↓x6s, LA, Int.lt_irrefl, hlen]
  simp only [Int.toNat_natCast, List.drop_length, fillT]
 | succ j ih =>
  intro i m t len h0 hi hm ht hlen
  obtain ⟨m, rfl⟩ : ∃ q, m = q + 1 := ⟨m - 1, by omega⟩
  subst hlen
  have hc : i < rs.length := by omega
  have hk : i.toNat < rs.length := by omega
  have hrow := short_at hs hk
  have hrw := wide_at hw hk
  have e1 : (i + 1).toNat = i.toNat + 1 := by omega
  have loop_a1 := fun {R : Type} {k : Exit → List A → H → Option R} => x4j (R := R) (L := L) (n := n) hn (al := al) (q := i) (r := rs.getD i.toNat []) hs h0 hc (k := k) 6 0 L t rs.length (by omega) (by omega) (by omega) ht rfl
  have loop_a2 := fun {R : Type} {k : Exit → List A → H → Option R} => x6s (R := R) (L := L) (n := n) hn (al := al) (q := i) hs (r := rs.getD i.toNat []) hrow (by omega) h0 hc (k := k) (letters al).length 0 L (fillN i.toNat 6 0 t) rs.length (by omega) (by omega) (by omega) (by rw [fillN_len]; exact ht) rfl
  simp only [Int.toNat_zero, List.drop_zero] at loop_a1 loop_a2
  have ht2 : (fillL i.toNat (rs.getD i.toNat []) (letters al) 0 (fillN i.toNat 6 0 t)).length = rs.length * 6 := by rw [fillL_len, fillN_len]; exact ht
  clear hrw
  rw [xen]
  simp only [xcy, Try.f36, SLM, simprocAttr]
  simp -implicitDefEqProofs (maxSteps := 2000000) (disch := first | assumption | (refine Shut.mk ?_; kernel_rfl) | omega | (simp only [GT]; done) | (simp only [LN] <;> omega) | fail) only [↓DN, ↓kAsg, ↓kRet, UP, simprocAttr, ↓x3, ↓x4j, ↓x6s, LA, hc, u_ints, u_intss, c_ints, ↓loop_a1, ↓loop_a2, ↓ih]
  rw [drop_go hk (d := []), e1]
  simp only [fillT]
theorem xnr {L n : Nat} (hn : 3 ≤ n) (al : Int) (rs : List (List Int)) (z : Nat) (cs : List D) (hs : rowsShort rs) (hw : rowsWide (letters al).length rs) (hL : 2 ^ 60 ≤ L) : evCall env L n 36 [.agg [.d (.int .i64 al), .d (.ivs rs.length (rowsD rs)), .d (.ivs z cs)]] [] = some (.d (.ivs rs.length (ints (tableL al rs))), []) := by
 have hrl := hs.1
 have loop_a := fun {R : Type} {n : Nat} (hn : 1 ≤ n) {k : Exit → List A → H → Option R} => xe5 (R := R) (L := L) (n := n) hL hn (al := al) hs hw (k := k) rs.length 0 L (List.replicate (rs.length * 6) 0) rs.length (by omega) (by omega) (by omega) (by simp) rfl
 simp only [Int.toNat_zero, List.drop_zero] at loop_a
 have htl : (tableL al rs).length = rs.length * 6 := tableL_len al rs
 have htl2 : rs.length * 6 ≤ (fillT (letters al) rs 0 (List.replicate (rs.length * 6) 0)).length := by rw [fillT_len]; simp
 have htk : (ints (fillT (letters al) rs 0 (List.replicate (rs.length * 6) 0))).take (rs.length * 6) = ints (fillT (letters al) rs 0 (List.replicate (rs.length * 6) 0)) := ints_take (by rw [fillT_len]; simp)
 unfold tableL
 obtain ⟨n, rfl⟩ : ∃ m, n = m + 1 := ⟨n - 1, by omega⟩
 rw [xo1]
 simp only [xk5, Try.f36, SLM, simprocAttr]
 simp -implicitDefEqProofs (maxSteps := 2000000) (disch := first | assumption | (refine Shut.mk ?_; kernel_rfl) | omega | (simp only [GT]; done) | (simp only [LN] <;> omega) | fail) only [↓DN, ↓kAsg, ↓kRet, UP, simprocAttr, ↓x3, ↓xe5, ↓x4j, ↓x6s, LA, u_ints, u_intss, c_ints, u_t6, u_a6, c_a6, ↓make_t6, ↓loop_a, htk, ints_length, htl2]
theorem x1p {R : Type} {L n : Nat} {hq : H} {k : A → H → Option R} (hn : 3 ≤ n) (al : Int) (rs : List (List Int)) (z : Nat) (cs : List D) (hs : rowsShort rs) (hw : rowsWide (letters al).length rs) (hL : 2 ^ 60 ≤ L) : kCall env (evCall env L n) hq 36 [.agg [.d (.int .i64 al), .d (.ivs rs.length (rowsD rs)), .d (.ivs z cs)]] k = k (.d (.ivs rs.length (ints (tableL al rs)))) hq :=
 kCall_still rfl (xnr hn al rs z cs hs hw hL) rfl (.inr rfl)
end Ev
end Go.Proofs.Ytppdfjdfjfoddaa
