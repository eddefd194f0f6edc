/-
  Words: what the functions on words give.
-/
import Derived.Test.YtppdfjdfjfoddaaAutoL
section
set_option linter.unusedSimpArgs false
set_option linter.unusedVariables false
set_option maxRecDepth 8000
namespace Go.Proofs.Ytppdfjdfjfoddaa
namespace Ev
def ltr (b : UInt8) : Int := (b.toNat : Int) - 97
def byteI (l : Int) : UInt8 := UInt8.ofNat (97 + l).toNat
theorem i64_let {b : UInt8} : IntKind.i64.wrap ((b.toNat : Int) - 97) = ltr b := i64_id (by omega) (by have := toNat_lt b; omega)
theorem wrap_byte {l : Int} (h0 : 0 ≤ l) (h : l ≤ 5) : IntKind.u8.wrap (97 + l) = ((byteI l).toNat : Int) := by
 rw [u8_id (by omega) (by omega)]
 unfold byteI
 rw [UInt8.toNat_ofNat']
 omega
theorem xn6 {L n : Nat} (hn : 1 ≤ n) (s : List UInt8) (i : Int) (h0 : 0 ≤ i) (h : i < s.length) : evCall env L n 52 [.d (.str s), .d (.int .i64 i)] [] = some (.d (.int .i64 (if isLet (ltr (s.getD i.toNat 0)) then ltr (s.getD i.toNat 0) else -1)), []) := by
 obtain ⟨n, rfl⟩ : ∃ m, n = m + 1 := ⟨n - 1, by omega⟩
 rw [xn8]
 simp only [xja, Try.f52, SLM, simprocAttr]
 simp -implicitDefEqProofs (maxSteps := 2000000) (disch := first | assumption | (refine Shut.mk ?_; kernel_rfl) | omega | (simp only [GT]; done) | (simp only [LN] <;> omega) | fail) only [↓DN, ↓kAsg, ↓kRet, UP, simprocAttr, aIndex_str, ↓conv_uint8_int, i64_byte, i64_let]
 generalize ltr (s.getD i.toNat 0) = v
 unfold isLet
 by_cases h1 : v < 0
 ·have h2 : ¬ 0 ≤ v := by omega
  simp [h1, h2]
 ·have h2 : 0 ≤ v := by omega
  by_cases h3 : 6 ≤ v
  ·have h4 : ¬ v < 6 := by omega
   simp [h1, h2, h3, h4]
  ·have h4 : v < 6 := by omega
   simp [h1, h2, h3, h4]
theorem x13 {R : Type} {L n : Nat} {hq : H} {k : A → H → Option R} (hn : 1 ≤ n) (s : List UInt8) (i : Int) (h0 : 0 ≤ i) (h : i < s.length) : kCall env (evCall env L n) hq 52 [.d (.str s), .d (.int .i64 i)] k = k (.d (.int .i64 (if isLet (ltr (s.getD i.toNat 0)) then ltr (s.getD i.toNat 0) else -1))) hq :=
 kCall_still rfl (xn6 hn s i h0 h) rfl (.inl rfl)
theorem xl2 {L n : Nat} (hn : 1 ≤ n) (l : Int) (h0 : 0 ≤ l) (h : l ≤ 5) : evCall env L n 50 [.d (.int .i64 l)] [] = some (.d (.int .u8 (byteI l).toNat), []) := by
 have e : IntKind.u8.wrap (97 + l) = ((byteI l).toNat : Int) := wrap_byte h0 h
 obtain ⟨n, rfl⟩ : ∃ m, n = m + 1 := ⟨n - 1, by omega⟩
 rw [xl0]
 simp only [xgv, Try.f50, SLM, simprocAttr]
 simp -implicitDefEqProofs (maxSteps := 2000000) (disch := first | assumption | (refine Shut.mk ?_; kernel_rfl) | omega | (simp only [GT]; done) | (simp only [LN] <;> omega) | fail) only [↓DN, ↓kAsg, ↓kRet, UP, simprocAttr, ↓conv_int_uint8, e]
theorem x15 {R : Type} {L n : Nat} {hq : H} {k : A → H → Option R} (hn : 1 ≤ n) (l : Int) (h0 : 0 ≤ l) (h : l ≤ 5) : kCall env (evCall env L n) hq 50 [.d (.int .i64 l)] k = k (.d (.int .u8 (byteI l).toNat)) hq :=
 kCall_still rfl (xl2 hn l h0 h) rfl (.inl rfl)
def okB (b : UInt8) : Bool := isLet (ltr b)
def wordOK (s : List UInt8) : Bool := decide (s.length ≤ 50000) && s.all okB
def swapB (x y : Int) (b : UInt8) : UInt8 := byteI (swapI (ltr b) x y)
def swapWord (s : List UInt8) (x y : Int) : List UInt8 := if wordOK s && isLet x && isLet y then s.map (swapB x y) else []
def upTo {α : Type} (p : α → Bool) (l : List α) (i : Nat) : Int := (i : Int) + ((l.drop i).takeWhile p).length
theorem upTo_end {α : Type} {p : α → Bool} {l : List α} : upTo p l l.length = l.length := by
 unfold upTo; simp
theorem upTo_stop {α : Type} {p : α → Bool} {l : List α} {i : Nat} {d : α} (h : i < l.length) (hp : p (l.getD i d) = false) : upTo p l i = i := by
 unfold upTo
 rw [List.getD_eq_getElem?_getD, List.getElem?_eq_getElem h] at hp
 simp only [Option.getD_some] at hp
 rw [List.drop_eq_getElem_cons h, List.takeWhile_cons, hp]
 simp
theorem upTo_go {α : Type} {p : α → Bool} {l : List α} {i : Nat} {d : α} (h : i < l.length) (hp : p (l.getD i d) = true) : upTo p l i = upTo p l (i + 1) := by
 unfold upTo
 rw [List.getD_eq_getElem?_getD, List.getElem?_eq_getElem h] at hp
 simp only [Option.getD_some] at hp
 rw [List.drop_eq_getElem_cons h, List.takeWhile_cons, hp]
 simp; omega
theorem all_stop {α : Type} {p : α → Bool} {l : List α} {i : Nat} {d : α} (h : i < l.length) (hp : p (l.getD i d) = false) : (l.drop i).all p = false := by
 rw [List.getD_eq_getElem?_getD, List.getElem?_eq_getElem h] at hp
 simp only [Option.getD_some] at hp
 rw [List.drop_eq_getElem_cons h, List.all_cons, hp]
 rfl
theorem all_go {α : Type} {p : α → Bool} {l : List α} {i : Nat} {d : α} (h : i < l.length) (hp : p (l.getD i d) = true) : (l.drop i).all p = (l.drop (i + 1)).all p := by
 rw [List.getD_eq_getElem?_getD, List.getElem?_eq_getElem h] at hp
 simp only [Option.getD_some] at hp
 rw [List.drop_eq_getElem_cons h, List.all_cons, hp]
 rfl
theorem drop_zero_all {α : Type} {p : α → Bool} {l : List α} : (l.drop (0 : Int).toNat).all p = l.all p := by simp
def inB (a : Int) (b : UInt8) : Bool := okB b && bitAt a (ltr b)
def wordIn (a : Int) (s : List UInt8) : Bool := isAlpha a && decide (s.length ≤ 50000) && s.all (inB a)
theorem has_at {a : Int} {b : UInt8} : (decide (0 ≤ (if isLet (ltr b) then ltr b else -1)) && bitAt a (if isLet (ltr b) then ltr b else -1)) = inB a b := by
 unfold inB okB
 cases h : isLet (ltr b) with
 | true =>
  have := isLet_iff.1 h
  have h2 : 0 ≤ ltr b := by omega
  simp [h2]
 | false => simp
theorem x6g {R : Type} {L n : Nat} (hn : 1 ≤ n) {s : List UInt8} {a : Int} (hs : s.length < 4294967296) {k : Exit → List A → H → Option R} : ∀ (i : Int) (m : Nat) (h0 : 0 ≤ i) (hi : i ≤ s.length) (hm : (s.length : Int) - i < m),
  kLoop env (evCall env L n) L 0 [] (U2 (Z2 (U1 (Z8 (Z2 (U2 (Z8 (Z1 ([]))))))))) (x5z 0) (Z2 (U2 (Z1 (U8 (U2 (Z2 (U8 (U1 ([]))))))))) m (.d (.str s) :: .d (.int .i64 a) :: Y2 (.d (.bool false) :: Y8 (Y2 (.d (.int .i64 (s.length)) :: .d (.int .i64 i) :: Y8 (Y1 ([])))))) [] k
  = if (s.drop i.toNat).all (inB a) then k (.exit 0) (.d (.str s) :: .d (.int .i64 a) :: Y2 (.d (.bool false) :: Y8 (Y2 (.d (.int .i64 (s.length)) :: .d (.int .i64 ((upTo (inB a) s i.toNat))) :: Y8 (Y1 ([])))))) [] else k .ret (.d (.str s) :: .d (.int .i64 a) :: Y2 (.d (.bool false) :: Y8 (Y2 (.d (.int .i64 (s.length)) :: .d (.int .i64 ((upTo (inB a) s i.toNat))) :: Y8 (Y1 ([])))))) [] := by
 intro i m h0 hi hm
 obtain ⟨j, hj⟩ : ∃ j : Nat, (j : Int) = (s.length : Int) - i := ⟨((s.length : Int) - i).toNat, by omega⟩
 induction j generalizing i m with
 | zero =>
  obtain ⟨m, rfl⟩ : ∃ q, m = q + 1 := ⟨m - 1, by omega⟩
  obtain rfl : i = s.length := by omega
  rw [x75]
  simp only [x6v, Try.f28, SLM, simprocAttr]
  simp -implicitDefEqProofs (maxSteps := 2000000) (disch := first | assumption | (refine Shut.mk ?_; kernel_rfl) | omega | (simp only [GT]; done) | (simp only [LN] <;> omega) | fail) only [↓DN, ↓kAsg, ↓kRet, UP, simprocAttr, ↓x4, ↓x13, ↓x5l, u_string, Int.lt_irrefl]
  simp only [Int.toNat_natCast, List.drop_length, List.all_nil, if_true, upTo_end]
 | succ j ih =>
  obtain ⟨m, rfl⟩ : ∃ q, m = q + 1 := ⟨m - 1, by omega⟩
  have hc : i < s.length := by omega
  have hk : i.toNat < s.length := by omega
  have e1 : (i + 1).toNat = i.toNat + 1 := by omega
  cases hb : inB a (s.getD i.toNat 0) with
  | true =>
   rw [x75]
   simp only [x6v, Try.f28, SLM, simprocAttr]
   simp -implicitDefEqProofs (maxSteps := 2000000) (disch := first | assumption | (refine Shut.mk ?_; kernel_rfl) | omega | (simp only [GT]; done) | (simp only [LN] <;> omega) | fail) only [↓DN, ↓kAsg, ↓kRet, UP, simprocAttr, ↓x4, u_string, hc, ↓x13, ↓x5l, has_at, hb, ↓ih]
   rw [e1, all_go hk hb, upTo_go hk hb]
  | false =>
   rw [all_stop hk hb, upTo_stop hk hb]
   rw [x75]
   simp only [x6v, Try.f28, SLM, simprocAttr]
   simp -implicitDefEqProofs (maxSteps := 2000000) (disch := first | assumption | (refine Shut.mk ?_; kernel_rfl) | omega | (simp only [GT]; done) | (simp only [LN] <;> omega) | fail) only [↓DN, ↓kAsg, ↓kRet, UP, simprocAttr, ↓x4, u_string, hc, ↓x13, ↓x5l, has_at, hb]
   rw [Int.toNat_of_nonneg h0]
theorem xlo {L n : Nat} (hn : 2 ≤ n) (s : List UInt8) (a : Int) (hL : 2 ^ 60 ≤ L) : evCall env L n 28 [.d (.str s), .d (.int .i64 a)] [] = some (.d (.bool (wordIn a s)), []) := by
 unfold wordIn
 cases hal : isAlpha a with
 | false =>
  obtain ⟨n, rfl⟩ : ∃ m, n = m + 1 := ⟨n - 1, by omega⟩
  rw [x7e]
  simp only [x6n, Try.f28, SLM, simprocAttr]
  simp -implicitDefEqProofs (maxSteps := 2000000) (disch := first | assumption | (refine Shut.mk ?_; kernel_rfl) | omega | (simp only [GT]; done) | (simp only [LN] <;> omega) | fail) only [↓DN, ↓kAsg, ↓kRet, UP, simprocAttr, ↓x13, ↓x5l, ↓x6g, u_string, ↓x4, hal]
  all_goals rfl
 | true =>
  by_cases hs : s.length ≤ 50000
  ·have hs' : ¬ (50000 : Int) < s.length := by omega
   cases ha : s.all (inB a) with
   | true =>
    obtain ⟨n, rfl⟩ : ∃ m, n = m + 1 := ⟨n - 1, by omega⟩
    rw [x7e]
    simp only [x6n, Try.f28, SLM, simprocAttr]
    simp -implicitDefEqProofs (maxSteps := 2000000) (disch := first | assumption | (refine Shut.mk ?_; kernel_rfl) | omega | (simp only [GT]; done) | (simp only [LN] <;> omega) | fail) only [↓DN, ↓kAsg, ↓kRet, UP, simprocAttr, ↓x13, ↓x5l, u_string, ↓x4, hal, hs', ↓x6g, drop_zero_all, ha]
    simp [hs]
   | false =>
    obtain ⟨n, rfl⟩ : ∃ m, n = m + 1 := ⟨n - 1, by omega⟩
    rw [x7e]
    simp only [x6n, Try.f28, SLM, simprocAttr]
    simp -implicitDefEqProofs (maxSteps := 2000000) (disch := first | assumption | (refine Shut.mk ?_; kernel_rfl) | omega | (simp only [GT]; done) | (simp only [LN] <;> omega) | fail) only [↓DN, ↓kAsg, ↓kRet, UP, simprocAttr, ↓x13, ↓x5l, u_string, ↓x4, hal, hs', ↓x6g, drop_zero_all, ha]
    all_goals simp
  ·have hs' : (50000 : Int) < s.length := by omega
   obtain ⟨n, rfl⟩ : ∃ m, n = m + 1 := ⟨n - 1, by omega⟩
   rw [x7e]
   simp only [x6n, Try.f28, SLM, simprocAttr]
   simp -implicitDefEqProofs (maxSteps := 2000000) (disch := first | assumption | (refine Shut.mk ?_; kernel_rfl) | omega | (simp only [GT]; done) | (simp only [LN] <;> omega) | fail) only [↓DN, ↓kAsg, ↓kRet, UP, simprocAttr, ↓x13, ↓x5l, ↓x6g, u_string, ↓x4, hal, hs']
   simp [hs]
theorem x55 {R : Type} {L n : Nat} {hq : H} {k : A → H → Option R} (hn : 2 ≤ n) (s : List UInt8) (a : Int) (hL : 2 ^ 60 ≤ L) : kCall env (evCall env L n) hq 28 [.d (.str s), .d (.int .i64 a)] k = k (.d (.bool (wordIn a s))) hq :=
 kCall_still rfl (xlo hn s a hL) rfl (.inl rfl)
theorem xmc {L n : Nat} (hn : 3 ≤ n) (s : List UInt8) (hL : 2 ^ 60 ≤ L) : evCall env L n 53 [.d (.str s)] [] = some (.d (.bool (wordOK s)), []) := by
 have e : wordIn 63 s = wordOK s := by
  unfold wordIn wordOK
  have : inB 63 = okB := by
   funext b
   unfold inB okB
   cases h : isLet (ltr b) with
   | false => rfl
   | true =>
    have hb := isLet_iff.1 h
    have : ltr b = 0 ∨ ltr b = 1 ∨ ltr b = 2 ∨ ltr b = 3 ∨ ltr b = 4 ∨ ltr b = 5 := by omega
    rcases this with h | h | h | h | h | h <;> rw [h] <;> decide
  rw [this]
  rfl
 obtain ⟨n, rfl⟩ : ∃ m, n = m + 1 := ⟨n - 1, by omega⟩
 rw [xma]
 simp only [xi6, Try.f53, SLM, simprocAttr]
 simp -implicitDefEqProofs (maxSteps := 2000000) (disch := first | assumption | (refine Shut.mk ?_; kernel_rfl) | omega | (simp only [GT]; done) | (simp only [LN] <;> omega) | fail) only [↓DN, ↓kAsg, ↓kRet, UP, simprocAttr, ↓x55, e]
theorem x5i {R : Type} {L n : Nat} {hq : H} {k : A → H → Option R} (hn : 3 ≤ n) (s : List UInt8) (hL : 2 ^ 60 ≤ L) : kCall env (evCall env L n) hq 53 [.d (.str s)] k = k (.d (.bool (wordOK s))) hq :=
 kCall_still rfl (xmc hn s hL) rfl (.inl rfl)
theorem map_go {α β : Type} {f : α → β} {l : List α} {i : Nat} {d : α} (h : i < l.length) : (l.drop i).map f = f (l.getD i d) :: (l.drop (i + 1)).map f := by
 rw [List.drop_eq_getElem_cons h, List.getD_eq_getElem?_getD, List.getElem?_eq_getElem h]
 rfl
theorem all_at {α : Type} {p : α → Bool} {l : List α} {d : α} (ha : l.all p = true) {i : Nat} (h : i < l.length) : p (l.getD i d) = true := by
 rw [List.getD_eq_getElem?_getD, List.getElem?_eq_getElem h]
 exact List.all_eq_true.1 ha _ (List.getElem_mem h)
theorem string_rep (s : List UInt8) : (s.drop (0 : Int).toNat) = s := by simp
theorem set_go {α : Type} {l : List α} {k : Nat} {v : α} {m : List α} (h : k < l.length) : (l.set k v).take (k + 1) ++ m = l.take k ++ (v :: m) := by
 rw [take_set h]; simp
theorem x7d {R : Type} {L n : Nat} (hn : 1 ≤ n) {s : List UInt8} {x y : Int} (hx : 0 ≤ x) (hx6 : x ≤ 5) (hy : 0 ≤ y) (hy6 : y ≤ 5) (hs : s.length ≤ 50000) (ha : s.all okB = true) {k : Exit → List A → H → Option R} : ∀ (i : Int) (m : Nat) (o : List UInt8) (len : Nat) (h0 : 0 ≤ i) (hi : i ≤ s.length) (hm : (s.length : Int) - i < m) (hl : len = o.length) (ho : o.length = s.length),
  kLoop env (evCall env L n) L 0 [] (U2 (U1 (Z2 (Z1 (U2 (Z16 (Z2 (U2 (Z8 (Z4 (Z2 (Z1 ([]))))))))))))) (x6y 0) (Z2 (Z1 (U2 (U1 (Z2 (U16 (U2 (Z2 (U8 (U4 (U2 (U1 ([]))))))))))))) m (.d (.str s) :: .d (.int .i64 x) :: .d (.int .i64 y) :: Y2 (Y1 (.d (.str ([])) :: .sl 0 0 0 len :: Y16 (Y2 (.d (.int .i64 (s.length)) :: .d (.int .i64 i) :: Y8 (Y4 (Y2 (Y1 ([]))))))))) [.arr (bytesL o) 1 0] k
  = k (.exit 0) (.d (.str s) :: .d (.int .i64 x) :: .d (.int .i64 y) :: Y2 (Y1 (.d (.str ([])) :: .sl 0 0 0 s.length :: Y16 (Y2 (.d (.int .i64 (s.length)) :: .d (.int .i64 (s.length)) :: Y8 (Y4 (Y2 (Y1 ([]))))))))) [.arr (bytesL (o.take i.toNat ++ (s.drop i.toNat).map (swapB x y))) 1 0] := by
 intro i m o len h0 hi hm hl ho
 obtain ⟨j, hj⟩ : ∃ j : Nat, (j : Int) = (s.length : Int) - i := ⟨((s.length : Int) - i).toNat, by omega⟩
 induction j generalizing i m o len with
 | zero =>
  obtain ⟨m, rfl⟩ : ∃ q, m = q + 1 := ⟨m - 1, by omega⟩
  obtain rfl : i = s.length := by omega
  rw [xdp]
  simp only [xbv, Try.f14, SLM, simprocAttr]
  simp -implicitDefEqProofs (maxSteps := 2000000) (disch := first | assumption | (refine Shut.mk ?_; kernel_rfl) | omega | (simp only [GT]; done) | (simp only [LN] <;> omega) | fail) only [↓DN, ↓kAsg, ↓kRet, UP, simprocAttr, ↓x5i, ↓xz, ↓x13, ↓x12, ↓x15, u_string, Int.lt_irrefl]
  have e1 : o.take s.length = o := List.take_of_length_le (by omega)
  rw [List.drop_length, e1, List.map_nil, List.append_nil, hl, ho]
 | succ j ih =>
  obtain ⟨m, rfl⟩ : ∃ q, m = q + 1 := ⟨m - 1, by omega⟩
  have hc : i < s.length := by omega
  have hk : i.toNat < s.length := by omega
  have hk2 : i.toNat < o.length := by omega
  have e1 : (i + 1).toNat = i.toNat + 1 := by omega
  have hb := all_at (d := 0) ha hk
  have hsl := isLet_iff.1 hb
  have hsw := swapI_let hsl.1 hx hy
  have hsw2 := swapI_le hsl.2 hx6 hy6
  have hlet : isLet (ltr (s.getD i.toNat 0)) = true := hb
  have hlen : (o.set i.toNat (byteI (swapI (ltr (s.getD i.toNat 0)) x y))).length = s.length := by rw [List.length_set]; exact ho
  have hc2 : i < (len : Int) := by omega
  rw [xdp]
  simp only [xbv, Try.f14, SLM, simprocAttr]
  simp -implicitDefEqProofs (maxSteps := 2000000) (disch := first | assumption | (refine Shut.mk ?_; kernel_rfl) | omega | (simp only [GT]; done) | (simp only [LN] <;> omega) | fail) only [↓DN, ↓kAsg, ↓kRet, UP, simprocAttr, ↓x5i, ↓xz, u_string, hc, hc2, ↓x13, hlet, ↓x12, ↓x15, u_bytes, c_uint8, Nat.lt_irrefl, bytesL_length, ↓xo4, ↓ih]
  rw [map_go hk (d := 0), e1, set_go hk2]
  rfl
theorem xnd {L n : Nat} (hn : 4 ≤ n) (s : List UInt8) (x y : Int) (hL : 2 ^ 60 ≤ L) : evCall env L n 14 [.d (.str s), .d (.int .i64 x), .d (.int .i64 y)] [] = some (.d (.str (swapWord s x y)), []) := by
 unfold swapWord
 cases hw : wordOK s with
 | false =>
  obtain ⟨n, rfl⟩ : ∃ m, n = m + 1 := ⟨n - 1, by omega⟩
  rw [x9h]
  simp only [x7g, Try.f14, SLM, simprocAttr]
  simp -implicitDefEqProofs (maxSteps := 2000000) (disch := first | assumption | (refine Shut.mk ?_; kernel_rfl) | omega | (simp only [GT]; done) | (simp only [LN] <;> omega) | fail) only [↓DN, ↓kAsg, ↓kRet, UP, simprocAttr, ↓xz, ↓x13, ↓x12, ↓x15, ↓x7d, ↓x5i, hw, Bool.false_and]
 | true =>
  cases hx : isLet x with
  | false =>
   obtain ⟨n, rfl⟩ : ∃ m, n = m + 1 := ⟨n - 1, by omega⟩
   rw [x9h]
   simp only [x7g, Try.f14, SLM, simprocAttr]
   simp -implicitDefEqProofs (maxSteps := 2000000) (disch := first | assumption | (refine Shut.mk ?_; kernel_rfl) | omega | (simp only [GT]; done) | (simp only [LN] <;> omega) | fail) only [↓DN, ↓kAsg, ↓kRet, UP, simprocAttr, ↓x13, ↓x12, ↓x15, ↓x7d, ↓x5i, ↓xz, hw, hx, Bool.false_and, Bool.and_false]
  | true =>
   cases hy : isLet y with
   | false =>
    obtain ⟨n, rfl⟩ : ∃ m, n = m + 1 := ⟨n - 1, by omega⟩
    rw [x9h]
    simp only [x7g, Try.f14, SLM, simprocAttr]
    simp -implicitDefEqProofs (maxSteps := 2000000) (disch := first | assumption | (refine Shut.mk ?_; kernel_rfl) | omega | (simp only [GT]; done) | (simp only [LN] <;> omega) | fail) only [↓DN, ↓kAsg, ↓kRet, UP, simprocAttr, ↓x13, ↓x12, ↓x15, ↓x7d, ↓x5i, ↓xz, hw, hx, hy, Bool.and_false]
   | true =>
    have bx := isLet_iff.1 hx
    have by' := isLet_iff.1 hy
    have hw' := hw
    unfold wordOK at hw'
    simp only [Bool.and_eq_true, decide_eq_true_eq] at hw'
    obtain ⟨hw1, hw2⟩ := hw'
    obtain ⟨n, rfl⟩ : ∃ m, n = m + 1 := ⟨n - 1, by omega⟩
    rw [x9h]
    simp only [x7g, Try.f14, SLM, simprocAttr]
    simp -implicitDefEqProofs (maxSteps := 2000000) (disch := first | assumption | (refine Shut.mk ?_; kernel_rfl) | omega | (simp only [GT]; done) | (simp only [LN] <;> omega) | fail) only [↓DN, ↓kAsg, ↓kRet, UP, simprocAttr, ↓x13, ↓x12, ↓x15, ↓x5i, ↓xz, hw, hx, hy, Bool.and_self, u_string, u_bytes, ↓make_bytes, Int.toNat_natCast, ↓x7d, string_rep, ↓conv_bytes_str]
theorem x5v {R : Type} {L n : Nat} {hq : H} {k : A → H → Option R} (hn : 4 ≤ n) (s : List UInt8) (x y : Int) (hL : 2 ^ 60 ≤ L) : kCall env (evCall env L n) hq 14 [.d (.str s), .d (.int .i64 x), .d (.int .i64 y)] k = k (.d (.str (swapWord s x y))) hq :=
 kCall_still rfl (xnd hn s x y hL) rfl (.inl rfl)
end Ev
end Go.Proofs.Ytppdfjdfjfoddaa
end

/-!
  The random source, and words that are drawn.
-/
section
set_option linter.unusedSimpArgs false
set_option linter.unusedVariables false
set_option maxRecDepth 8000
set_option pp.maxSteps 6000
set_option maxHeartbeats 4000000
namespace Go.Proofs.Ytppdfjdfjfoddaa
namespace Ev
theorem kCall_rd {R : Type} {call : CallF} {h : H} {f : FuncId} {args : List A} {c : List UInt8} {p q : Int} {r : A} {k : A → H → Option R} (hm : (env.hint f).mode = 0) (ha : idsL args = []) (hr : idsA r = []) (he : call f (.ptr 0 0 0 :: args) [O.box [A.d (D.ivs c.length (bytesL c)), A.d (D.int .i64 p)]] = some (r, [O.box [A.d (D.ivs c.length (bytesL c)), A.d (D.int .i64 q)]])) :
  kCall env call (O.box [A.d (D.ivs c.length (bytesL c)), A.d (D.int .i64 p)] :: h) f (.ptr 0 0 0 :: args) k = k r (O.box [A.d (D.ivs c.length (bytesL c)), A.d (D.int .i64 q)] :: h) := by
 have hid : idsL (A.ptr 0 0 0 :: args) = [0] := by simp [idsL, idsA, ha]
 have hre : reach fuelR (O.box [A.d (D.ivs c.length (bytesL c)), A.d (D.int .i64 p)] :: h) [0] [] = [0] := rfl
 have hpk : pack (O.box [A.d (D.ivs c.length (bytesL c)), A.d (D.int .i64 p)] :: h) [0] = [O.box [A.d (D.ivs c.length (bytesL c)), A.d (D.int .i64 p)]] := rfl
 have hma : mapAs (place [0]) (A.ptr 0 0 0 :: args) = A.ptr 0 0 0 :: args := by
  simp only [mapAs, mapAs_none _ ha]; rfl
 unfold kCall
 rw [hid, hre, hpk, hma]
 have hc : aCall call env.hint [O.box [A.d (D.ivs c.length (bytesL c)), A.d (D.int .i64 p)]] f (.ptr 0 0 0 :: args) = some (r, [O.box [A.d (D.ivs c.length (bytesL c)), A.d (D.int .i64 q)]]) := by
  unfold aCall; rw [hm]; exact he
 rw [hc]
 have hcl : closed (O.box [A.d (D.ivs c.length (bytesL c)), A.d (D.int .i64 p)] :: h) [0] [0] = true := rfl
 simp only [List.length_cons, List.length_nil, Nat.le_refl, hcl, and_self, if_true, mapA_none r hr]
 congr 1
 simp [putBack, mapO, mapAs, mapA]
theorem m_pick : (env.hint 74).mode = 0 := by kernel_rfl
theorem iXor_bound {a b : Int} (ha : 0 ≤ a) (ha2 : a < 2 ^ 62) (hb : 0 ≤ b) (hb2 : b < 2 ^ 62) : 0 ≤ iXor .i64 a b ∧ iXor .i64 a b < 2 ^ 62 := by
 obtain ⟨m, rfl⟩ := Int.eq_ofNat_of_zero_le ha
 obtain ⟨n, rfl⟩ := Int.eq_ofNat_of_zero_le hb
 have hm : m < 2 ^ 62 := by omega
 have hn : n < 2 ^ 62 := by omega
 have hx : (BitVec.ofInt 64 (m : Int) ^^^ BitVec.ofInt 64 (n : Int)).toNat = m ^^^ n := by
  rw [BitVec.toNat_xor]
  congr 1 <;> (simp only [BitVec.ofInt_natCast, BitVec.toNat_ofNat]; omega)
 have hlt : m ^^^ n < 2 ^ 62 := Nat.xor_lt_two_pow hm hn
 unfold iXor
 have : (BitVec.ofInt IntKind.i64.bits (m : Int) ^^^ BitVec.ofInt IntKind.i64.bits (n : Int)).toNat = m ^^^ n := hx
 rw [this, i64_id (by omega) (by omega)]
 omega
theorem x35 {c : List UInt8} (hc : c.length ≤ 2000) (p b : Int) (hp : 0 ≤ p) (hp2 : p ≤ 1000000000) : ∃ v : Int, 0 ≤ v ∧ (1 ≤ b → v < b) ∧ (b < 1 → v = 0) ∧ (∀ (R : Type) (L n : Nat) (hq : H) (k : A → H → Option R), 1 ≤ n → 2 ^ 60 ≤ L → kCall env (evCall env L n) (O.box [A.d (D.ivs c.length (bytesL c)), A.d (D.int .i64 p)] :: hq) 74 (.ptr 0 0 0 :: [.d (.int .i64 b)]) k = k (.d (.int .i64 v)) (O.box [A.d (D.ivs c.length (bytesL c)), A.d (D.int .i64 (p + 1))] :: hq)) := by
 by_cases h1 : b < 1
 ·refine ⟨0, by omega, by omega, by omega, fun R L n hq k hn hL => kCall_rd m_pick rfl rfl ?_⟩
  obtain ⟨n, rfl⟩ : ∃ m, n = m + 1 := ⟨n - 1, by omega⟩
  rw [x79]
  simp only [x6i, Try.f74, SLM, simprocAttr]
  simp -implicitDefEqProofs (maxSteps := 2000000) (disch := first | assumption | (refine Shut.mk ?_; kernel_rfl) | omega | (simp only [GT]; done) | (simp only [LN] <;> omega) | fail) only [↓DN, ↓kAsg, ↓kRet, UP, simprocAttr, h1]
 ·by_cases h2 : c.length = 0
  ·refine ⟨0, by omega, by omega, by omega, fun R L n hq k hn hL => kCall_rd m_pick rfl rfl ?_⟩
   have h2' : (c.length : Int) = 0 := by omega
   obtain ⟨n, rfl⟩ : ∃ m, n = m + 1 := ⟨n - 1, by omega⟩
   rw [x79]
   simp only [x6i, Try.f74, SLM, simprocAttr]
   simp -implicitDefEqProofs (maxSteps := 2000000) (disch := first | assumption | (refine Shut.mk ?_; kernel_rfl) | omega | (simp only [GT]; done) | (simp only [LN] <;> omega) | fail) only [↓DN, ↓kAsg, ↓kRet, UP, simprocAttr, h1, h2']
  ·have h2' : ¬ (c.length : Int) = 0 := by omega
   by_cases h3 : p < c.length
   ·have hb : b ≠ 0 := by omega
    have t0 : 0 ≤ ((c.getD p.toNat 0).toNat : Int).tmod b := Int.tmod_nonneg b (by omega)
    have t1 : ((c.getD p.toNat 0).toNat : Int).tmod b < b := Int.tmod_lt_of_pos _ (by omega)
    refine ⟨((c.getD p.toNat 0).toNat : Int).tmod b, t0, fun _ => t1, by omega, fun R L n hq k hn hL => kCall_rd m_pick rfl rfl ?_⟩
    have e1 : p + 1 - 1 = p := by omega
    obtain ⟨n, rfl⟩ : ∃ m, n = m + 1 := ⟨n - 1, by omega⟩
    rw [x79]
    simp only [x6i, Try.f74, SLM, simprocAttr]
    simp -implicitDefEqProofs (maxSteps := 2000000) (disch := first | assumption | (refine Shut.mk ?_; kernel_rfl) | omega | (simp only [GT]; done) | (simp only [LN] <;> omega) | fail) only [↓DN, ↓kAsg, ↓kRet, UP, simprocAttr, h1, h2', e1, h3]
   ·have e1 : p + 1 - 1 = p := by omega
    have hl1 : (0 : Int) < c.length := by omega
    have q1 : 0 ≤ p.tmod c.length := Int.tmod_nonneg _ hp
    have q2 : p.tmod c.length < c.length := Int.tmod_lt_of_pos _ hl1
    have q3 : 0 ≤ (p * 7 + 3).tmod c.length := Int.tmod_nonneg _ (by omega)
    have q4 : (p * 7 + 3).tmod c.length < c.length := Int.tmod_lt_of_pos _ hl1
    have q5 : 0 ≤ p.tdiv c.length := Int.tdiv_nonneg hp (by omega)
    have q6 : p.tdiv c.length ≤ p := Int.tdiv_le_self _ hp
    have b1 := toNat_lt (c.getD (p.tmod c.length).toNat 0)
    have b2 := toNat_lt (c.getD ((p * 7 + 3).tmod c.length).toNat 0)
    have r1 : (p.tmod c.length).toNat < c.length := by omega
    have r2 : ((p * 7 + 3).tmod c.length).toNat < c.length := by omega
    obtain ⟨x, hx⟩ : ∃ x : Int, x = ((c.getD (p.tmod c.length).toNat 0).toNat : Int) * 131 + ((c.getD ((p * 7 + 3).tmod c.length).toNat 0).toNat : Int) * 1117 + p * 29 + p.tdiv c.length * 53 := ⟨_, rfl⟩
    have x0 : 0 ≤ x := by omega
    have x1 : x < 2 ^ 62 := by omega
    have y0 : 0 ≤ x.tdiv 64 := Int.tdiv_nonneg x0 (by omega)
    have y1 : x.tdiv 64 < 2 ^ 62 := by have := Int.tdiv_le_self 64 x0; omega
    have z := iXor_bound x0 x1 y0 y1
    have hb : b ≠ 0 := by omega
    have t0 : 0 ≤ (iXor .i64 x (x.tdiv 64)).tmod b := Int.tmod_nonneg b z.1
    have t1 : (iXor .i64 x (x.tdiv 64)).tmod b < b := Int.tmod_lt_of_pos _ (by omega)
    refine ⟨(iXor .i64 x (x.tdiv 64)).tmod b, t0, fun _ => t1, by omega, fun R L n hq k hn hL => kCall_rd m_pick rfl rfl ?_⟩
    clear b1 b2 z t0 t1
    have b1 := toNat_lt (c.getD (p.tmod c.length).toNat 0)
    have b2 := toNat_lt (c.getD ((p * 7 + 3).tmod c.length).toNat 0)
    subst hx
    obtain ⟨n, rfl⟩ : ∃ m, n = m + 1 := ⟨n - 1, by omega⟩
    rw [x79]
    simp only [x6i, Try.f74, SLM, simprocAttr]
    simp -implicitDefEqProofs (maxSteps := 2000000) (disch := first | assumption | (refine Shut.mk ?_; kernel_rfl) | omega | (simp only [GT]; done) | (simp only [LN] <;> omega) | fail) only [↓DN, ↓kAsg, ↓kRet, UP, simprocAttr, h1, h2', e1, h3]
theorem m_num : (env.hint 78).mode = 0 := by kernel_rfl
theorem m_of : (env.hint 105).mode = 0 := by kernel_rfl
theorem m_l17Two : (env.hint 34).mode = 0 := by kernel_rfl
theorem kCall_rdN {R : Type} {call : CallF} {hq : H} {f : FuncId} {c : List UInt8} {p q : Int} {r : A} {k : A → H → Option R} {cs : List D} {e g n id : Nat} (hi : hq[id]? = some (.arr cs e g)) (hm : (env.hint f).mode = 0) (hr : idsA r = []) (he : call f [.ptr 0 0 0, .sl 1 g 0 n] [O.box [A.d (D.ivs c.length (bytesL c)), A.d (D.int .i64 p)], .arr cs e g] = some (r, [O.box [A.d (D.ivs c.length (bytesL c)), A.d (D.int .i64 q)], .arr cs e g])) :
  kCall env call (O.box [A.d (D.ivs c.length (bytesL c)), A.d (D.int .i64 p)] :: hq) f [.ptr 0 0 0, .sl (id + 1) g 0 n] k = k r (O.box [A.d (D.ivs c.length (bytesL c)), A.d (D.int .i64 q)] :: hq) := by
 have hlk : (O.box [A.d (D.ivs c.length (bytesL c)), A.d (D.int .i64 p)] :: hq)[id + 1]? = some (.arr cs e g) := by rw [List.getElem?_cons_succ]; exact hi
 have hre : reach fuelR (O.box [A.d (D.ivs c.length (bytesL c)), A.d (D.int .i64 p)] :: hq) [0, id + 1] [] = [0, id + 1] := by
  have e1 : reach fuelR (O.box [A.d (D.ivs c.length (bytesL c)), A.d (D.int .i64 p)] :: hq) [0, id + 1] [] = reach (fuelR - 1) (O.box [A.d (D.ivs c.length (bytesL c)), A.d (D.int .i64 p)] :: hq) [id + 1] [0] := rfl
  have e2 : reach (fuelR - 1) (O.box [A.d (D.ivs c.length (bytesL c)), A.d (D.int .i64 p)] :: hq) [id + 1] [0] = if [0].contains (id + 1) = true then reach (fuelR - 2) (O.box [A.d (D.ivs c.length (bytesL c)), A.d (D.int .i64 p)] :: hq) [] [0] else match (O.box [A.d (D.ivs c.length (bytesL c)), A.d (D.int .i64 p)] :: hq)[id + 1]? with
   | some (.box cs) => reach (fuelR - 2) (O.box [A.d (D.ivs c.length (bytesL c)), A.d (D.int .i64 p)] :: hq) ([] ++ idsL cs) ([0] ++ [id + 1])
   | some (.vec cs _ _) => reach (fuelR - 2) (O.box [A.d (D.ivs c.length (bytesL c)), A.d (D.int .i64 p)] :: hq) ([] ++ idsL cs) ([0] ++ [id + 1])
   | some .void => reach (fuelR - 2) (O.box [A.d (D.ivs c.length (bytesL c)), A.d (D.int .i64 p)] :: hq) [] [0]
   | some _ => reach (fuelR - 2) (O.box [A.d (D.ivs c.length (bytesL c)), A.d (D.int .i64 p)] :: hq) [] ([0] ++ [id + 1])
   | none => reach (fuelR - 2) (O.box [A.d (D.ivs c.length (bytesL c)), A.d (D.int .i64 p)] :: hq) [] [0] := rfl
  have e3 : [0].contains (id + 1) = false := by simp
  rw [e1, e2, e3, hlk]
  rfl
 have hpk : pack (O.box [A.d (D.ivs c.length (bytesL c)), A.d (D.int .i64 p)] :: hq) [0, id + 1] = [O.box [A.d (D.ivs c.length (bytesL c)), A.d (D.int .i64 p)], .arr cs e g] := by
  simp only [pack, List.map_cons, List.map_nil, List.getD_eq_getElem?_getD, hlk]
  rfl
 unfold kCall
 have hid : idsL [A.ptr 0 0 0, A.sl (id + 1) g 0 n] = [0, id + 1] := rfl
 rw [hid, hre, hpk]
 have hma : mapAs (place [0, id + 1]) [A.ptr 0 0 0, A.sl (id + 1) g 0 n] = [A.ptr 0 0 0, A.sl 1 g 0 n] := by
  simp [mapAs, mapA, place]
 rw [hma]
 have hc : aCall call env.hint [O.box [A.d (D.ivs c.length (bytesL c)), A.d (D.int .i64 p)], .arr cs e g] f [.ptr 0 0 0, .sl 1 g 0 n] = some (r, [O.box [A.d (D.ivs c.length (bytesL c)), A.d (D.int .i64 q)], .arr cs e g]) := by
  unfold aCall; rw [hm]; exact he
 rw [hc]
 have hcl : closed (O.box [A.d (D.ivs c.length (bytesL c)), A.d (D.int .i64 p)] :: hq) [0, id + 1] [0, id + 1] = true := by
  simp only [closed, List.all_cons, List.all_nil, hlk, List.getElem?_cons_zero]
  simp [idsL, idsA]
 simp only [List.length_cons, List.length_nil, Nat.le_refl, hcl, and_self, if_true, mapA_none r hr]
 congr 1
 simp only [putBack, mapO, mapAs, mapA, List.map_nil, List.append_nil, List.set_cons_zero, List.set_cons_succ]
 congr 1
 exact getSome hi
theorem getD_mem {α : Type} {l : List α} {k : Nat} {d : α} (h : k < l.length) : l.getD k d ∈ l := by
 rw [List.getD_eq_getElem?_getD, List.getElem?_eq_getElem h]; exact List.getElem_mem h
theorem xpv {c : List UInt8} (hc : c.length ≤ 2000) (l : List Int) (g : Nat) (hl : 0 < l.length) (hl2 : l.length < 1000) (p : Int) (hp : 0 ≤ p) (hp2 : p ≤ 1000000000) : ∃ v : Int, v ∈ l ∧ ∀ (L n : Nat), 2 ≤ n → 2 ^ 60 ≤ L → evCall env L n 78 [.ptr 0 0 0, .sl 1 g 0 l.length] [O.box [A.d (D.ivs c.length (bytesL c)), A.d (D.int .i64 p)], .arr (ints l) 1 g] = some (.d (.int .i64 v), [O.box [A.d (D.ivs c.length (bytesL c)), A.d (D.int .i64 (p + 1))], .arr (ints l) 1 g]) := by
 obtain ⟨v, v0, v1, _, kd⟩ := x35 hc p l.length hp hp2
 have v1 := v1 (by omega)
 have hk : v.toNat < l.length := by omega
 refine ⟨l.getD v.toNat 0, getD_mem hk, fun L n hn hL => ?_⟩
 obtain ⟨n, rfl⟩ : ∃ m, n = m + 1 := ⟨n - 1, by omega⟩
 rw [xme]
 simp only [xhq, Try.f78, SLM, simprocAttr]
 simp -implicitDefEqProofs (maxSteps := 2000000) (disch := first | assumption | (refine Shut.mk ?_; kernel_rfl) | omega | (simp only [GT]; done) | (simp only [LN] <;> omega) | fail) only [↓DN, ↓kAsg, ↓kRet, UP, simprocAttr, ↓kd]
theorem x8x {c : List UInt8} (hc : c.length ≤ 2000) (l : List Int) (hl : 0 < l.length) (hl2 : l.length < 1000) (p : Int) (hp : 0 ≤ p) (hp2 : p ≤ 1000000000) : ∃ v : Int, v ∈ l ∧ (∀ (R : Type) (L n id : Nat) (hq : H) (k : A → H → Option R), 2 ≤ n → 2 ^ 60 ≤ L → hq[id]? = some (.arr (ints l) 1 0) → kCall env (evCall env L n) (O.box [A.d (D.ivs c.length (bytesL c)), A.d (D.int .i64 p)] :: hq) 78 [.ptr 0 0 0, .sl (id + 1) 0 0 l.length] k = k (.d (.int .i64 v)) (O.box [A.d (D.ivs c.length (bytesL c)), A.d (D.int .i64 (p + 1))] :: hq)) := by
 obtain ⟨v, hv, he⟩ := xpv hc l 0 hl hl2 p hp hp2
 exact ⟨v, hv, fun R L n id hq k hn hL hi => kCall_rdN hi m_num rfl (he L n hn hL)⟩
def strsL (l : List (List UInt8)) : List D := l.map .str
theorem strsL_length {l : List (List UInt8)} : (strsL l).length = l.length := by simp [strsL]
theorem strsL_head {l : List (List UInt8)} {k : Nat} (h : k < l.length) : (((strsL l).drop k).map A.d).head? = some (.d (.str (l.getD k []))) := by
 rw [List.head?_map, List.head?_drop, strsL, List.getElem?_map, List.getD_eq_getElem?_getD, List.getElem?_eq_getElem h]
 rfl
theorem xpu {c : List UInt8} (hc : c.length ≤ 2000) (l : List (List UInt8)) (hl : 0 < l.length) (hl2 : l.length < 1000) (p : Int) (hp : 0 ≤ p) (hp2 : p ≤ 1000000000) : ∃ v : List UInt8, v ∈ l ∧ (∀ (R : Type) (L n : Nat) (hq : H) (k : A → H → Option R), 2 ≤ n → 2 ^ 60 ≤ L → kCall env (evCall env L n) (O.box [A.d (D.ivs c.length (bytesL c)), A.d (D.int .i64 p)] :: hq) 105 (.ptr 0 0 0 :: [.d (.ivs l.length (strsL l))]) k = k (.d (.str v)) (O.box [A.d (D.ivs c.length (bytesL c)), A.d (D.int .i64 (p + 1))] :: hq)) := by
 obtain ⟨v, v0, v1, _, kd⟩ := x35 hc p l.length hp hp2
 have v1 := v1 (by omega)
 have hk : v.toNat < l.length := by omega
 refine ⟨l.getD v.toNat [], getD_mem hk, fun R L n hq k hn hL => kCall_rd m_of rfl rfl ?_⟩
 obtain ⟨n, rfl⟩ : ∃ m, n = m + 1 := ⟨n - 1, by omega⟩
 rw [xn4]
 simp only [xii, Try.f105, SLM, simprocAttr]
 simp -implicitDefEqProofs (maxSteps := 2000000) (disch := first | assumption | (refine Shut.mk ?_; kernel_rfl) | omega | (simp only [GT]; done) | (simp only [LN] <;> omega) | fail) only [↓DN, ↓kAsg, ↓kRet, UP, simprocAttr, ↓kd, strsL_length, strsL_head]
end Ev
end Go.Proofs.Ytppdfjdfjfoddaa
end

/-!
  The letters of an alphabet: the reference's.
-/
section
set_option linter.unusedSimpArgs false
set_option linter.unusedVariables false
set_option maxRecDepth 8000
set_option maxHeartbeats 4000000
set_option pp.maxSteps 6000
namespace Go.Proofs.Ytppdfjdfjfoddaa
namespace Ev
theorem xkp {R : Type} {L n : Nat} (hn : 1 ≤ n) {a : Int} {k : Exit → List A → H → Option R} : ∀ (i : Int) (m : Nat) (l : List Int) (len : Nat) (h0 : 0 ≤ i) (hi : i ≤ 6) (hm : 6 - i < m) (hl : len = l.length) (hlen : (l.length : Int) ≤ i),
  kLoop env (evCall env L n) L 0 [] (U1 (Z1 (U2 (U1 (Z8 (Z4 (Z1 ([])))))))) (x6j 0) (Z1 (U1 (Z2 (Z1 (U8 (U4 (U1 ([])))))))) m (.d (.int .i64 a) :: Y1 (.d .nils :: .sl 0 0 0 len :: .d (.int .i64 i) :: Y8 (Y4 (Y1 ([]))))) [.arr (ints l) 1 0] k
  = k (.exit 0) (.d (.int .i64 a) :: Y1 (.d .nils :: .sl 0 0 0 (len + ((restL (6 - i).toNat).filter (bitAt a)).length) :: .d (.int .i64 6) :: Y8 (Y4 (Y1 ([]))))) [.arr (ints (l ++ (restL (6 - i).toNat).filter (bitAt a))) 1 0] := by
 intro i m l len h0 hi hm hl hlen
 obtain ⟨j, hj⟩ : ∃ j : Nat, (j : Int) = (6 : Int) - i := ⟨((6 : Int) - i).toNat, by omega⟩
 induction j generalizing i m l len with
 | zero =>
  obtain ⟨m, rfl⟩ : ∃ q, m = q + 1 := ⟨m - 1, by omega⟩
  obtain rfl : i = 6 := by omega
  rw [x7t]
  simp only [x7a, Try.f44, SLM, simprocAttr]
  simp -implicitDefEqProofs (maxSteps := 2000000) (disch := first | assumption | (refine Shut.mk ?_; kernel_rfl) | omega | (simp only [GT]; done) | (simp only [LN] <;> omega) | fail) only [↓DN, ↓kAsg, ↓kRet, UP, simprocAttr, ↓x22]
  simp only [restL, List.filter_nil, List.append_nil, List.length_nil, Nat.add_zero]
 | succ j ih =>
  obtain ⟨m, rfl⟩ : ∃ q, m = q + 1 := ⟨m - 1, by omega⟩
  have hc : i < 6 := by omega
  have e1 : (6 - i).toNat = j + 1 := by omega
  have e2 : (6 - (i + 1)).toNat = j := by omega
  have hr : restL (j + 1) = i :: restL j := by simp only [restL]; congr 1; omega
  rw [e1, hr, List.filter_cons]
  cases hb : bitAt a i with
  | true =>
   rw [x7t]
   simp only [x7a, Try.f44, SLM, simprocAttr]
   simp -implicitDefEqProofs (maxSteps := 2000000) (disch := first | assumption | (refine Shut.mk ?_; kernel_rfl) | omega | (simp only [GT]; done) | (simp only [LN] <;> omega) | fail) only [↓DN, ↓kAsg, ↓kRet, UP, simprocAttr, ↓x22, ↓ih, hc, hb, e2]
   simp only [List.append_assoc, List.cons_append, List.nil_append, Nat.add_assoc, Nat.add_comm 1]
  | false =>
   rw [x7t]
   simp only [x7a, Try.f44, SLM, simprocAttr]
   simp -implicitDefEqProofs (maxSteps := 2000000) (disch := first | assumption | (refine Shut.mk ?_; kernel_rfl) | omega | (simp only [GT]; done) | (simp only [LN] <;> omega) | fail) only [↓DN, ↓kAsg, ↓kRet, UP, simprocAttr, ↓x22, ↓ih, hc, hb, e2]
theorem restL6 : restL (6 - (0 : Int)).toNat = [0, 1, 2, 3, 4, 5] := rfl
theorem xmg {L n : Nat} (hn : 2 ≤ n) (a : Int) (hL : 2 ^ 60 ≤ L) : evCall env L n 44 [.d (.int .i64 a)] [] = some (.d (.ivs (letters a).length (ints (letters a))), []) := by
 unfold letters
 rw [← restL6]
 obtain ⟨n, rfl⟩ : ∃ m, n = m + 1 := ⟨n - 1, by omega⟩
 rw [xm9]
 simp only [xht, Try.f44, SLM, simprocAttr]
 simp -implicitDefEqProofs (maxSteps := 2000000) (disch := first | assumption | (refine Shut.mk ?_; kernel_rfl) | omega | (simp only [GT]; done) | (simp only [LN] <;> omega) | fail) only [↓DN, ↓kAsg, ↓kRet, UP, simprocAttr, ↓x22, nil_ints, ↓xkp]
theorem xc {R : Type} {L n : Nat} {hq : H} {k : A → H → Option R} (hn : 2 ≤ n) (a : Int) (hL : 2 ^ 60 ≤ L) : kCall env (evCall env L n) hq 44 [.d (.int .i64 a)] k = k (.d (.ivs (letters a).length (ints (letters a)))) hq :=
 kCall_still rfl (xmg hn a hL) rfl (.inr rfl)
end Ev
end Go.Proofs.Ytppdfjdfjfoddaa
end

/-!
  Words that are drawn.
-/
section
set_option linter.unusedSimpArgs false
set_option linter.unusedVariables false
set_option maxRecDepth 8000
set_option maxHeartbeats 4000000
set_option pp.maxSteps 6000
namespace Go.Proofs.Ytppdfjdfjfoddaa
namespace Ev
end Ev
end Go.Proofs.Ytppdfjdfjfoddaa
end
